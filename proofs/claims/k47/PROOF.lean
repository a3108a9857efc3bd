import PyProof.Rows.All
import Wide.All
import OpenK.AllK
import Wide.FinOn
import HandS.ForMost
import HandS.Exc
import HandS.Conv
import HandS.Zip
import HandS.Style
import HandS.Flow
import HandS.IsInst
import HandS.Deep
import HandS.Defaults
import HandS.TupAny
import HandS.TupMul
import HandS.Rev
import KE.KDictKeyed
import KE.SortData
import HandS.SetKeys
import HandS.More
import KE.KDictPairs
import KE.GoesZip
import HandS.Zip0
import HandS.DictComp
import HandS.Ends
import HandS.Words
import HandS.WordsExc
import HandS.Head0
import HandS.Head1
import HandS.Head2
import HandS.HeadEnd
import HandS.HeadHook1
import HandS.HeadHook2
import HandS.HeadHook4
import PySem.Challenge.RW_strangewords_k47_whole_the_answerer_of_a
section
set_option linter.all false
set_option autoImplicit false
/-! mini: a small language over data, its meaning by weakest preconditions -/
namespace M

inductive D where
  | non
  | bl (b : Bool)
  | int (i : Int)
  | str (s : List Nat)
  | tup (xs : List D)
  | lst (xs : List D)
  | ref (a : Nat)
  deriving Inhabited

mutual
/-- Python's == on data (a list's snapshot is a .lst) -/
def eqD : D → D → Bool
  | .non, .non => true
  | .bl a, .bl b => a == b
  | .bl a, .int j => (if a then 1 else 0) == j
  | .int i, .bl b => i == (if b then 1 else 0)
  | .int i, .int j => decide (i = j)
  | .str x, .str y => decide (x = y)
  | .tup xs, .tup ys => eqDs xs ys
  | .lst xs, .lst ys => eqDs xs ys
  | _, _ => false
def eqDs : List D → List D → Bool
  | [], [] => true
  | x :: xs, y :: ys => eqD x y && eqDs xs ys
  | _, _ => false
end
mutual
def dep : D → Nat
  | .tup xs => deps xs + 1
  | .lst xs => deps xs + 1
  | _ => 0
def deps : List D → Nat
  | [] => 0
  | x :: xs => max (dep x) (deps xs)
end
mutual
/-- no list, no dict in it -/
def pureD : D → Bool
  | .tup xs => pureDs xs
  | .lst _ => false
  | .ref _ => false
  | _ => true
def pureDs : List D → Bool
  | [] => true
  | x :: xs => pureD x && pureDs xs
end

inductive Cell where
  | lst (xs : List D)
  | ro (xs : List D)
  | dct (kvs : List (D × D))
  deriving Inhabited

abbrev Hm := List Cell
abbrev Env := List (Option D)
abbrev VQ := D → Hm → Prop

def LIM : Nat := 16777216

def ws {α : Type} (o : Option α) (f : α → Prop) : Prop := match o with
  | some a => f a
  | none => False
@[simp] theorem ws_some {α : Type} {a : α} {f : α → Prop} : ws (some a) f = f a := rfl
@[simp] theorem ws_none {α : Type} {f : α → Prop} : ws (none : Option α) f = False := rfl
theorem ws_iff {α : Type} {o : Option α} {f : α → Prop} : ws o f ↔ ∃ a, o = some a ∧ f a := by
  cases o with
  | none => simp
  | some a => simp
theorem ws_mono {α : Type} {o : Option α} {f g : α → Prop} (h : ws o f) (k : ∀ a, f a → g a) : ws o g := by
  cases o with
  | none => exact h
  | some a => exact k a h

def getL (h : Hm) (a : Nat) : Option (List D) := match h[a]? with
  | some (.lst xs) => some xs
  | some (.ro xs) => some xs
  | _ => none
def getM (h : Hm) (a : Nat) : Option (List D) := match h[a]? with
  | some (.lst xs) => some xs
  | _ => none
def getK (h : Hm) (a : Nat) : Option (List (D × D)) := match h[a]? with
  | some (.dct kvs) => some kvs
  | _ => none

/-! snapshots -/
mutual
def snapD (f : Nat → Option (List D)) : D → Option D
  | .ref a => (f a).map D.lst
  | .tup xs => (snapDs f xs).map D.tup
  | .lst _ => none
  | d => some d
def snapDs (f : Nat → Option (List D)) : List D → Option (List D)
  | [] => some []
  | x :: xs => match snapD f x, snapDs f xs with
    | some y, some ys => some (y :: ys)
    | _, _ => none
end
def snapN (h : Hm) : Nat → Nat → Option (List D)
  | 0, _ => none
  | n + 1, a => match getL h a with
    | some xs => snapDs (snapN h n) xs
    | none => none
def snap (h : Hm) (d : D) : Option D := snapD (snapN h 6) d

/-- == of two values -/
def eqv (h : Hm) (a b : D) : Option Bool := match snap h a, snap h b with
  | some x, some y => if min (dep x) (dep y) ≤ 60 then some (eqD x y) else none
  | _, _ => none

def truth (h : Hm) : D → Option Bool
  | .non => some false
  | .bl b => some b
  | .int i => some (decide (i ≠ 0))
  | .str s => some (!s.isEmpty)
  | .tup xs => some (!xs.isEmpty)
  | .ref a => match h[a]? with
    | some (.lst xs) => some (!xs.isEmpty)
    | some (.ro xs) => some (!xs.isEmpty)
    | _ => none
  | .lst _ => none

/-! dicts: association lists by == -/
/-- a key: a whole number, a text, or a tuple (nested to eight deep) -/
def keyOK : D → Bool
  | .int _ => true
  | .str _ => true
  | .tup xs => pureDs xs && decide (deps xs ≤ 7)
  | _ => false
/-- a leaf key -/
def leafB : D → Bool
  | .int _ => true
  | .str _ => true
  | _ => false
def isTup : D → Bool
  | .tup _ => true
  | _ => false
/-- a key for a dict: all its keys are tuples, or none is -/
def keyIn (kvs : List (D × D)) (k : D) : Bool := keyOK k && kvs.all fun p => isTup p.1 == isTup k
def dget (kvs : List (D × D)) (k : D) : Option D := (kvs.find? fun p => eqD p.1 k).map (·.2)
def dput (kvs : List (D × D)) (k v : D) : List (D × D) := if (kvs.any fun p => eqD p.1 k) = true then kvs.map (fun p => if eqD p.1 k = true then (p.1, v) else p) else kvs ++ [(k, v)]

/-! order: data as rows of signs, compared sign by sign -/
mutual
def toks : D → List (Int ⊕ List Nat)
  | .non => []
  | .bl b => [.inl (if b then 1 else 0)]
  | .int n => [.inl n]
  | .str x => [.inr x]
  | .tup xs => toksL xs
  | .lst xs => toksL xs
  | .ref _ => []
def toksL : List D → List (Int ⊕ List Nat)
  | [] => [.inl 0]
  | x :: xs => .inl 1 :: (toks x ++ toksL xs)
end
def ltI : Int ⊕ List Nat → Int ⊕ List Nat → Bool
  | .inl a, .inl b => decide (a < b)
  | .inl _, .inr _ => true
  | .inr _, .inl _ => false
  | .inr a, .inr b => decide (a < b)
def ltT : List (Int ⊕ List Nat) → List (Int ⊕ List Nat) → Bool
  | [], [] => false
  | [], _ :: _ => true
  | _ :: _, [] => false
  | x :: r, y :: t => ltI x y || (!ltI y x && ltT r t)
/-- x < y, of data that is alike place by place -/
def ltB (x y : D) : Bool := ltT (toks x) (toks y)

/-! sequences -/
def ixN (n : Nat) (i : Int) : Option Nat :=
  if 0 ≤ i then (if i < n then some i.toNat else none) else if -(n : Int) ≤ i then some (i + n).toNat else none
def atI (xs : List D) (i : Int) : Option D := (ixN xs.length i).bind fun j => xs[j]?
/-- a slice's bound, brought within 0 and n -/
def sIx (n d : Nat) : Option Int → Nat
  | none => d
  | some v => if v < 0 then (v + (n : Int)).toNat else min v.toNat n
def cutL (xs : List D) (lo hi : Option Int) : List D := (xs.drop (sIx xs.length 0 lo)).take (sIx xs.length xs.length hi - sIx xs.length 0 lo)
def optI : D → Option (Option Int)
  | .non => some none
  | .int i => some (some i)
  | _ => none

inductive Bop where
  | add | sub | mul | fdiv | mod | pow | xor
  deriving DecidableEq
inductive Cop where
  | eq | ne | lt | le | gt | ge | isin | notin | is | isnt
  deriving DecidableEq
inductive Ty where
  | int | bool | str | tuple | list | dict
  deriving DecidableEq
inductive Blt where
  | len | abs | int | max2 | min2 | max1 | min1 | sum | all | any | sorted | tuple | list | dict
  | isi (t : Ty)
  | tupRange | lstRange | lstZip | dctZip
  | append | extend | pop0 | popI | index | insert | setdefault | get2 | rev | update
  deriving DecidableEq
/-- what a for walks -/
inductive IK where
  | val | keys | range | zip | enum | items | values
  deriving DecidableEq
inductive Pat where
  | slot (i : Nat)
  | tup (ps : List Pat)

def LINT : Int := 18446744073709551616

/-- the heap with a new cell -/
def newC (h : Hm) (c : Cell) : Option (D × Hm) := some (.ref h.length, h ++ [c])
def binS (op : Bop) (x y : D) (h : Hm) : Option (D × Hm) :=
  match op, x, y with
  | .add, .int i, .int j => some (.int (i + j), h)
  | .add, .str s, .str t => if s.length + t.length ≤ LIM then some (.str (s ++ t), h) else none
  | .add, .tup s, .tup t => if s.length + t.length ≤ LIM then some (.tup (s ++ t), h) else none
  | .add, .ref a, .ref b => match getM h a, getM h b with
    | some s, some t => if s.length + t.length ≤ LIM then newC h (.lst (s ++ t)) else none
    | _, _ => none
  | .sub, .int i, .int j => some (.int (i - j), h)
  | .mul, .int i, .int j => if (-LINT < i ∧ i < LINT) ∨ (-LINT < j ∧ j < LINT) then some (.int (i * j), h) else none
  | .mul, .tup s, .int j => if s.length ≠ 0 ∧ 2 ≤ j ∧ j ≤ 1000 ∧ s.length ≤ 1000 then some (.tup (List.replicate j.toNat s).flatten, h) else none
  | .mul, .ref a, .int j => match getM h a with
    | some s => if -1000 ≤ j ∧ j ≤ 1000 ∧ s.length ≤ 10000 then newC h (.lst (List.replicate j.toNat s).flatten) else none
    | none => none
  | .fdiv, .int i, .int j => if j ≠ 0 ∧ j.natAbs < 1073741824 then some (.int (i.fdiv j), h) else none
  | .mod, .int i, .int j => if j ≠ 0 then some (.int (i.fmod j), h) else none
  | .pow, .int i, .int j => if 0 ≤ j ∧ j ≤ 1000000 ∧ i.natAbs < 2 ^ 64 then some (.int (i ^ j.toNat), h) else none
  | _, _, _ => none

/-- x op= y, of ints and of texts -/
def augS (op : Bop) (x y : D) (h : Hm) : Option (D × Hm) := match op, x, y with
  | .add, .int i, .int j => some (.int (i + j), h)
  | .sub, .int i, .int j => some (.int (i - j), h)
  | .mul, .int i, .int j => if (-LINT < i ∧ i < LINT) ∨ (-LINT < j ∧ j < LINT) then some (.int (i * j), h) else none
  | .add, .str s, .str t => if s.length + t.length ≤ LIM then some (.str (s ++ t), h) else none
  | _, _, _ => none
/-- the items that a whole walk sees -/
def itemsOf (h : Hm) : D → Option (List D)
  | .tup xs => some xs
  | .ref a => match h[a]? with
    | some (.lst xs) => some xs
    | some (.ro xs) => some xs
    | some (.dct kvs) => some (kvs.map (·.1))
    | none => none
  | _ => none
def lstOf (h : Hm) : D → Option (List D)
  | .ref a => getL h a
  | _ => none
/-- the items of a list or a tuple -/
def seqOf (h : Hm) : D → Option (List D)
  | .tup xs => some xs
  | .ref a => getL h a
  | _ => none

def anyEq (h : Hm) (x : D) (ys : List D) : Option Bool := match snap h x, snapDs (snapN h 6) ys with
  | some a, some bs => if min (deps bs) (dep a) ≤ 60 then some (bs.any fun b => eqD b a) else none
  | _, _ => none
def indexEq (h : Hm) (x : D) (ys : List D) : Option Nat := match snap h x, snapDs (snapN h 6) ys with
  | some a, some bs => if dep a ≤ 60 ∧ deps bs ≤ 60 then bs.findIdx? fun b => eqD b a else none
  | _, _ => none
def inS (h : Hm) (x : D) : D → Option Bool
  | .tup ys => anyEq h x ys
  | .ref a => match h[a]? with
    | some (.lst ys) => anyEq h x ys
    | some (.ro ys) => anyEq h x ys
    | some (.dct kvs) => if keyIn kvs x then some (dget kvs x).isSome else none
    | none => none
  | _ => none

def isNonD : D → Bool
  | .non => true
  | _ => false
def isBlD (b : Bool) : D → Bool
  | .bl c => b == c
  | _ => false
/-- x is y, y being None, True, False -/
def isS (x : D) : D → Option Bool
  | .non => some (isNonD x)
  | .bl b => some (isBlD b x)
  | _ => none
def cmpS (op : Cop) (x y : D) (h : Hm) : Option Bool :=
  match op with
  | .eq => eqv h x y
  | .ne => (eqv h x y).map not
  | .lt => match x, y with
    | .int i, .int j => some (decide (i < j))
    | .str s, .str t => some (decide (s < t))
    | _, _ => none
  | .gt => match x, y with
    | .int i, .int j => some (decide (j < i))
    | _, _ => none
  | .le => match x, y with
    | .int i, .int j => some (decide (i ≤ j))
    | _, _ => none
  | .ge => match x, y with
    | .int i, .int j => some (decide (j ≤ i))
    | _, _ => none
  | .isin => inS h x y
  | .notin => (inS h x y).map not
  | .is => isS x y
  | .isnt => (isS x y).map not

def lenS (h : Hm) : D → Option Nat
  | .tup xs => some xs.length
  | .str s => some s.length
  | .ref a => match h[a]? with
    | some (.lst xs) => some xs.length
    | some (.ro xs) => some xs.length
    | some (.dct kvs) => some kvs.length
    | none => none
  | _ => none

def isiS (h : Hm) (t : Ty) : D → Option Bool
  | .non => some false
  | .bl _ => some (t = .int ∨ t = .bool)
  | .int _ => some (t = .int)
  | .str _ => some (t = .str)
  | .tup _ => some (t = .tuple)
  | .ref a => match h[a]? with
    | some (.lst _) => some (t = .list)
    | some (.ro _) => some (t = .list)
    | some (.dct _) => none
    | none => none
  | .lst _ => none

def intsOf : List D → Option (List Int)
  | [] => some []
  | .int i :: r => (intsOf r).map (i :: ·)
  | _ :: _ => none
def boolsOf : List D → Option (List Bool)
  | [] => some []
  | .bl b :: r => (boolsOf r).map (b :: ·)
  | _ :: _ => none
def pairsOf : List D → Option (List (D × D))
  | [] => some []
  | .tup [k, v] :: r => (pairsOf r).map ((k, v) :: ·)
  | _ :: _ => none
/-- the pairs put one behind another; none: a key that can't be -/
def mergeK (kvs : List (D × D)) : List (D × D) → Option (List (D × D))
  | [] => some kvs
  | (k, v) :: r => if keyIn kvs k then mergeK (dput kvs k v) r else none

/-! sorting: stable, by insertion -/
mutual
/-- place by place of one kind -/
def alikeD : D → D → Bool
  | .bl _, .bl _ => true
  | .int _, .int _ => true
  | .str _, .str _ => true
  | .non, .non => true
  | .tup xs, .tup ys => alikeDs xs ys
  | _, _ => false
def alikeDs : List D → List D → Bool
  | x :: xs, y :: ys => alikeD x y && alikeDs xs ys
  | _, _ => true
end
/-- what can be sorted: items alike place by place, all of them tuples with an item, or none of them a tuple -/
def consTup : D → Bool
  | .tup (_ :: _) => true
  | _ => false
def flatD : D → Bool
  | .bl _ => true
  | .int _ => true
  | .str _ => true
  | _ => false
def sortOK (xs : List D) : Bool := pureDs xs && decide (deps xs ≤ 60) && (xs.all fun x => xs.all fun y => alikeD x y) && (xs.all consTup || xs.all flatD)
def insD (x : D) : List D → List D
  | [] => [x]
  | y :: ys => if ltB y x then y :: insD x ys else x :: y :: ys
def sortD : List D → List D
  | [] => []
  | x :: xs => insD x (sortD xs)

/-! the built-ins -/
def rngD (i : Int) (n : Nat) : List D := (List.range n).map fun (k : Nat) => D.int (i + (k : Int))
def zipD (xs ys : List D) : List D := List.zipWith (fun a b => D.tup [a, b]) xs ys
def enumD (xs : List D) : List D := xs.zipIdx.map fun p => D.tup [.int (p.2 : Int), p.1]
def small (i : Int) : Bool := decide (-1000000 ≤ i) && decide (i ≤ 1000000)
def bltS (b : Blt) (ds : List D) (h : Hm) : Option (D × Hm) :=
  match b, ds with
  | .len, [d] => (lenS h d).map fun (n : Nat) => (D.int (n : Int), h)
  | .abs, [.int i] => some (.int (if i < 0 then -i else i), h)
  | .int, [.int i] => some (.int i, h)
  | .max2, [.int i, .int j] => some (.int (if j > i then j else i), h)
  | .min2, [.int i, .int j] => some (.int (if j < i then j else i), h)
  | .max1, [d] => ((lstOf h d).bind intsOf).bind fun ns => if ns ≠ [] then some (.int (ns.foldl max (ns.headD 0)), h) else none
  | .min1, [d] => ((lstOf h d).bind intsOf).bind fun ns => if ns ≠ [] then some (.int (ns.foldl min (ns.headD 0)), h) else none
  | .sum, [d] => ((lstOf h d).bind intsOf).map fun ns => (.int ns.sum, h)
  | .all, [d] => ((lstOf h d).bind boolsOf).map fun bs => (.bl (bs.all id), h)
  | .any, [d] => ((lstOf h d).bind boolsOf).map fun bs => (.bl (bs.any id), h)
  | .sorted, [.ref a] => (itemsOf h (.ref a)).bind fun xs => if sortOK xs = true then newC h (.lst (sortD xs)) else none
  | .tuple, [d] => (seqOf h d).map fun xs => (.tup xs, h)
  | .list, [d] => (itemsOf h d).bind fun xs => newC h (.lst xs)
  | .dict, [d] => ((lstOf h d).bind pairsOf).bind fun ps => if ((ps.all fun p => leafB p.1) = true ∨ (ps.all fun p => isTup p.1) = true) ∧ ps.length ≤ LIM then (mergeK [] ps).bind fun kvs => newC h (.dct kvs) else none
  | .isi t, [d] => (isiS h t d).map fun k => (.bl k, h)
  | .tupRange, [.int j] => if small j = true then some (.tup (rngD 0 j.toNat), h) else none
  | .lstRange, [.int j] => if small j = true then newC h (.lst (rngD 0 j.toNat)) else none
  | .lstRange, [.int i, .int j] => if (small i && small j) = true then newC h (.lst (rngD i (j - i).toNat)) else none
  | .lstZip, [x, y] => (seqOf h x).bind fun xs => (seqOf h y).bind fun ys => newC h (.lst (zipD xs ys))
  | .dctZip, [x, y] => (seqOf h x).bind fun xs => (seqOf h y).bind fun ys => (mergeK [] (xs.zip ys)).bind fun kvs => newC h (.dct kvs)
  | .append, [.ref a, x] => (getM h a).bind fun xs => if xs.length < LIM then some (.non, h.set a (.lst (xs ++ [x]))) else none
  | .extend, [.ref a, .ref b] => (getM h a).bind fun xs => (getM h b).bind fun ys => if xs.length + ys.length ≤ LIM ∧ a ≠ b then some (.non, h.set a (.lst (xs ++ ys))) else none
  | .pop0, [.ref a] => (getM h a).bind fun xs => xs.getLast?.map fun x => (x, h.set a (.lst xs.dropLast))
  | .popI, [.ref a, .int i] => if small i = true then (getM h a).bind fun xs => (ixN xs.length i).bind fun k => (xs[k]?).map fun x => (x, h.set a (.lst (xs.eraseIdx k))) else none
  | .index, [d, x] => (lstOf h d).bind fun xs => (indexEq h x xs).map fun (k : Nat) => (D.int (k : Int), h)
  | .insert, [.ref a, .int i, x] => (getM h a).bind fun xs => if xs.length < LIM ∧ 0 ≤ i ∧ i ≤ xs.length then some (.non, h.set a (.lst (xs.take i.toNat ++ x :: xs.drop i.toNat))) else none
  | .setdefault, [.ref a, k, x] => (getK h a).bind fun kvs => if keyIn kvs k = true ∧ kvs.length < LIM then (match dget kvs k with
      | some v => some (v, h)
      | none => some (x, h.set a (.dct (dput kvs k x)))) else none
  | .get2, [.ref a, k, x] => (getK h a).bind fun kvs => if keyIn kvs k = true then some ((dget kvs k).getD x, h) else none
  | .rev, [.tup xs] => some (.tup xs.reverse, h)
  | .rev, [.ref a] => (getL h a).bind fun xs => newC h (.lst xs.reverse)
  | _, _ => none

/-- whether a method's receiver is of its kind -/
def recvOK (b : Blt) (x : D) (h : Hm) : Bool := match b, x with
  | .append, .ref a => (getL h a).isSome
  | .extend, .ref a => (getL h a).isSome
  | .pop0, .ref a => (getL h a).isSome
  | .popI, .ref a => (getL h a).isSome
  | .insert, .ref a => (getL h a).isSome
  | .index, .ref a => (getL h a).isSome
  | .setdefault, .ref a => (getK h a).isSome
  | .get2, .ref a => (getK h a).isSome
  | _, _ => false
def idxS (x i : D) (h : Hm) : Option D :=
  match x, i with
  | .tup xs, .int k => atI xs k
  | .ref a, i => (match h[a]?, i with
    | some (.lst xs), .int k => atI xs k
    | some (.ro xs), .int k => atI xs k
    | some (.dct kvs), k => if keyIn kvs k = true then dget kvs k else none
    | _, _ => none)
  | _, _ => none
/-- of a list, of a dict -/
def idxR (x i : D) (h : Hm) : Option D := match x with
  | .ref _ => idxS x i h
  | _ => none
def slcS (x : D) (a b : Option Int) (h : Hm) : Option (D × Hm) :=
  match x with
  | .tup xs => some (.tup (cutL xs a b), h)
  | .ref r => (getL h r).bind fun xs => newC h (.lst (cutL xs a b))
  | _ => none
def setS (o i v : D) (h : Hm) : Option Hm :=
  match o with
  | .ref a => (match h[a]?, i with
    | some (.lst xs), .int k => (ixN xs.length k).map fun j => h.set a (.lst (xs.set j v))
    | some (.dct kvs), k => if keyIn kvs k = true ∧ kvs.length < LIM then some (h.set a (.dct (dput kvs k v))) else none
    | _, _ => none)
  | _ => none

/-! ### syntax -/
inductive CE where
  | loc (i : Nat)
  | lit (d : D)
  | tup (es : List CE)
  | lst (es : List CE)
  | dct (es : List CE)
  | dctP (es : List CE)
  | bin (op : Bop) (a b : CE)
  | neg (a : CE)
  | not (a : CE)
  | and (a b : CE)
  | or (a b : CE)
  | cmp (op : Cop) (a b : CE)
  | chn (op op' : Cop) (a b c : CE)
  | ife (c a b : CE)
  | call (f : Nat) (es : List CE) (dv : List D) (perm : List Nat)
  | blt (b : Blt) (es : List CE)
  | meth (b : Blt) (o : CE) (es : List CE)
  | idx (a i : CE)
  | slc (a lo hi : CE)
  | comp (own : List Nat) (p : Pat) (k : IK) (it : List CE) (cs : List CE) (elt : CE)
  | dcomp (own : List Nat) (p : Pat) (k : IK) (it : List CE) (cs : List CE) (key val : CE)
inductive CS where
  | asg (p : Pat) (e : CE)
  | set (o i e : CE)
  | aug (i : Nat) (op : Bop) (e : CE)
  | augs (o i : CE) (op : Bop) (e : CE)
  | expr (e : CE)
  | ret (e : CE)
  | pass
  | brk
  | cont
  | ite (c : CE) (a b : List CS)
  | whil (c : CE) (a : List CS)
  | for_ (p : Pat) (k : IK) (it : List CE) (a : List CS)

/-! ### meaning -/
abbrev XP := Nat → List D → Hm → Prop
/-- a function: its arguments, the heap, what is wanted of its value, of its exception -/
abbrev FnS := Nat → List D → Hm → VQ → XP → Prop

mutual
/-- a value stored to a target of names -/
def wpP : Pat → D → Env → (Env → Prop) → Prop
  | .slot i, v, env, Q => i < env.length ∧ Q (env.set i (some v))
  | .tup ps, v, env, Q => match v with
    | .tup xs => wpPs ps xs env Q
    | _ => False
def wpPs : List Pat → List D → Env → (Env → Prop) → Prop
  | [], [], env, Q => Q env
  | p :: ps, x :: xs, env, Q => wpP p x env fun e1 => wpPs ps xs e1 Q
  | _, _, _, _ => False
end
mutual
/-- the slots of a target -/
def slotsP : Pat → List Nat
  | .slot i => [i]
  | .tup ps => slotsPs ps
def slotsPs : List Pat → List Nat
  | [] => []
  | p :: ps => slotsP p ++ slotsPs ps
end
def wipeE (env : Env) : List Nat → Env
  | [] => env
  | i :: r => (wipeE env r).set i none

/-- the list cells that a walked value leans on -/
def leanOn (h : Hm) : D → Option (List (Nat × Cell))
  | .tup _ => some []
  | .ref a => (h[a]?).map fun c => [(a, c)]
  | _ => none
/-- the items of a walk, and the cells that must stay while it is walked -/
def iterS (k : IK) (ds : List D) (h : Hm) : Option (List D × List (Nat × Cell)) :=
  match k, ds with
  | .val, [x] => (seqOf h x).bind fun xs => (leanOn h x).map fun l => (xs, l)
  | .keys, [.ref a] => (getK h a).bind fun kvs => (leanOn h (.ref a)).map fun l => (kvs.map fun p => p.1, l)
  | .range, [.int j] => if small j = true then some (rngD 0 j.toNat, []) else none
  | .range, [.int i, .int j] => if (small i && small j) = true then some (rngD i (j - i).toNat, []) else none
  | .zip, [x, y] => (seqOf h x).bind fun xs => (seqOf h y).bind fun ys => (leanOn h x).bind fun l => (leanOn h y).map fun m => (zipD xs ys, l ++ m)
  | .enum, [.ref a] => (getL h a).bind fun xs => (leanOn h (.ref a)).map fun l => (enumD xs, l)
  | .items, [.ref a] => (getK h a).bind fun kvs => (leanOn h (.ref a)).map fun l => (kvs.map fun p => .tup [p.1, p.2], l)
  | .values, [.ref a] => (getK h a).bind fun kvs => (leanOn h (.ref a)).map fun l => (kvs.map fun p => p.2, l)
  | _, _ => none
def still (l : List (Nat × Cell)) (h : Hm) : Prop := ∀ p ∈ l, h[p.1]? = some p.2

/-- a comprehension's turns: what one turn gives (none: its test fails); the new list at a -/
def compL (g : List (Nat × Cell)) (a : Nat) (step : D → Hm → (Option D → Hm → Prop) → Prop) (Q : Hm → Prop) : List D → Hm → Prop
  | [], h => still g h ∧ Q h
  | x :: xs, h => still g h ∧ step x h fun r h' => match r with
    | some y => ws (getM h' a) fun acc => acc.length < LIM ∧ compL g a step Q xs (h'.set a (.lst (acc ++ [y])))
    | none => compL g a step Q xs h'
def dcompL (g : List (Nat × Cell)) (a : Nat) (step : D → Hm → (Option (D × D) → Hm → Prop) → Prop) (Q : Hm → Prop) : List D → Hm → Prop
  | [], h => still g h ∧ Q h
  | x :: xs, h => still g h ∧ step x h fun r h' => match r with
    | some y => ws (getK h' a) fun kvs => keyIn kvs y.1 = true ∧ kvs.length < LIM ∧ dcompL g a step Q xs (h'.set a (.dct (dput kvs y.1 y.2)))
    | none => dcompL g a step Q xs h'
/-- a for's turns -/
def forL (g : List (Nat × Cell)) (step : D → Env → Hm → (Env → Hm → Prop) → Prop) (nx : Env → Hm → Prop) : List D → Env → Hm → Prop
  | [], env, h => still g h ∧ nx env h
  | x :: xs, env, h => still g h ∧ step x env h fun env' h' => forL g step nx xs env' h'

def evens : List D → Option (List (D × D))
  | [] => some []
  | k :: v :: r => (evens r).map ((k, v) :: ·)
  | _ => none
def permD (ds : List D) : List Nat → Option (List D)
  | [] => some []
  | i :: r => match ds[i]?, permD ds r with
    | some d, some l => some (d :: l)
    | _, _ => none

mutual
def wpE (F : FnS) (E : XP) : CE → Env → Hm → VQ → Prop
  | .loc i, env, h, Q => ws (env[i]?.join) fun d => Q d h
  | .lit d, _, h, Q => Q d h
  | .tup es, env, h, Q => wpEs F E es env h fun ds h1 => Q (.tup ds) h1
  | .lst es, env, h, Q => wpEs F E es env h fun ds h1 => Q (.ref h1.length) (h1 ++ [.lst ds])
  | .dct es, env, h, Q => wpEs F E es env h fun ds h1 => ws (evens ds) fun ps => ws (mergeK [] ps) fun kvs => Q (.ref h1.length) (h1 ++ [.dct kvs])
  | .dctP es, env, h, Q => wpEs F E es env (h ++ [.dct []]) fun ds h1 => ws (evens ds) fun ps => h1[h.length]? = some (.dct []) ∧ (ps.all fun p => leafB p.1) = true ∧ ps.length ≤ 15 ∧ ws (mergeK [] ps) fun kvs => Q (.ref h.length) (h1.set h.length (.dct kvs))
  | .bin op a b, env, h, Q => wpE F E a env h fun x h1 => wpE F E b env h1 fun y h2 => ws (binS op x y h2) fun r => Q r.1 r.2
  | .neg a, env, h, Q => wpE F E a env h fun x h1 => match x with
    | .int i => Q (.int (-i)) h1
    | _ => False
  | .not a, env, h, Q => wpE F E a env h fun x h1 => ws (truth h1 x) fun k => Q (.bl !k) h1
  | .and a b, env, h, Q => wpE F E a env h fun x h1 => ws (truth h1 x) fun k => if k = true then wpE F E b env h1 Q else Q x h1
  | .or a b, env, h, Q => wpE F E a env h fun x h1 => ws (truth h1 x) fun k => if k = true then Q x h1 else wpE F E b env h1 Q
  | .cmp op a b, env, h, Q => wpE F E a env h fun x h1 => wpE F E b env h1 fun y h2 => ws (cmpS op x y h2) fun k => Q (.bl k) h2
  | .chn op op' a b c, env, h, Q => wpE F E a env h fun x h1 => wpE F E b env h1 fun y h2 => ws (cmpS op x y h2) fun k =>
      if k = true then wpE F E c env h2 fun z h3 => ws (cmpS op' y z h3) fun k' => Q (.bl k') h3 else Q (.bl false) h2
  | .ife c a b, env, h, Q => wpE F E c env h fun x h1 => ws (truth h1 x) fun k => if k = true then wpE F E a env h1 Q else wpE F E b env h1 Q
  | .call f es dv pm, env, h, Q => wpEs F E es env h fun ds h1 => ws (permD (ds ++ dv) pm) fun zs => F f zs h1 Q E
  | .blt b es, env, h, Q => wpEs F E es env h fun ds h1 => ws (bltS b ds h1) fun r => Q r.1 r.2
  | .meth b o es, env, h, Q => wpE F E o env h fun x h1 => recvOK b x h1 = true ∧ wpEs F E es env h1 fun ds h2 => ws (bltS b (x :: ds) h2) fun r => Q r.1 r.2
  | .idx a i, env, h, Q => wpE F E a env h fun x h1 => wpE F E i env h1 fun y h2 => ws (idxS x y h2) fun d => Q d h2
  | .slc a lo hi, env, h, Q => wpE F E a env h fun x h1 => wpE F E lo env h1 fun y h2 => ws (optI y) fun o => wpE F E hi env h2 fun z h3 => ws (optI z) fun o' => ws (slcS x o o' h3) fun r => Q r.1 r.2
  | .comp own p k it cs elt, env, h, Q => wpEs F E it env h fun ds h1 => ws (iterS k ds h1) fun I =>
      compL I.2 h1.length (fun x h2 R => wpP p x (wipeE env own) fun e2 => wpCs F cs e2 h2 fun k h3 => if k = true then wpE F (fun _ _ _ => False) elt e2 h3 fun y h4 => R (some y) h4 else R none h3)
        (fun h5 => Q (.ref h1.length) h5) I.1 (h1 ++ [.lst []])
  | .dcomp own p k it cs ke va, env, h, Q => wpEs F E it env h fun ds h1 => ws (iterS k ds h1) fun I =>
      dcompL I.2 h1.length (fun x h2 R => wpP p x (wipeE env own) fun e2 => wpCs F cs e2 h2 fun k h3 => if k = true then wpE F (fun _ _ _ => False) ke e2 h3 fun y h4 => wpE F (fun _ _ _ => False) va e2 h4 fun z h5 => R (some (y, z)) h5 else R none h3)
        (fun h5 => Q (.ref h1.length) h5) I.1 (h1 ++ [.dct []])
def wpEs (F : FnS) (E : XP) : List CE → Env → Hm → (List D → Hm → Prop) → Prop
  | [], _, h, Q => Q [] h
  | e :: es, env, h, Q => wpE F E e env h fun d h1 => wpEs F E es env h1 fun ds h2 => Q (d :: ds) h2
def wpCs (F : FnS) : List CE → Env → Hm → (Bool → Hm → Prop) → Prop
  | [], _, h, Q => Q true h
  | c :: cs, env, h, Q => wpE F (fun _ _ _ => False) c env h fun d h1 => ws (truth h1 d) fun k => if k = true then wpCs F cs env h1 Q else Q false h1
end

/-- a text within the line -/
def sOK (s : List Nat) : Bool := decide (s.length ≤ LIM) && s.all fun c => decide (c < 1114112)

structure Ends where
  nx : Env → Hm → Prop
  rt : VQ
  bk : Env → Hm → Prop
  ct : Env → Hm → Prop

mutual
def wpS (F : FnS) (E : XP) : CS → Env → Hm → Ends → Prop
  | .asg p e, env, h, Z => wpE F E e env h fun v h1 => wpP p v env fun env1 => Z.nx env1 h1
  | .set o i e, env, h, Z => wpE F E e env h fun v h1 => wpE F E o env h1 fun x h2 => wpE F E i env h2 fun y h3 => ws (setS x y v h3) fun h4 => Z.nx env h4
  | .aug i op e, env, h, Z => ws (env[i]?.join) fun x => wpE F E e env h fun y h1 => ws (augS op x y h1) fun r => Z.nx (env.set i (some r.1)) r.2
  | .augs o i op e, env, h, Z => wpE F E o env h fun x h1 => wpE F E i env h1 fun y h2 => ws (idxR x y h2) fun v => wpE F E e env h2 fun w h4 => ws (augS op v w h4) fun r => ws (setS x y r.1 r.2) fun h6 => Z.nx env h6
  | .expr e, env, h, Z => wpE F E e env h fun _ h1 => Z.nx env h1
  | .ret e, env, h, Z => wpE F E e env h Z.rt
  | .pass, env, h, Z => Z.nx env h
  | .brk, env, h, Z => Z.bk env h
  | .cont, env, h, Z => Z.ct env h
  | .ite c a b, env, h, Z => wpE F E c env h fun x h1 => ws (truth h1 x) fun k => if k = true then wpSs F E a env h1 Z else wpSs F E b env h1 Z
  | .whil c a, env, h, Z => ∃ W : Nat → Env → Hm → Prop, (∃ m, W m env h) ∧ ∀ m env h, W m env h →
      wpE F E c env h fun x h1 => ws (truth h1 x) fun k => if k = true then
        wpSs F E a env h1 { nx := fun e' h' => ∃ m', m' < m ∧ W m' e' h', ct := fun e' h' => ∃ m', m' < m ∧ W m' e' h', bk := Z.nx, rt := Z.rt } else Z.nx env h1
  | .for_ p k it a, env, h, Z => wpEs F E it env h fun ds h1 => ws (iterS k ds h1) fun I =>
      forL I.2 (fun x env h R => wpP p x env fun env1 => wpSs F E a env1 h { nx := R, ct := R, bk := Z.nx, rt := Z.rt }) Z.nx I.1 env h1
def wpSs (F : FnS) (E : XP) : List CS → Env → Hm → Ends → Prop
  | [], env, h, Z => Z.nx env h
  | s :: ss, env, h, Z => wpS F E s env h { Z with nx := fun e' h' => wpSs F E ss e' h' Z }
end

/-! ### programs -/
structure Def where
  params : Nat
  slots : Nat
  body : List CS
abbrev Prog := List (Nat × Def)
def FW (P : Prog) : Nat → FnS
  | 0 => fun _ _ _ _ _ => False
  | n + 1 => fun f ds h Q E => match P.lookup f with
    | some d => ds.length = d.params ∧ wpSs (FW P n) E d.body (ds.map some ++ List.replicate (d.slots - d.params) none) h { nx := fun _ h' => Q .non h', rt := Q, bk := fun _ _ => False, ct := fun _ _ => False }
    | none => False
end M

namespace M
/-! ### asking less -/
def FMono (F : FnS) : Prop := ∀ f ds h (Q Q' : VQ) (E : XP), F f ds h Q E → (∀ d h', Q d h' → Q' d h') → F f ds h Q' E
mutual
theorem wpP_mono : ∀ (p : Pat) (v : D) (env : Env) (Q Q' : Env → Prop), wpP p v env Q → (∀ e, Q e → Q' e) → wpP p v env Q'
  | .slot i, v, env, Q, Q', h, k => by unfold wpP at h ⊢; exact ⟨h.1, k _ h.2⟩
  | .tup ps, v, env, Q, Q', h, k => by
    unfold wpP at h ⊢
    cases v with
    | tup xs => exact wpPs_mono ps xs env Q Q' h k
    | _ => exact h
theorem wpPs_mono : ∀ (ps : List Pat) (xs : List D) (env : Env) (Q Q' : Env → Prop), wpPs ps xs env Q → (∀ e, Q e → Q' e) → wpPs ps xs env Q'
  | [], [], env, Q, Q', h, k => by unfold wpPs at h ⊢; exact k _ h
  | p :: ps, x :: xs, env, Q, Q', h, k => by
    unfold wpPs at h ⊢
    exact wpP_mono p x env _ _ h fun e he => wpPs_mono ps xs e Q Q' he k
  | [], _ :: _, _, _, _, h, _ => by unfold wpPs at h; exact h.elim
  | _ :: _, [], _, _, _, h, _ => by unfold wpPs at h; exact h.elim
end
theorem compL_mono {g : List (Nat × Cell)} {a : Nat} {st st' : D → Hm → (Option D → Hm → Prop) → Prop} {Q Q' : Hm → Prop} (hs : ∀ x h R R', st x h R → (∀ r h', R r h' → R' r h') → st' x h R') (hQ : ∀ h, Q h → Q' h) :
    ∀ (xs : List D) (h : Hm), compL g a st Q xs h → compL g a st' Q' xs h
  | [], h, k => ⟨k.1, hQ _ k.2⟩
  | x :: xs, h, k => ⟨k.1, hs x h _ _ k.2 fun r h' q => by
      cases r with
      | none => exact compL_mono hs hQ xs h' q
      | some y => exact ws_mono q fun acc q => ⟨q.1, compL_mono hs hQ xs _ q.2⟩⟩
theorem dcompL_mono {g : List (Nat × Cell)} {a : Nat} {st st' : D → Hm → (Option (D × D) → Hm → Prop) → Prop} {Q Q' : Hm → Prop} (hs : ∀ x h R R', st x h R → (∀ r h', R r h' → R' r h') → st' x h R') (hQ : ∀ h, Q h → Q' h) :
    ∀ (xs : List D) (h : Hm), dcompL g a st Q xs h → dcompL g a st' Q' xs h
  | [], h, k => ⟨k.1, hQ _ k.2⟩
  | x :: xs, h, k => ⟨k.1, hs x h _ _ k.2 fun r h' q => by
      cases r with
      | none => exact dcompL_mono hs hQ xs h' q
      | some y => exact ws_mono q fun kvs q => ⟨q.1, q.2.1, dcompL_mono hs hQ xs _ q.2.2⟩⟩
theorem forL_mono {g : List (Nat × Cell)} {st st' : D → Env → Hm → (Env → Hm → Prop) → Prop} {nx nx' : Env → Hm → Prop} (hs : ∀ x e h R R', st x e h R → (∀ e' h', R e' h' → R' e' h') → st' x e h R') (hQ : ∀ e h, nx e h → nx' e h) :
    ∀ (xs : List D) (e : Env) (h : Hm), forL g st nx xs e h → forL g st' nx' xs e h
  | [], e, h, k => ⟨k.1, hQ _ _ k.2⟩
  | x :: xs, e, h, k => ⟨k.1, hs x e h _ _ k.2 fun e' h' q => forL_mono hs hQ xs e' h' q⟩

section
variable {F : FnS} (hF : FMono F)
include hF
mutual
theorem wpE_mono : ∀ (c : CE) (E : XP) (env : Env) (h : Hm) (Q Q' : VQ), wpE F E c env h Q → (∀ d h', Q d h' → Q' d h') → wpE F E c env h Q'
  | .loc i, E, env, h, Q, Q', a, k => by unfold wpE at a ⊢; exact ws_mono a fun d q => k _ _ q
  | .lit d, E, env, h, Q, Q', a, k => by unfold wpE at a ⊢; exact k _ _ a
  | .tup es, E, env, h, Q, Q', a, k => by unfold wpE at a ⊢; exact wpEs_mono es E env h _ _ a fun d h' q => k _ _ q
  | .lst es, E, env, h, Q, Q', a, k => by unfold wpE at a ⊢; exact wpEs_mono es E env h _ _ a fun d h' q => k _ _ q
  | .dct es, E, env, h, Q, Q', a, k => by unfold wpE at a ⊢; exact wpEs_mono es E env h _ _ a fun d h' q => ws_mono q fun _ q => ws_mono q fun _ q => k _ _ q
  | .dctP es, E, env, h, Q, Q', a, k => by unfold wpE at a ⊢; exact wpEs_mono es E env _ _ _ a fun d h' q => ws_mono q fun _ q => ⟨q.1, q.2.1, q.2.2.1, ws_mono q.2.2.2 fun _ q => k _ _ q⟩
  | .bin op x y, E, env, h, Q, Q', a, k => by unfold wpE at a ⊢; exact wpE_mono x E env h _ _ a fun _ h1 q => wpE_mono y E env h1 _ _ q fun _ _ q => ws_mono q fun _ q => k _ _ q
  | .neg x, E, env, h, Q, Q', a, k => by
    unfold wpE at a ⊢; exact wpE_mono x E env h _ _ a fun d h1 q => by
      cases d with
      | int i => exact k _ _ q
      | _ => exact q
  | .not x, E, env, h, Q, Q', a, k => by unfold wpE at a ⊢; exact wpE_mono x E env h _ _ a fun d h1 q => ws_mono q fun _ q => k _ _ q
  | .and x y, E, env, h, Q, Q', a, k => by
    unfold wpE at a ⊢; exact wpE_mono x E env h _ _ a fun d h1 q => ws_mono q fun b q => by
      cases b with
      | true => exact wpE_mono y E env h1 _ _ q k
      | false => exact k _ _ q
  | .or x y, E, env, h, Q, Q', a, k => by
    unfold wpE at a ⊢; exact wpE_mono x E env h _ _ a fun d h1 q => ws_mono q fun b q => by
      cases b with
      | true => exact k _ _ q
      | false => exact wpE_mono y E env h1 _ _ q k
  | .cmp op x y, E, env, h, Q, Q', a, k => by unfold wpE at a ⊢; exact wpE_mono x E env h _ _ a fun _ h1 q => wpE_mono y E env h1 _ _ q fun _ _ q => ws_mono q fun _ q => k _ _ q
  | .chn op op' x y z, E, env, h, Q, Q', a, k => by
    unfold wpE at a ⊢; exact wpE_mono x E env h _ _ a fun _ h1 q => wpE_mono y E env h1 _ _ q fun _ h2 q => ws_mono q fun b q => by
      cases b with
      | true => exact wpE_mono z E env h2 _ _ q fun _ _ q => ws_mono q fun _ q => k _ _ q
      | false => exact k _ _ q
  | .ife c x y, E, env, h, Q, Q', a, k => by
    unfold wpE at a ⊢; exact wpE_mono c E env h _ _ a fun d h1 q => ws_mono q fun b q => by
      cases b with
      | true => exact wpE_mono x E env h1 _ _ q k
      | false => exact wpE_mono y E env h1 _ _ q k
  | .call f es dv pm, E, env, h, Q, Q', a, k => by unfold wpE at a ⊢; exact wpEs_mono es E env h _ _ a fun _ h1 q => ws_mono q fun _ q => hF _ _ _ _ _ _ q k
  | .blt b es, E, env, h, Q, Q', a, k => by unfold wpE at a ⊢; exact wpEs_mono es E env h _ _ a fun _ h1 q => ws_mono q fun _ q => k _ _ q
  | .meth b o es, E, env, h, Q, Q', a, k => by unfold wpE at a ⊢; exact wpE_mono o E env h _ _ a fun _ h1 q => ⟨q.1, wpEs_mono es E env h1 _ _ q.2 fun _ _ q => ws_mono q fun _ q => k _ _ q⟩
  | .idx x i, E, env, h, Q, Q', a, k => by unfold wpE at a ⊢; exact wpE_mono x E env h _ _ a fun _ h1 q => wpE_mono i E env h1 _ _ q fun _ _ q => ws_mono q fun _ q => k _ _ q
  | .slc x i j, E, env, h, Q, Q', a, k => by unfold wpE at a ⊢; exact wpE_mono x E env h _ _ a fun _ h1 q => wpE_mono i E env h1 _ _ q fun _ h2 q => ws_mono q fun _ q => wpE_mono j E env h2 _ _ q fun _ _ q => ws_mono q fun _ q => ws_mono q fun _ q => k _ _ q
  | .comp own p kd it cs elt, E, env, h, Q, Q', a, k => by
    unfold wpE at a ⊢
    refine wpEs_mono it E env h _ _ a fun _ h1 q => ws_mono q fun I q => ?_
    refine compL_mono ?_ ?_ _ _ q
    · intro x h2 R R' a r
      refine wpP_mono _ _ _ _ _ a fun e2 q => wpCs_mono cs e2 h2 _ _ q fun b h3 q => ?_
      cases b with
      | true => exact wpE_mono elt _ e2 h3 _ _ q fun _ _ q => r _ _ q
      | false => exact r _ _ q
    · exact fun _ q => k _ _ q
  | .dcomp own p kd it cs ke va, E, env, h, Q, Q', a, k => by
    unfold wpE at a ⊢
    refine wpEs_mono it E env h _ _ a fun _ h1 q => ws_mono q fun I q => ?_
    refine dcompL_mono ?_ ?_ _ _ q
    · intro x h2 R R' a r
      refine wpP_mono _ _ _ _ _ a fun e2 q => wpCs_mono cs e2 h2 _ _ q fun b h3 q => ?_
      cases b with
      | true => exact wpE_mono ke _ e2 h3 _ _ q fun _ h4 q => wpE_mono va _ e2 h4 _ _ q fun _ _ q => r _ _ q
      | false => exact r _ _ q
    · exact fun _ q => k _ _ q
theorem wpEs_mono : ∀ (es : List CE) (E : XP) (env : Env) (h : Hm) (Q Q' : List D → Hm → Prop), wpEs F E es env h Q → (∀ d h', Q d h' → Q' d h') → wpEs F E es env h Q'
  | [], E, env, h, Q, Q', a, k => by unfold wpEs at a ⊢; exact k _ _ a
  | e :: es, E, env, h, Q, Q', a, k => by unfold wpEs at a ⊢; exact wpE_mono e E env h _ _ a fun _ h1 q => wpEs_mono es E env h1 _ _ q fun _ _ q => k _ _ q
theorem wpCs_mono : ∀ (cs : List CE) (env : Env) (h : Hm) (Q Q' : Bool → Hm → Prop), wpCs F cs env h Q → (∀ d h', Q d h' → Q' d h') → wpCs F cs env h Q'
  | [], env, h, Q, Q', a, k => by unfold wpCs at a ⊢; exact k _ _ a
  | c :: cs, env, h, Q, Q', a, k => by
    unfold wpCs at a ⊢
    exact wpE_mono c _ env h _ _ a fun d h1 q => ws_mono q fun b q => by
      cases b with
      | true => exact wpCs_mono cs env h1 _ _ q k
      | false => exact k _ _ q
end
/-- the ends asking less -/
structure Ends.Le (Z Z' : Ends) : Prop where
  nx : ∀ e h, Z.nx e h → Z'.nx e h
  rt : ∀ d h, Z.rt d h → Z'.rt d h
  bk : ∀ e h, Z.bk e h → Z'.bk e h
  ct : ∀ e h, Z.ct e h → Z'.ct e h
mutual
theorem wpS_mono : ∀ (s : CS) (E : XP) (env : Env) (h : Hm) (Z Z' : Ends), wpS F E s env h Z → Z.Le Z' → wpS F E s env h Z'
  | .asg p e, E, env, h, Z, Z', a, k => by unfold wpS at a ⊢; exact wpE_mono hF e E env h _ _ a fun v h1 q => wpP_mono _ _ _ _ _ q fun _ q => k.nx _ _ q
  | .set o i e, E, env, h, Z, Z', a, k => by unfold wpS at a ⊢; exact wpE_mono hF e E env h _ _ a fun v h1 q => wpE_mono hF o E env h1 _ _ q fun v h2 q => wpE_mono hF i E env h2 _ _ q fun v h3 q => ws_mono q fun _ q => k.nx _ _ q
  | .aug i op e, E, env, h, Z, Z', a, k => by unfold wpS at a ⊢; exact ws_mono a fun x q => wpE_mono hF e E env h _ _ q fun y h1 q => ws_mono q fun _ q => k.nx _ _ q
  | .augs o i op e, E, env, h, Z, Z', a, k => by unfold wpS at a ⊢; exact wpE_mono hF o E env h _ _ a fun v h1 q => wpE_mono hF i E env h1 _ _ q fun v h2 q => ws_mono q fun _ q => wpE_mono hF e E env h2 _ _ q fun v h3 q => ws_mono q fun _ q => ws_mono q fun _ q => k.nx _ _ q
  | .expr e, E, env, h, Z, Z', a, k => by unfold wpS at a ⊢; exact wpE_mono hF e E env h _ _ a fun v h1 q => k.nx _ _ q
  | .ret e, E, env, h, Z, Z', a, k => by unfold wpS at a ⊢; exact wpE_mono hF e E env h _ _ a fun v h1 q => k.rt _ _ q
  | .pass, E, env, h, Z, Z', a, k => by unfold wpS at a ⊢; exact k.nx _ _ a
  | .brk, E, env, h, Z, Z', a, k => by unfold wpS at a ⊢; exact k.bk _ _ a
  | .cont, E, env, h, Z, Z', a, k => by unfold wpS at a ⊢; exact k.ct _ _ a
  | .ite c x y, E, env, h, Z, Z', a, k => by
    unfold wpS at a ⊢
    exact wpE_mono hF c E env h _ _ a fun v h1 q => ws_mono q fun b q => by
      cases b with
      | true => exact wpSs_mono x E env h1 Z Z' q k
      | false => exact wpSs_mono y E env h1 Z Z' q k
  | .whil c x, E, env, h, Z, Z', a, k => by
    unfold wpS at a ⊢
    obtain ⟨W, w0, w1⟩ := a
    refine ⟨W, w0, fun m e h' q => wpE_mono hF c E e h' _ _ (w1 m e h' q) fun v h1 q => ws_mono q fun b q => ?_⟩
    cases b with
    | true => exact wpSs_mono x E e h1 _ _ q ⟨fun _ _ q => q, k.rt, k.nx, fun _ _ q => q⟩
    | false => exact k.nx _ _ q
  | .for_ p kd it x, E, env, h, Z, Z', a, k => by
    unfold wpS at a ⊢
    refine wpEs_mono hF it E env h _ _ a fun _ h1 q => ws_mono q fun I q => ?_
    refine forL_mono ?_ k.nx _ _ _ q
    intro v e h2 R R' a r
    refine wpP_mono _ _ _ _ _ a fun e2 q => ?_
    refine wpSs_mono x E e2 h2 _ _ q ⟨?_, ?_, ?_, ?_⟩
    · exact r
    · exact k.rt
    · exact k.nx
    · exact r
theorem wpSs_mono : ∀ (s : List CS) (E : XP) (env : Env) (h : Hm) (Z Z' : Ends), wpSs F E s env h Z → Z.Le Z' → wpSs F E s env h Z'
  | [], E, env, h, Z, Z', a, k => by unfold wpSs at a ⊢; exact k.nx _ _ a
  | s :: ss, E, env, h, Z, Z', a, k => by
    unfold wpSs at a ⊢
    exact wpS_mono s E env h _ _ a ⟨fun e' h' q => wpSs_mono ss E e' h' Z Z' q k, k.rt, k.bk, k.ct⟩
end
end
theorem FW_mono (P : Prog) : ∀ n, FMono (FW P n)
  | 0, _, _, _, _, _, _, h, _ => h.elim
  | n + 1, f, ds, h, Q, Q', E, a, k => by
    unfold FW at a ⊢
    cases e : P.lookup f with
    | none => rw [e] at a; exact a.elim
    | some d =>
      rw [e] at a
      exact ⟨a.1, wpSs_mono (FW_mono P n) _ _ _ _ _ _ a.2 ⟨fun _ _ q => k _ _ q, k, fun _ _ q => q, fun _ _ q => q⟩⟩
end M

end
section
set_option Elab.async false
set_option linter.all false
set_option autoImplicit false
set_option maxRecDepth 100000
set_option maxHeartbeats 4000000
/-! the relation between mini's values and heap and the layer's -/
namespace M
open PySem (Addr Obj Value Str)
abbrev LHp := L2.Hp
abbrev LV := L2.V

mutual
inductive RV (K : PySem.W.Frag) (ρ : List Addr) (H : LHp) : D → LV → Prop
  | non : RV K ρ H .non .non
  | bl (b : Bool) : RV K ρ H (.bl b) (.bl b)
  | int (i : Int) : RV K ρ H (.int i) (.int i)
  | str (s : List Nat) (h : sOK s = true) : RV K ρ H (.str s) (.str ⟨s.toArray⟩)
  | tup {a : Addr} {xs : List LV} {ds : List D} : L2.SqT K H a xs → RVs K ρ H ds xs → RV K ρ H (.tup ds) (.ref a)
  | ref {i : Nat} {a : Addr} : ρ[i]? = some a → RV K ρ H (.ref i) (.ref a)
inductive RVs (K : PySem.W.Frag) (ρ : List Addr) (H : LHp) : List D → List LV → Prop
  | nil : RVs K ρ H [] []
  | cons {d : D} {v : LV} {ds : List D} {vs : List LV} : RV K ρ H d v → RVs K ρ H ds vs → RVs K ρ H (d :: ds) (v :: vs)
end

/-- tuples and locked things stay -/
structure TK (H H' : LHp) : Prop where
  tup : ∀ b xs, H b = some (.tup xs) → H' b = some (.tup xs)
  frz : ∀ b o u, H b = some (.frz o (.lst u)) → H' b = some (.frz o (.lst u))
  frt : ∀ b o u, H b = some (.frz o (.tup u)) → H' b = some (.frz o (.tup u))
theorem TK.refl (H : LHp) : TK H H := ⟨fun _ _ h => h, fun _ _ _ h => h, fun _ _ _ h => h⟩
theorem TK.trans {H H1 H2 : LHp} (a : TK H H1) (b : TK H1 H2) : TK H H2 := ⟨fun c xs h => b.tup c xs (a.tup c xs h), fun c o u h => b.frz c o u (a.frz c o u h), fun c o u h => b.frt c o u (a.frt c o u h)⟩
theorem TK.sqT {K : PySem.W.Frag} {H H' : LHp} {a : Addr} {xs : List LV} (t : TK H H') (h : L2.SqT K H a xs) : L2.SqT K H' a xs := by
  rcases h with (h | ⟨o, h⟩) | h
  · exact .inl (.inl (t.tup _ _ h))
  · exact .inl (.inr ⟨o, t.frt _ _ _ h⟩)
  · exact .inr h
theorem TK.new {H : LHp} {p : Addr} {o : L2.HO} (h : H p = none) : TK H (L2.upd H p o) :=
  ⟨fun b xs e => by rw [L2.upd_ne (L2.ne_of_none e h)]; exact e, fun b ob u e => by rw [L2.upd_ne (L2.ne_of_none e h)]; exact e, fun b ob u e => by rw [L2.upd_ne (L2.ne_of_none e h)]; exact e⟩
/-- a thing that changes -/
def Chg : L2.HO → Prop
  | .lst _ => True
  | .ext _ => True
  | .dK _ => True
  | _ => False
theorem TK.put {H : LHp} {p : Addr} {o u : L2.HO} (h : H p = some u) (c : Chg u) : TK H (L2.upd H p o) := by
  refine ⟨fun b xs e => ?_, fun b ob u' e => ?_, fun b ob u' e => ?_⟩
  · rw [L2.upd_ne (L2.ne_of e h fun z => by subst z; exact c)]; exact e
  · rw [L2.upd_ne (L2.ne_of e h fun z => by subst z; exact c)]; exact e
  · rw [L2.upd_ne (L2.ne_of e h fun z => by subst z; exact c)]; exact e

section
variable {K : PySem.W.Frag} {ρ ρ' : List Addr} {H H' : LHp}
theorem pre_get {i : Nat} {a : Addr} (p : ρ <+: ρ') (h : ρ[i]? = some a) : ρ'[i]? = some a := by
  obtain ⟨t, rfl⟩ := p
  have hi : i < ρ.length := (List.getElem?_eq_some_iff.mp h).1
  rw [List.getElem?_append_left hi]; exact h
mutual
theorem RV.mono (p : ρ <+: ρ') (t : TK H H') : ∀ {d : D} {v : LV}, RV K ρ H d v → RV K ρ' H' d v
  | _, _, .non => .non
  | _, _, .bl b => .bl b
  | _, _, .int i => .int i
  | _, _, .str s h => .str s h
  | _, _, .tup h r => .tup (t.sqT h) (RVs.mono p t r)
  | _, _, .ref h => .ref (pre_get p h)
theorem RVs.mono (p : ρ <+: ρ') (t : TK H H') : ∀ {ds : List D} {vs : List LV}, RVs K ρ H ds vs → RVs K ρ' H' ds vs
  | _, _, .nil => .nil
  | _, _, .cons h r => .cons (RV.mono p t h) (RVs.mono p t r)
end
theorem RVs.length : ∀ {ds : List D} {vs : List LV}, RVs K ρ H ds vs → ds.length = vs.length
  | _, _, .nil => rfl
  | _, _, .cons _ r => congrArg (· + 1) r.length
theorem RVs.get : ∀ {ds : List D} {vs : List LV} {i : Nat} {d : D}, RVs K ρ H ds vs → ds[i]? = some d → ∃ v, vs[i]? = some v ∧ RV K ρ H d v
  | _, _, _, _, .nil, e => by simp at e
  | _, _, 0, _, .cons h _, e => by simp at e; subst e; exact ⟨_, rfl, h⟩
  | _, _, i + 1, d, .cons _ r, e => by
    obtain ⟨v, h1, h2⟩ := RVs.get (i := i) (d := d) r (by simpa using e)
    exact ⟨v, by simpa using h1, h2⟩
theorem RVs.getV : ∀ {ds : List D} {vs : List LV} {i : Nat} {v : LV}, RVs K ρ H ds vs → vs[i]? = some v → ∃ d, ds[i]? = some d ∧ RV K ρ H d v
  | _, _, _, _, .nil, e => by simp at e
  | _, _, 0, _, .cons h _, e => by simp at e; subst e; exact ⟨_, rfl, h⟩
  | _, _, i + 1, v, .cons _ r, e => by
    obtain ⟨d, h1, h2⟩ := RVs.getV (i := i) (v := v) r (by simpa using e)
    exact ⟨d, by simpa using h1, h2⟩
theorem RVs.append : ∀ {ds es : List D} {vs ws : List LV}, RVs K ρ H ds vs → RVs K ρ H es ws → RVs K ρ H (ds ++ es) (vs ++ ws)
  | _, _, _, _, .nil, s => s
  | _, _, _, _, .cons h r, s => .cons h (RVs.append r s)
theorem RVs.take : ∀ {ds : List D} {vs : List LV} (n : Nat), RVs K ρ H ds vs → RVs K ρ H (ds.take n) (vs.take n)
  | _, _, 0, _ => .nil
  | _, _, _ + 1, .nil => .nil
  | _, _, n + 1, .cons h r => .cons h (RVs.take n r)
theorem RVs.drop : ∀ {ds : List D} {vs : List LV} (n : Nat), RVs K ρ H ds vs → RVs K ρ H (ds.drop n) (vs.drop n)
  | _, _, 0, r => r
  | _, _, _ + 1, .nil => .nil
  | _, _, n + 1, .cons _ r => RVs.drop n r
theorem RVs.set {d : D} {v : LV} (h : RV K ρ H d v) : ∀ {ds : List D} {vs : List LV} (n : Nat), RVs K ρ H ds vs → RVs K ρ H (ds.set n d) (vs.set n v)
  | _, _, _, .nil => .nil
  | _, _, 0, .cons _ r => .cons h r
  | _, _, n + 1, .cons q r => .cons q (RVs.set h n r)
theorem RVs.reverse : ∀ {ds : List D} {vs : List LV}, RVs K ρ H ds vs → RVs K ρ H ds.reverse vs.reverse
  | _, _, .nil => .nil
  | _, _, .cons h r => by rw [List.reverse_cons, List.reverse_cons]; exact RVs.append (RVs.reverse r) (.cons h .nil)
theorem RVs.eraseIdx : ∀ {ds : List D} {vs : List LV} (n : Nat), RVs K ρ H ds vs → RVs K ρ H (ds.eraseIdx n) (vs.eraseIdx n)
  | _, _, _, .nil => .nil
  | _, _, 0, .cons _ r => r
  | _, _, n + 1, .cons q r => .cons q (RVs.eraseIdx n r)
theorem RVs.dropLast {ds : List D} {vs : List LV} (r : RVs K ρ H ds vs) : RVs K ρ H ds.dropLast vs.dropLast := by
  rw [List.dropLast_eq_take, List.dropLast_eq_take, ← r.length]
  exact r.take _
theorem RVs.rep {ds : List D} {vs : List LV} (r : RVs K ρ H ds vs) : ∀ n : Nat, RVs K ρ H (List.replicate n ds).flatten (List.replicate n vs).flatten
  | 0 => .nil
  | n + 1 => by rw [List.replicate_succ, List.replicate_succ, List.flatten_cons, List.flatten_cons]; exact r.append (r.rep n)
end
end M

end
section
set_option Elab.async false
set_option linter.all false
set_option autoImplicit false
set_option maxRecDepth 100000
set_option maxHeartbeats 4000000
/-! the heaps' relation, readings of mini's meaning -/
namespace M
open PySem (Addr Obj Value Str)

theorem lim_eq : PySem.sizeLine = LIM := PySem.sizeLine_eq

/-- an int or text key -/
def leafKey : D → Option L2.Key
  | .int i => some (.inl i)
  | .str s => some (.inr ⟨s.toArray⟩)
  | _ => none
mutual
/-- a key at any depth -/
def nkey : D → PySem.NestedKey
  | .non => .none
  | .bl b => .num (if b then 1 else 0)
  | .int i => .num i
  | .str s => .text ⟨s.toArray⟩
  | .tup xs => .tup (nkeys xs)
  | .lst _ => .none
  | .ref _ => .none
def nkeys : List D → List PySem.NestedKey
  | [] => []
  | x :: xs => nkey x :: nkeys xs
end

section
variable (P : PySem.Program) (w : PySem.World) (K : PySem.W.Frag)
/-- the entries of a dict with int and text keys -/
inductive LK (ρ : List Addr) (H : LHp) : List (D × D) → List (L2.Key × LV) → Prop
  | nil : LK ρ H [] []
  | cons {k v : D} {kk : L2.Key} {vv : LV} {r : List (D × D)} {r' : List (L2.Key × LV)} : leafKey k = some kk → RV K ρ H k (L2.kV kk) → RV K ρ H v vv → LK ρ H r r' → LK ρ H ((k, v) :: r) ((kk, vv) :: r')
/-- the entries of a dict with tuple keys -/
inductive TKs (ρ : List Addr) (H : LHp) : List (D × D) → List (PySem.NestedKey × Addr × Value) → Prop
  | nil : TKs ρ H [] []
  | cons {ks : List D} {v : D} {a : Addr} {vv : LV} {u : Value} {r : List (D × D)} {r' : List (PySem.NestedKey × Addr × Value)} :
      keyOK (.tup ks) = true → RV K ρ H (.tup ks) (.ref a) → RV K ρ H v vv → L2.RelV vv u → TKs ρ H r r' → TKs ρ H ((.tup ks, v) :: r) ((nkey (.tup ks), a, u) :: r')
/-- the object of a dict with tuple keys -/
def DObj (ρ : List Addr) (H : LHp) (o : Obj) (kvs : List (D × D)) : Prop :=
  ∃ xs es ep, o.ExactDict ∧ o.data = .dict es ep ∧ es.toList = xs.map (PySem.entryOfKey (PySem.nestedKind P w)) ∧ (xs.map (·.1)).Nodup ∧ TKs K ρ H kvs xs ∧ kvs ≠ [] ∧ kvs.length ≤ LIM
/-- a list of the written part -/
def KLst (a : Addr) (xs : List LV) : Prop := ∃ (o : Obj) (its : Array Value) (n : Nat), K.lookup a = some o ∧ o.cls = .type "list" ∧ o.dict = none ∧ o.data = .seq its n ∧ its.size ≤ PySem.sizeLine ∧ L2.Vals xs its.toList
def CellOk (ρ : List Addr) (H : LHp) (a : Addr) : Cell → Prop
  | .lst ds => ∃ xs, H a = some (.lst xs) ∧ RVs K ρ H ds xs
  | .ro ds => ∃ xs, ((∃ ob, H a = some (.frz ob (.lst xs))) ∨ KLst K a xs) ∧ RVs K ρ H ds xs
  | .dct kvs => (∃ kvs', H a = some (.dK kvs') ∧ LK K ρ H kvs kvs' ∧ kvs.length ≤ LIM) ∨
      (a == PySem.sysModules) = false ∧ ∃ o, H a = some (.ext fun h => h.get? a = some o) ∧ DObj P w K ρ H o kvs
structure HR (ρ : List Addr) (hp : Hm) (H : LHp) : Prop where
  len : ρ.length = hp.length
  ok : ∀ (i : Nat) (a : Addr) (c : Cell), ρ[i]? = some a → hp[i]? = some c → CellOk P w K ρ H a c
  inj : ∀ (i j : Nat) (a : Addr) (c c' : Cell), ρ[i]? = some a → ρ[j]? = some a → hp[i]? = some c → hp[j]? = some c' → (∀ xs, c ≠ .ro xs) → (∀ xs, c' ≠ .ro xs) → i = j
end

section
variable {P : PySem.Program} {w : PySem.World} {K : PySem.W.Frag} {ρ ρ' : List Addr} {H H' : LHp} {hp : Hm}
theorem LK.mono (p : ρ <+: ρ') (t : TK H H') : ∀ {l : List (D × D)} {l' : List (L2.Key × LV)}, LK K ρ H l l' → LK K ρ' H' l l'
  | _, _, .nil => .nil
  | _, _, .cons a b c r => .cons a (b.mono p t) (c.mono p t) (LK.mono p t r)
theorem TKs.mono (p : ρ <+: ρ') (t : TK H H') : ∀ {l : List (D × D)} {l' : List (PySem.NestedKey × Addr × Value)}, TKs K ρ H l l' → TKs K ρ' H' l l'
  | _, _, .nil => .nil
  | _, _, .cons a b c d r => .cons a (b.mono p t) (c.mono p t) d (TKs.mono p t r)
theorem DObj.mono (p : ρ <+: ρ') (t : TK H H') {o : Obj} {kvs : List (D × D)} (h : DObj P w K ρ H o kvs) : DObj P w K ρ' H' o kvs := by
  obtain ⟨xs, es, ep, h1, h2, h3, h4, h5, h6, h7⟩ := h
  exact ⟨xs, es, ep, h1, h2, h3, h4, h5.mono p t, h6, h7⟩
/-- a cell stays, its own place being kept -/
theorem CellOk.mono (p : ρ <+: ρ') (t : TK H H') {a : Addr} {c : Cell} (h : CellOk P w K ρ H a c) (ha : (∀ xs, c ≠ .ro xs) → ∀ o, H a = some o → H' a = some o) : CellOk P w K ρ' H' a c := by
  cases c with
  | lst ds =>
    obtain ⟨xs, e, r⟩ := h
    exact ⟨xs, ha (fun _ z => nomatch z) _ e, r.mono p t⟩
  | ro ds =>
    obtain ⟨xs, e, r⟩ := h
    refine ⟨xs, ?_, r.mono p t⟩
    rcases e with ⟨ob, e⟩ | e
    · exact .inl ⟨ob, t.frz _ _ _ e⟩
    · exact .inr e
  | dct kvs =>
    rcases h with ⟨kvs', e, r, z⟩ | ⟨hs, o, e, r⟩
    · exact .inl ⟨kvs', ha (fun _ z => nomatch z) _ e, r.mono p t, z⟩
    · exact .inr ⟨hs, o, ha (fun _ z => nomatch z) _ e, r.mono p t⟩
theorem CellOk.there {a : Addr} {c : Cell} (h : CellOk P w K ρ H a c) (hc : ∀ xs, c ≠ .ro xs) : ∃ o, H a = some o ∧ Chg o := by
  cases c with
  | lst ds =>
    obtain ⟨xs, e, r⟩ := h
    exact ⟨_, e, trivial⟩
  | ro ds => exact absurd rfl (hc ds)
  | dct kvs =>
    rcases h with ⟨kvs', e, r, z⟩ | ⟨hs, o, e, r⟩
    · exact ⟨_, e, trivial⟩
    · exact ⟨_, e, trivial⟩
theorem HR.cell (h : HR P w K ρ hp H) {i : Nat} {a : Addr} {c : Cell} (hi : ρ[i]? = some a) (hc : hp[i]? = some c) : CellOk P w K ρ H a c := h.ok i a c hi hc
/-- the heap grows, nothing that is tracked here changes -/
theorem HR.grow (h : HR P w K ρ hp H) (t : TK H H') (k : ∀ a o, H a = some o → Chg o → H' a = some o) : HR P w K ρ hp H' :=
  ⟨h.len, fun i a c hi hc => (h.ok i a c hi hc).mono (List.prefix_refl _) t fun nr o e => by
    obtain ⟨o', e', c'⟩ := (h.ok i a c hi hc).there nr
    rw [e] at e'; cases e'
    exact k a o e c', h.inj⟩
theorem HR.new (h : HR P w K ρ hp H) {p : Addr} {o : L2.HO} (hn : H p = none) : HR P w K ρ hp (L2.upd H p o) :=
  h.grow (TK.new hn) fun a u e _ => by rw [L2.upd_ne (L2.ne_of_none e hn)]; exact e
theorem pre_snoc {α : Type} (l : List α) (x : α) : l <+: l ++ [x] := ⟨[x], rfl⟩
/-- a new cell -/
theorem HR.alloc (h : HR P w K ρ hp H) {p : Addr} {o : L2.HO} {c : Cell} (hn : H p = none) (hc : CellOk P w K (ρ ++ [p]) (L2.upd H p o) p c) (nr : ∀ xs, c ≠ .ro xs) : HR P w K (ρ ++ [p]) (hp ++ [c]) (L2.upd H p o) := by
  have hl := h.len
  have get : ∀ {i : Nat} {a : Addr}, (ρ ++ [p])[i]? = some a → (i < ρ.length ∧ ρ[i]? = some a) ∨ (i = ρ.length ∧ a = p) := fun {i a} e => by
    by_cases hi : i < ρ.length
    · rw [List.getElem?_append_left hi] at e; exact .inl ⟨hi, e⟩
    · rw [List.getElem?_append_right (by omega)] at e
      by_cases h0 : i - ρ.length = 0
      · rw [h0] at e; simp at e; exact .inr ⟨by omega, e.symm⟩
      · rw [List.getElem?_eq_none (by simp; omega)] at e; cases e
  have getc : ∀ {i : Nat} {c' : Cell}, i < ρ.length → (hp ++ [c])[i]? = some c' → hp[i]? = some c' := fun {i c'} hi e => by
    rwa [List.getElem?_append_left (by omega)] at e
  have getl : ∀ {c' : Cell}, (hp ++ [c])[ρ.length]? = some c' → c' = c := fun {c'} e => by
    rw [hl, List.getElem?_append_right (Nat.le_refl _)] at e; simp at e; exact e.symm
  refine ⟨by simp [hl], fun i a c' hi hc' => ?_, fun i j a c1 c2 hi hj h1 h2 n1 n2 => ?_⟩
  · rcases get hi with ⟨hlt, ha⟩ | ⟨rfl, rfl⟩
    · have q := h.ok i a c' ha (getc hlt hc')
      refine q.mono (pre_snoc _ _) (TK.new hn) fun nr' o' e => ?_
      rw [L2.upd_ne (L2.ne_of_none e hn)]; exact e
    · rw [getl hc']; exact hc
  · rcases get hi with ⟨hlt, ha⟩ | ⟨rfl, rfl⟩
    · rcases get hj with ⟨hlt', hb⟩ | ⟨rfl, rfl⟩
      · exact h.inj i j a c1 c2 ha hb (getc hlt h1) (getc hlt' h2) n1 n2
      · obtain ⟨o', e', _⟩ := (h.ok i a c1 ha (getc hlt h1)).there n1
        rw [hn] at e'; cases e'
    · rcases get hj with ⟨hlt', hb⟩ | ⟨rfl, _⟩
      · obtain ⟨o', e', _⟩ := (h.ok j a c2 hb (getc hlt' h2)).there n2
        rw [hn] at e'; cases e'
      · rfl
/-- a cell is changed -/
theorem HR.put (h : HR P w K ρ hp H) {i : Nat} {a : Addr} {c c' : Cell} {o u : L2.HO} (hi : ρ[i]? = some a) (hc : hp[i]? = some c) (nr : ∀ xs, c ≠ .ro xs) (hu : H a = some u) (cu : Chg u) (nr' : ∀ xs, c' ≠ .ro xs)
    (hc' : CellOk P w K ρ (L2.upd H a o) a c') : HR P w K ρ (hp.set i c') (L2.upd H a o) := by
  have t : TK H (L2.upd H a o) := TK.put hu cu
  have hlt : i < hp.length := (List.getElem?_eq_some_iff.mp hc).1
  refine ⟨by simp [h.len], fun j b d hj hd => ?_, fun j l b d1 d2 hj hl h1 h2 n1 n2 => ?_⟩
  · by_cases e : i = j
    · subst e
      rw [List.getElem?_set_self hlt] at hd
      cases hd
      rw [hi] at hj; cases hj
      exact hc'
    · rw [List.getElem?_set_ne e] at hd
      refine (h.ok j b d hj hd).mono (List.prefix_refl _) t fun nd o' e' => ?_
      have hb : b ≠ a := fun z => by
        subst z
        exact e (h.inj i j b c d hi hj hc hd nr nd)
      rw [L2.upd_ne hb]; exact e'
  · have old : ∀ {j : Nat} {d : Cell}, (hp.set i c')[j]? = some d → (∀ xs, d ≠ .ro xs) → ∃ d', hp[j]? = some d' ∧ ∀ xs, d' ≠ .ro xs := fun {j d} hd nd => by
      by_cases e : i = j
      · subst e; exact ⟨c, hc, nr⟩
      · rw [List.getElem?_set_ne e] at hd; exact ⟨d, hd, nd⟩
    obtain ⟨e1, q1, m1⟩ := old h1 n1
    obtain ⟨e2, q2, m2⟩ := old h2 n2
    exact h.inj j l b e1 e2 hj hl q1 q2 m1 m2

/-! ### a def's slots -/
def EnvR (K : PySem.W.Frag) (ρ : List Addr) (H : LHp) (env : Env) (σ : L2.St) : Prop :=
  σ.length = env.length ∧ ∀ (i : Nat) (d : D), env[i]? = some (some d) → ∃ v, σ[i]? = some (some v) ∧ RV K ρ H d v
theorem EnvR.mono {env : Env} {σ : L2.St} (p : ρ <+: ρ') (t : TK H H') (h : EnvR K ρ H env σ) : EnvR K ρ' H' env σ :=
  ⟨h.1, fun i d e => let ⟨v, a, b⟩ := h.2 i d e; ⟨v, a, b.mono p t⟩⟩
theorem EnvR.set {env : Env} {σ : L2.St} {i : Nat} {d : D} {v : LV} (h : EnvR K ρ H env σ) (r : RV K ρ H d v) : EnvR K ρ H (env.set i (some d)) (σ.set i (some v)) := by
  refine ⟨by simp [h.1], fun j d' e => ?_⟩
  by_cases hj : i = j
  · subst hj
    by_cases hi : i < env.length
    · rw [List.getElem?_set_self hi] at e
      cases e
      exact ⟨v, by rw [List.getElem?_set_self (by rw [h.1]; exact hi)], r⟩
    · rw [List.getElem?_eq_none (by simp; omega)] at e; cases e
  · rw [List.getElem?_set_ne hj] at e
    obtain ⟨v', a, b⟩ := h.2 j d' e
    exact ⟨v', by rw [List.getElem?_set_ne hj]; exact a, b⟩
theorem EnvR.none {env : Env} {σ : L2.St} {i : Nat} (h : EnvR K ρ H env σ) : EnvR K ρ H (env.set i none) (σ.set i none) := by
  refine ⟨by simp [h.1], fun j d' e => ?_⟩
  by_cases hj : i = j
  · subst hj
    by_cases hi : i < env.length
    · rw [List.getElem?_set_self hi] at e; cases e
    · rw [List.getElem?_eq_none (by simp; omega)] at e; cases e
  · rw [List.getElem?_set_ne hj] at e
    obtain ⟨v', a, b⟩ := h.2 j d' e
    exact ⟨v', by rw [List.getElem?_set_ne hj]; exact a, b⟩
theorem EnvR.wipe {env : Env} {σ : L2.St} (h : EnvR K ρ H env σ) : ∀ vs : List Nat, EnvR K ρ H (wipeE env vs) (L2.wipe σ vs)
  | [] => h
  | _ :: r => (EnvR.wipe h r).none
end

/-! ### readings -/
section
variable (P : PySem.Program) (w : PySem.World) (K : PySem.W.Frag)
/-- what is wanted behind, in the layer's words -/
def PV (ρ : List Addr) (H : LHp) (Q : L2.VK) : VQ := fun d hp' => ∀ (ρ' : List Addr) (H' : LHp) (v : LV), ρ <+: ρ' → TK H H' → HR P w K ρ' hp' H' → RV K ρ' H' d v → Q v H'
/-- an expression's reading by its meaning -/
def rdE (W : Env → Hm → VQ → Prop) : L2.TE := fun σ H Q => ∃ ρ env hp, HR P w K ρ hp H ∧ EnvR K ρ H env σ ∧ W env hp (PV P w K ρ H Q)
/-- a test's -/
def PB (ρ : List Addr) (H : LHp) (Q : Bool → LHp → Prop) : VQ := fun d hp' => ws (truth hp' d) fun k => ∀ (ρ' : List Addr) (H' : LHp), ρ <+: ρ' → TK H H' → HR P w K ρ' hp' H' → Q k H'
def rdT (W : Env → Hm → VQ → Prop) : L2.TT := fun σ H Q => ∃ ρ env hp, HR P w K ρ hp H ∧ EnvR K ρ H env σ ∧ W env hp (PB P w K ρ H Q)
/-- a list of arguments' -/
def PVs (ρ : List Addr) (H : LHp) (Q : List LV → LHp → Prop) : List D → Hm → Prop := fun ds hp' => ∀ (ρ' : List Addr) (H' : LHp) (vs : List LV), ρ <+: ρ' → TK H H' → HR P w K ρ' hp' H' → RVs K ρ' H' ds vs → Q vs H'
def rdA (W : Env → Hm → (List D → Hm → Prop) → Prop) : L2.TA := fun σ H Q => ∃ ρ env hp, HR P w K ρ hp H ∧ EnvR K ρ H env σ ∧ W env hp (PVs P w K ρ H Q)
end
/-- the meaning asks no more of less -/
def Mono (W : Env → Hm → VQ → Prop) : Prop := ∀ env h (Q Q' : VQ), W env h Q → (∀ d h', Q d h' → Q' d h') → W env h Q'

theorem PE.imp {X : L2.Cx} {e : PySem.Expr} {t t' : L2.TE} (h : L2.PE X e t) (k : ∀ σ H Q, t' σ H Q → t σ H Q) : L2.PE X e t' := ⟨fun pins s σ H Q I q => h.run pins s σ H Q I (k σ H Q q)⟩
theorem PT.imp {X : L2.Cx} {e : PySem.Expr} {t t' : L2.TT} (h : L2.PT X e t) (k : ∀ σ H Q, t' σ H Q → t σ H Q) : L2.PT X e t' := ⟨fun pins s σ H Q I q => h.run pins s σ H Q I (k σ H Q q)⟩
theorem PA.imp {X : L2.Cx} {e : List PySem.Expr} {t t' : L2.TA} (h : L2.PA X e t) (k : ∀ σ H Q, t' σ H Q → t σ H Q) : L2.PA X e t' := ⟨fun pos pins s σ H Q I q => h.run pos pins s σ H Q I (k σ H Q q)⟩
theorem PS.imp {X : L2.Cx} {e : PySem.Stmt} {t t' : L2.TS} (h : L2.PS X e t) (k : ∀ D σ H, t' D σ H → t D σ H) : L2.PS X e t' := ⟨fun pins s σ H D I q => h.run pins s σ H D I (k D σ H q)⟩
theorem PSs.imp {X : L2.Cx} {e : List PySem.Stmt} {t t' : L2.TS} (h : L2.PSs X e t) (k : ∀ D σ H, t' D σ H → t D σ H) : L2.PSs X e t' := ⟨fun pins s σ H D I q => h.run pins s σ H D I (k D σ H q)⟩
end M

end
section
set_option Elab.async false
set_option linter.all false
set_option autoImplicit false
set_option maxRecDepth 100000
set_option maxHeartbeats 4000000
/-! expressions: names, constants, operators -/
namespace M
open PySem (Addr Obj Value Str)
section
variable {X : L2.Cx}
abbrev rE (X : L2.Cx) (W : Env → Hm → VQ → Prop) : L2.TE := rdE X.prog X.w X.K W
abbrev rT (X : L2.Cx) (W : Env → Hm → VQ → Prop) : L2.TT := rdT X.prog X.w X.K W
abbrev rA (X : L2.Cx) (W : Env → Hm → (List D → Hm → Prop) → Prop) : L2.TA := rdA X.prog X.w X.K W
abbrev HRX (X : L2.Cx) := HR X.prog X.w X.K
abbrev PVX (X : L2.Cx) := PV X.prog X.w X.K

theorem PV.weak {P : PySem.Program} {w : PySem.World} {K : PySem.W.Frag} {ρ ρ' : List Addr} {H H' : LHp} {Q : L2.VK} (p : ρ <+: ρ') (t : TK H H') {d : D} {h : Hm} (q : PV P w K ρ H Q d h) : PV P w K ρ' H' Q d h :=
  fun ρ2 H2 v p2 t2 hr rv => q ρ2 H2 v (p.trans p2) (t.trans t2) hr rv
/-- where the heap is as it was -/
theorem PV.here {P : PySem.Program} {w : PySem.World} {K : PySem.W.Frag} {ρ : List Addr} {H : LHp} {Q : L2.VK} {d : D} {h : Hm} {v : LV} (q : PV P w K ρ H Q d h) (hr : HR P w K ρ h H) (rv : RV K ρ H d v) : Q v H :=
  q ρ H v (List.prefix_refl _) (TK.refl _) hr rv
/-- a new list -/
theorem PV.newL {P : PySem.Program} {w : PySem.World} {K : PySem.W.Frag} {ρ : List Addr} {H : LHp} {Q : L2.VK} {h : Hm} {ds : List D} {xs : List LV} {p : Addr} (q : PV P w K ρ H Q (.ref h.length) (h ++ [.lst ds])) (hr : HR P w K ρ h H) (r : RVs K ρ H ds xs) (hp : H p = none) :
    Q (.ref p) (L2.upd H p (.lst xs)) := by
  have t : TK H (L2.upd H p (.lst xs)) := TK.new hp
  refine q (ρ ++ [p]) _ _ (pre_snoc _ _) t (hr.alloc hp ⟨xs, L2.upd_same, r.mono (pre_snoc _ _) t⟩ fun _ z => nomatch z) (.ref ?_)
  rw [← hr.len]; simp
/-- a new tuple -/
theorem PV.newT {P : PySem.Program} {w : PySem.World} {K : PySem.W.Frag} {ρ : List Addr} {H : LHp} {Q : L2.VK} {h : Hm} {ds : List D} {xs : List LV} {p : Addr} (q : PV P w K ρ H Q (.tup ds) h) (hr : HR P w K ρ h H) (r : RVs K ρ H ds xs) (hp : H p = none) :
    Q (.ref p) (L2.upd H p (.tup xs)) := by
  have t : TK H (L2.upd H p (.tup xs)) := TK.new hp
  exact q ρ _ _ (List.prefix_refl _) t (hr.new hp) (.tup (L2.SqT.of L2.upd_same) (r.mono (List.prefix_refl _) t))

theorem pe_locM {F : FnS} {E : XP} {i : Nat} {x : Str} {pos : PySem.Pos} (hN : X.N[i]? = some x) (hv : L2.Vis X.env.scope x) (hd : (x == (PySem.Str.ofString "__debug__")) = false) (hcd : (x == (PySem.Str.ofString "__classdict__")) = false) : L2.PE X (.Name x pos) (rE X (wpE F E (.loc i))) :=
  PE.imp (L2.pe_var hN hv hd hcd) fun σ H Q ⟨ρ, env, hp, hr, he, h⟩ => by
    unfold wpE at h
    cases e : env[i]? with
    | none => rw [e] at h; exact h.elim
    | some o =>
      rw [e] at h
      cases o with
      | none => exact h.elim
      | some d =>
        obtain ⟨v, h1, h2⟩ := he.2 i d e
        exact ⟨v, h1, PV.here h hr h2⟩
theorem pe_intM {F : FnS} {E : XP} {i : Int} {j : Nat} {pos : PySem.Pos} : L2.PE X (.Constant (.int i) j pos) (rE X (wpE F E (.lit (.int i)))) :=
  PE.imp L2.pe_int fun σ H Q ⟨ρ, env, hp, hr, he, h⟩ => by unfold wpE at h; exact PV.here h hr (.int i)
theorem pe_blM {F : FnS} {E : XP} {b : Bool} {j : Nat} {pos : PySem.Pos} : L2.PE X (.Constant (.bool b) j pos) (rE X (wpE F E (.lit (.bl b)))) :=
  PE.imp L2.pe_bl fun σ H Q ⟨ρ, env, hp, hr, he, h⟩ => by unfold wpE at h; exact PV.here h hr (.bl b)
theorem pe_nonM {F : FnS} {E : XP} {j : Nat} {pos : PySem.Pos} : L2.PE X (.Constant .none j pos) (rE X (wpE F E (.lit .non))) :=
  PE.imp L2.pe_non fun σ H Q ⟨ρ, env, hp, hr, he, h⟩ => by unfold wpE at h; exact PV.here h hr .non
theorem pe_strM {F : FnS} {E : XP} {s : Str} {j : Nat} {pos : PySem.Pos} (hs : sOK s.cps.toList = true) : L2.PE X (.Constant (.str s) j pos) (rE X (wpE F E (.lit (.str s.cps.toList)))) :=
  PE.imp L2.pe_str fun σ H Q ⟨ρ, env, hp, hr, he, h⟩ => by
    unfold wpE at h
    have r : RV X.K ρ H (.str s.cps.toList) (.str ⟨s.cps.toList.toArray⟩) := .str _ hs
    exact PV.here h hr r
/-- a value of the written part -/
theorem pe_globM {F : FnS} {E : XP} {x : Str} {pos : PySem.Pos} {d : D} {v : LV} {u : Value} (hg : L2.Gl X x) (hm : X.mg x = some u) (r : L2.RelV v u) (hv : ∀ ρ H, RV X.K ρ H d v) (hd : (x == (PySem.Str.ofString "__debug__")) = false) : L2.PE X (.Name x pos) (rE X (wpE F E (.lit d))) :=
  PE.imp (L2.pe_glob hg hm r hd) fun σ H Q ⟨ρ, env, hp, hr, he, h⟩ => by unfold wpE at h; exact PV.here h hr (hv ρ H)

/-! ### lists of arguments -/
theorem pa_nilM {F : FnS} {E : XP} : L2.PA X [] (rA X (wpEs F E [])) :=
  PA.imp L2.pa_nil fun σ H Q ⟨ρ, env, hp, hr, he, h⟩ => by
    unfold wpEs at h
    exact h ρ H [] (List.prefix_refl _) (TK.refl _) hr .nil
theorem rd_cons {F : FnS} (hF : FMono F) {E : XP} {c : CE} {cs : List CE} {σ : L2.St} {H : LHp} {Q : List LV → LHp → Prop} (h : rA X (wpEs F E (c :: cs)) σ H Q) : L2.tCons (rE X (wpE F E c)) (rA X (wpEs F E cs)) σ H Q := by
  obtain ⟨ρ, env, hp, hr, he, h⟩ := h
  unfold wpEs at h
  refine ⟨ρ, env, hp, hr, he, wpE_mono hF c E env hp _ _ h fun d h1 q ρ1 H1 v p1 t1 hr1 rv1 => ?_⟩
  refine ⟨ρ1, env, h1, hr1, he.mono p1 t1, wpEs_mono hF cs E env h1 _ _ q fun ds h2 q ρ2 H2 vs p2 t2 hr2 rv2 => ?_⟩
  exact q ρ2 H2 (v :: vs) (p1.trans p2) (t1.trans t2) hr2 (.cons (rv1.mono p2 t2) rv2)
theorem pa_consM {F : FnS} (hF : FMono F) {E : XP} {e : PySem.Expr} {es : List PySem.Expr} {c : CE} {cs : List CE} (ha : L2.PE X e (rE X (wpE F E c))) (hr : L2.PA X es (rA X (wpEs F E cs))) (hs : PySem.starEach (e :: es) X.env = (false, PySem.eval e X.env) :: PySem.starEach es X.env) :
    L2.PA X (e :: es) (rA X (wpEs F E (c :: cs))) := PA.imp (L2.pa_cons ha hr hs) fun _ _ _ h => rd_cons hF h

/-! ### operators by values -/
/-- what a partial function of two values and the heap asks in the layer's words -/
def liftR (X : L2.Cx) (S : D → D → Hm → Option (D × Hm)) : L2.R2 := fun v u H Q => ∃ ρ hp x y r, HRX X ρ hp H ∧ RV X.K ρ H x v ∧ RV X.K ρ H y u ∧ S x y hp = some r ∧ PVX X ρ H Q r.1 r.2
theorem rd_bin {F : FnS} (hF : FMono F) {E : XP} {a b : CE} {S : D → D → Hm → Option (D × Hm)} {σ : L2.St} {H : LHp} {Q : L2.VK}
    (h : rE X (fun env h Q => wpE F E a env h fun x h1 => wpE F E b env h1 fun y h2 => ws (S x y h2) fun r => Q r.1 r.2) σ H Q) : L2.tOp (liftR X S) (rE X (wpE F E a)) (rE X (wpE F E b)) σ H Q := by
  obtain ⟨ρ, env, hp, hr, he, h⟩ := h
  refine ⟨ρ, env, hp, hr, he, wpE_mono hF a E env hp _ _ h fun x h1 q ρ1 H1 v p1 t1 hr1 rv1 => ?_⟩
  refine ⟨ρ1, env, h1, hr1, he.mono p1 t1, wpE_mono hF b E env h1 _ _ q fun y h2 q ρ2 H2 u p2 t2 hr2 rv2 => ?_⟩
  obtain ⟨r, e, q⟩ := ws_iff.mp q
  exact ⟨ρ2, h2, x, y, r, hr2, rv1.mono p2 t2, rv2, e, PV.weak (p1.trans p2) (t1.trans t2) q⟩

theorem OpR.imp {f : Value → Value → PySem.Sem Value} {r r' : L2.R2} (h : L2.OpR X f r) (k : ∀ x y H Q, r' x y H Q → r x y H Q) : L2.OpR X f r' := fun pins s σ H x y v u Q I rx ry q => h pins s σ H x y v u Q I rx ry (k _ _ _ _ q)
/-- a list that is read -/
theorem HR.getL {P : PySem.Program} {w : PySem.World} {K : PySem.W.Frag} {ρ : List Addr} {H : LHp} {hp : Hm} (hr : HR P w K ρ hp H) {i : Nat} {ds : List D} (h : getL hp i = some ds) : ∃ a xs, ρ[i]? = some a ∧ L2.SqL K H a xs ∧ RVs K ρ H ds xs := by
  have hl := hr.len
  unfold M.getL at h
  have hi : i < hp.length := by
    by_cases c : i < hp.length
    · exact c
    · rw [List.getElem?_eq_none (by omega)] at h; cases h
  have ha : ρ[i]? = some ρ[i] := List.getElem?_eq_getElem (by omega)
  cases e : hp[i]? with
  | none => rw [e] at h; cases h
  | some c =>
    rw [e] at h
    have q := hr.ok i _ c ha e
    cases c with
    | lst xs =>
      cases h
      obtain ⟨ys, e1, r⟩ := q
      exact ⟨_, ys, ha, .inl (.inl e1), r⟩
    | ro xs =>
      cases h
      obtain ⟨ys, e1, r⟩ := q
      refine ⟨_, ys, ha, ?_, r⟩
      rcases e1 with ⟨ob, e1⟩ | e1
      · exact .inl (.inr ⟨ob, e1⟩)
      · exact .inr e1
    | dct kvs => cases h
theorem RV.ref_inv {K : PySem.W.Frag} {ρ : List Addr} {H : LHp} {i : Nat} {v : LV} (h : RV K ρ H (.ref i) v) : ∃ a, v = .ref a ∧ ρ[i]? = some a := by
  cases h with
  | ref e => exact ⟨_, rfl, e⟩
theorem RV.tup_inv {K : PySem.W.Frag} {ρ : List Addr} {H : LHp} {ds : List D} {v : LV} (h : RV K ρ H (.tup ds) v) : ∃ a xs, v = .ref a ∧ L2.SqT K H a xs ∧ RVs K ρ H ds xs := by
  cases h with
  | tup e r => exact ⟨_, _, rfl, e, r⟩
theorem RV.int_inv {K : PySem.W.Frag} {ρ : List Addr} {H : LHp} {i : Int} {v : LV} (h : RV K ρ H (.int i) v) : v = .int i := by
  cases h; rfl
theorem RV.str_inv {K : PySem.W.Frag} {ρ : List Addr} {H : LHp} {s : List Nat} {v : LV} (h : RV K ρ H (.str s) v) : v = .str ⟨s.toArray⟩ ∧ sOK s = true := by
  cases h with
  | str _ h => exact ⟨rfl, h⟩

theorem sOK_app {a b : List Nat} (h : sOK a = true) (k : sOK b = true) (hl : a.length + b.length ≤ LIM) : sOK (a ++ b) = true := by
  unfold sOK at *
  simp only [Bool.and_eq_true, decide_eq_true_eq, List.all_append, List.length_append] at *
  exact ⟨hl, h.2, k.2⟩
theorem str_app (a b : List Nat) : (({ cps := a.toArray } : Str) ++ ({ cps := b.toArray } : Str)) = { cps := (a ++ b).toArray } := by
  show ({ cps := a.toArray ++ b.toArray } : Str) = _
  rw [List.append_toArray]
/-- a list that may be written -/
theorem HR.getM {P : PySem.Program} {w : PySem.World} {K : PySem.W.Frag} {ρ : List Addr} {H : LHp} {hp : Hm} (hr : HR P w K ρ hp H) {i : Nat} {ds : List D} (h : getM hp i = some ds) : ∃ a xs, ρ[i]? = some a ∧ hp[i]? = some (.lst ds) ∧ H a = some (.lst xs) ∧ RVs K ρ H ds xs := by
  have hl := hr.len
  unfold M.getM at h
  have hi : i < hp.length := by
    by_cases c : i < hp.length
    · exact c
    · rw [List.getElem?_eq_none (by omega)] at h; cases h
  have ha : ρ[i]? = some ρ[i] := List.getElem?_eq_getElem (by omega)
  cases e : hp[i]? with
  | none => rw [e] at h; cases h
  | some c =>
    rw [e] at h
    have q := hr.ok i _ c ha e
    cases c with
    | lst xs =>
      cases h
      obtain ⟨ys, e1, r⟩ := q
      exact ⟨_, ys, ha, rfl, e1, r⟩
    | ro xs => cases h
    | dct kvs => cases h
theorem getM_getL {hp : Hm} {i : Nat} {ds : List D} (h : getM hp i = some ds) : getL hp i = some ds := by
  unfold getM at h; unfold getL
  cases e : hp[i]? with
  | none => rw [e] at h; cases h
  | some c => rw [e] at h; cases c <;> first | exact h | cases h
theorem ref_eq {ρ : List Addr} {i : Nat} {a b : Addr} (h : ρ[i]? = some a) (h' : ρ[i]? = some b) : a = b := by rw [h] at h'; exact Option.some.inj h'
theorem newC_inv {h : Hm} {c : Cell} {r : D × Hm} (e : newC h c = some r) : r = (.ref h.length, h ++ [c]) := (Option.some.inj e).symm
theorem op_addM : L2.OpR X (PySem.binaryOp .Add) (liftR X (binS .add)) := by
  refine OpR.imp (L2.op_add.or (L2.op_add_str.or (L2.op_catA.or L2.op_cat))) fun v u H Q h => ?_
  obtain ⟨ρ, hp, x, y, r, hr, rx, ry, e, q⟩ := h
  cases x <;> cases y <;> simp only [binS] at e <;> first | (cases e; done) | skip
  · obtain rfl := rx.int_inv; obtain rfl := ry.int_inv
    cases e
    exact .inl ⟨_, _, rfl, rfl, PV.here q hr (.int _)⟩
  · obtain ⟨rfl, z1⟩ := rx.str_inv; obtain ⟨rfl, z2⟩ := ry.str_inv
    split at e
    · rename_i hl
      cases e
      refine .inr (.inl ⟨_, _, rfl, rfl, ?_, ?_⟩)
      · rw [lim_eq]; simpa [PySem.Str.length] using hl
      · rw [str_app]
        exact PV.here q hr (.str _ (sOK_app z1 z2 hl))
    · cases e
  · obtain ⟨a, xs, rfl, sa, ra⟩ := rx.tup_inv; obtain ⟨b, ys, rfl, sb, rb⟩ := ry.tup_inv
    split at e
    · rename_i hl
      cases e
      refine .inr (.inr (.inl ⟨a, b, xs, ys, rfl, rfl, sa, sb, ?_, ?_, ?_, ?_⟩))
      · rw [lim_eq, ← ra.length, ← rb.length]; exact hl
      · rintro rfl
        cases ra
        exact PV.here q hr (.tup sb (by simpa using rb))
      · rintro _ rfl
        cases rb
        exact PV.here q hr (.tup sa (by simpa using ra))
      · intro _ _ p hp'
        exact PV.newT q hr (ra.append rb) hp'
    · cases e
  · obtain ⟨a, rfl, ea⟩ := rx.ref_inv; obtain ⟨b, rfl, eb⟩ := ry.ref_inv
    split at e
    · rename_i s t e1 e2
      split at e
      · rename_i hl
        obtain rfl := newC_inv e
        obtain ⟨a', xs, ha, _, sa, ra⟩ := hr.getM e1
        obtain ⟨b', ys, hb, _, sb, rb⟩ := hr.getM e2
        obtain rfl := ref_eq ea ha
        obtain rfl := ref_eq eb hb
        exact .inr (.inr (.inr ⟨a, b, xs, ys, rfl, rfl, sa, sb, by rw [lim_eq, ← ra.length, ← rb.length]; exact hl, fun p hp' => PV.newL q hr (ra.append rb) hp'⟩))
      · cases e
    · cases e
theorem op_subM : L2.OpR X (PySem.binaryOp .Sub) (liftR X (binS .sub)) := by
  refine OpR.imp L2.op_sub fun v u H Q h => ?_
  obtain ⟨ρ, hp, x, y, r, hr, rx, ry, e, q⟩ := h
  cases x <;> cases y <;> simp only [binS] at e <;> first | (cases e; done) | skip
  obtain rfl := rx.int_inv; obtain rfl := ry.int_inv
  cases e
  exact ⟨_, _, rfl, rfl, PV.here q hr (.int _)⟩
theorem op_mulM : L2.OpR X (PySem.binaryOp .Mult) (liftR X (binS .mul)) := by
  refine OpR.imp (L2.op_mul.or (L2.op_repT.or L2.op_rep)) fun v u H Q h => ?_
  obtain ⟨ρ, hp, x, y, r, hr, rx, ry, e, q⟩ := h
  cases x <;> cases y <;> simp only [binS] at e <;> first | (cases e; done) | skip
  · obtain rfl := rx.int_inv; obtain rfl := ry.int_inv
    split at e
    · rename_i c
      cases e
      refine .inl ⟨_, _, rfl, rfl, ?_, PV.here q hr (.int _)⟩
      unfold LINT at c
      rcases c with c | c
      · exact .inl ⟨by omega, by omega⟩
      · exact .inr ⟨by omega, by omega⟩
    · cases e
  · obtain ⟨a, xs, rfl, sa, ra⟩ := rx.tup_inv; obtain rfl := ry.int_inv
    split at e
    · rename_i c
      cases e
      have hl := ra.length
      refine .inr (.inl ⟨a, _, xs, rfl, rfl, sa, ?_, c.2.1, c.2.2.1, by omega, fun p hp' => PV.newT q hr (ra.rep _) hp'⟩)
      rintro rfl
      exact c.1 hl
    · cases e
  · obtain ⟨a, rfl, ea⟩ := rx.ref_inv; obtain rfl := ry.int_inv
    split at e
    · rename_i s e1
      split at e
      · rename_i c
        obtain rfl := newC_inv e
        obtain ⟨a', xs, ha, _, sa, ra⟩ := hr.getM e1
        obtain rfl := ref_eq ea ha
        have hl := ra.length
        refine .inr (.inr ⟨a, _, xs, rfl, rfl, sa, by omega, by omega, ?_, fun p hp' => PV.newL q hr (ra.rep _) hp'⟩)
        rw [lim_eq]
        have := Nat.mul_le_mul (show xs.length ≤ 10000 by omega) (show _ ≤ 1000 from Int.toNat_le.mpr c.2.1)
        unfold LIM
        omega
      · cases e
    · cases e
theorem op_fdivM : L2.OpR X (PySem.binaryOp .FloorDiv) (liftR X (binS .fdiv)) := by
  refine OpR.imp L2.op_fdivN fun v u H Q h => ?_
  obtain ⟨ρ, hp, x, y, r, hr, rx, ry, e, q⟩ := h
  cases x <;> cases y <;> simp only [binS] at e <;> first | (cases e; done) | skip
  obtain rfl := rx.int_inv; obtain rfl := ry.int_inv
  split at e
  · rename_i c
    cases e
    exact ⟨_, _, rfl, rfl, c, PV.here q hr (.int _)⟩
  · cases e
theorem op_modM : L2.OpR X (PySem.binaryOp .Mod) (liftR X (binS .mod)) := by
  refine OpR.imp L2.op_modN fun v u H Q h => ?_
  obtain ⟨ρ, hp, x, y, r, hr, rx, ry, e, q⟩ := h
  cases x <;> cases y <;> simp only [binS] at e <;> first | (cases e; done) | skip
  obtain rfl := rx.int_inv; obtain rfl := ry.int_inv
  split at e
  · rename_i c
    cases e
    exact ⟨_, _, rfl, rfl, c, PV.here q hr (.int _)⟩
  · cases e
theorem op_powM : L2.OpR X (PySem.binaryOp .Pow) (liftR X (binS .pow)) := by
  refine OpR.imp L2.op_pow fun v u H Q h => ?_
  obtain ⟨ρ, hp, x, y, r, hr, rx, ry, e, q⟩ := h
  cases x <;> cases y <;> simp only [binS] at e <;> first | (cases e; done) | skip
  obtain rfl := rx.int_inv; obtain rfl := ry.int_inv
  split at e
  · rename_i c
    cases e
    exact ⟨_, _, rfl, rfl, c, PV.here q hr (.int _)⟩
  · cases e
end
end M

end
section
set_option Elab.async false
set_option linter.all false
set_option autoImplicit false
set_option maxRecDepth 100000
set_option maxHeartbeats 4000000
/-! comparisons, truth, what is equal -/
namespace M
open PySem (Addr Obj Value Str PyData)
mutual
def pd : D → PyData
  | .non => .none
  | .bl b => .bool b
  | .int i => .int i
  | .str s => .str ⟨s.toArray⟩
  | .tup xs => .tuple (pds xs)
  | .lst xs => .list (pds xs)
  | .ref _ => .dict []
def pds : List D → List PyData
  | [] => []
  | x :: xs => pd x :: pds xs
end
theorem str_mk_eq (a b : List Nat) : (({ cps := a.toArray } : Str) == { cps := b.toArray }) = decide (a = b) := by
  by_cases h : a = b
  · subst h; simp
  · rw [decide_eq_false h]
    refine beq_eq_false_iff_ne.mpr fun e => h ?_
    have := congrArg (fun z : Str => z.cps.toList) e
    simpa using this
mutual
theorem eqD_pd : ∀ x y : D, eqD x y = PyData.eqv (pd x) (pd y)
  | .non, y => by cases y <;> simp [eqD, pd, PyData.eqv]
  | .bl b, y => by cases y <;> simp [eqD, pd, PyData.eqv]
  | .int i, y => by
    cases y <;> simp [eqD, pd, PyData.eqv]
    rfl
  | .str s, y => by
    cases y <;> simp [eqD, pd, PyData.eqv]
    exact (str_mk_eq _ _).symm
  | .tup xs, y => by
    cases y <;> simp only [eqD, pd, PyData.eqv]
    exact eqDs_pds xs _
  | .lst xs, y => by
    cases y <;> simp only [eqD, pd, PyData.eqv]
    exact eqDs_pds xs _
  | .ref a, y => by cases y <;> simp [eqD, pd, PyData.eqv]
theorem eqDs_pds : ∀ xs ys : List D, eqDs xs ys = PyData.eqvAll (pds xs) (pds ys)
  | [], ys => by cases ys <;> simp [eqDs, pds, PyData.eqvAll]
  | x :: xs, ys => by
    cases ys with
    | nil => simp [eqDs, pds, PyData.eqvAll]
    | cons y ys => simp only [eqDs, pds, PyData.eqvAll, eqD_pd x y, eqDs_pds xs ys]
end
/-- what a snapshot is in the layer's words -/
structure SnapOk (K : PySem.W.Frag) (H : LHp) (v : LV) (s : D) : Prop where
  dp : L2.Dp K H v (pd s)
  lay : (pd s).canLay0 = true
  dep : dep s = (pd s).depth
structure SnapsOk (K : PySem.W.Frag) (H : LHp) (vs : List LV) (ss : List D) : Prop where
  dp : L2.DpAll K H vs (pds ss)
  lay : PyData.canLayAll0 (pds ss) = true
  dep : deps ss = PyData.depthAll (pds ss)
section
variable {K : PySem.W.Frag} {ρ : List Addr} {H : LHp} {f : Nat → Option (List D)}
theorem strOk_of {s : List Nat} (h : sOK s = true) : PyData.strOk ⟨s.toArray⟩ = true := by
  unfold sOK at h
  rw [Bool.and_eq_true] at h
  show Array.all s.toArray (fun c => decide (c < 0x110000)) = true
  rw [← Array.all_toList]
  exact h.2
mutual
theorem snapD_ok (hf : ∀ a ss, f a = some ss → ∀ addr, ρ[a]? = some addr → ∃ xs, L2.SqL K H addr xs ∧ SnapsOk K H xs ss) : ∀ (d s : D) (v : LV), RV K ρ H d v → snapD f d = some s → SnapOk K H v s
  | .non, s, v, r, e => by
    cases r; simp only [snapD, Option.some.injEq] at e; subst e
    exact ⟨.non, rfl, rfl⟩
  | .bl b, s, v, r, e => by
    cases r; simp only [snapD, Option.some.injEq] at e; subst e
    exact ⟨.bl b, rfl, rfl⟩
  | .int i, s, v, r, e => by
    cases r; simp only [snapD, Option.some.injEq] at e; subst e
    exact ⟨.int i, rfl, rfl⟩
  | .str x, s, v, r, e => by
    obtain ⟨rfl, h⟩ := r.str_inv; simp only [snapD, Option.some.injEq] at e; subst e
    exact ⟨.str _, strOk_of h, rfl⟩
  | .tup xs, s, v, r, e => by
    obtain ⟨a, ys, rfl, h1, h2⟩ := r.tup_inv
    simp only [snapD, Option.map_eq_some_iff] at e
    obtain ⟨ss, e1, rfl⟩ := e
    have q := snapDs_ok hf xs ss ys h2 e1
    exact ⟨.tup h1 q.dp, by simpa only [pd, PyData.canLay0] using q.lay, by simp only [pd, M.dep, PyData.depth, q.dep]⟩
  | .ref a, s, v, r, e => by
    obtain ⟨addr, rfl, h1⟩ := r.ref_inv
    simp only [snapD, Option.map_eq_some_iff] at e
    obtain ⟨ss, e1, rfl⟩ := e
    obtain ⟨xs, h2, q⟩ := hf a ss e1 addr h1
    exact ⟨.lst h2 q.dp, by simpa only [pd, PyData.canLay0] using q.lay, by simp only [pd, M.dep, PyData.depth, q.dep]⟩
  | .lst xs, s, v, r, e => by cases r
theorem snapDs_ok (hf : ∀ a ss, f a = some ss → ∀ addr, ρ[a]? = some addr → ∃ xs, L2.SqL K H addr xs ∧ SnapsOk K H xs ss) : ∀ (ds ss : List D) (vs : List LV), RVs K ρ H ds vs → snapDs f ds = some ss → SnapsOk K H vs ss
  | [], ss, vs, r, e => by
    cases r; simp only [snapDs, Option.some.injEq] at e; subst e
    exact ⟨.nil, rfl, rfl⟩
  | d :: ds, ss, vs, r, e => by
    cases r with
    | cons r1 r2 =>
      simp only [snapDs] at e
      split at e
      · rename_i y ys e1 e2
        cases e
        have q1 := snapD_ok hf d y _ r1 e1
        have q2 := snapDs_ok hf ds ys _ r2 e2
        exact ⟨.cons q1.dp q2.dp, by simp only [pds, PyData.canLayAll0, q1.lay, q2.lay, Bool.and_self], by simp only [pds, deps, PyData.depthAll, q1.dep, q2.dep]⟩
      · cases e
end
theorem snapN_ok {P : PySem.Program} {w : PySem.World} {hp : Hm} (hr : HR P w K ρ hp H) : ∀ (n a : Nat) (ss : List D), snapN hp n a = some ss → ∀ addr, ρ[a]? = some addr → ∃ xs, L2.SqL K H addr xs ∧ SnapsOk K H xs ss
  | 0, _, _, e, _, _ => by simp [snapN] at e
  | n + 1, a, ss, e, addr, ha => by
    simp only [snapN] at e
    split at e
    · rename_i xs e1
      obtain ⟨b, ys, hb, h1, h2⟩ := hr.getL e1
      obtain rfl := ref_eq ha hb
      exact ⟨ys, h1, snapDs_ok (snapN_ok hr n) xs ss ys h2 e⟩
    · cases e
theorem snap_ok {P : PySem.Program} {w : PySem.World} {hp : Hm} (hr : HR P w K ρ hp H) {d s : D} {v : LV} (r : RV K ρ H d v) (e : snap hp d = some s) : SnapOk K H v s := snapD_ok (snapN_ok hr 6) d s v r e
end

section
variable {X : L2.Cx}
/-- a comparison by values -/
def liftC (X : L2.Cx) (S : D → D → Hm → Option Bool) : L2.R2 := liftR X fun x y h => (S x y h).map fun k => (.bl k, h)
theorem op_eqM (hu : X.A.units + 64 < PySem.cLine) : L2.OpR X (PySem.compareOp .Eq) (liftC X fun x y h => cmpS .eq x y h) := by
  intro pins s σ H v u v' u' Q I rv ru h
  obtain ⟨ρ, hp, x, y, r, hr, rx, ry, e, q⟩ := h
  obtain ⟨k, e, rfl⟩ := Option.map_eq_some_iff.mp e
  simp only [cmpS, eqv] at e
  split at e
  · rename_i a b ea eb
    split at e
    · rename_i hd
      cases e
      have qa := snap_ok hr rx ea
      have qb := snap_ok hr ry eb
      obtain ⟨as, r1⟩ := L2.Dp.reads I _ _ _ qa.dp rv
      obtain ⟨bs, r2⟩ := L2.Dp.reads I _ _ _ qb.dp ru
      refine PySem.SeqAt.compareEq_reads r1 r2 qa.lay qb.lay ?_ ⟨.bl _, H, I, rfl, ?_⟩
      · rw [← qa.dep, ← qb.dep]; omega
      · rw [← eqD_pd]; exact PV.here q hr (.bl _)
    · cases e
  · cases e
theorem op_neM (hu : X.A.units + 64 < PySem.cLine) : L2.OpR X (PySem.compareOp .NotEq) (liftC X fun x y h => cmpS .ne x y h) := by
  intro pins s σ H v u v' u' Q I rv ru h
  obtain ⟨ρ, hp, x, y, r, hr, rx, ry, e, q⟩ := h
  obtain ⟨k, e', rfl⟩ := Option.map_eq_some_iff.mp e
  have e3 : (eqv hp x y).map not = some k := e'
  obtain ⟨k', e2, hk⟩ := Option.map_eq_some_iff.mp e3
  clear e e' e3
  subst hk
  simp only [eqv] at e2
  split at e2
  · rename_i a b ea eb
    split at e2
    · rename_i hd
      obtain rfl := Option.some.inj e2
      have qa := snap_ok hr rx ea
      have qb := snap_ok hr ry eb
      obtain ⟨as, r1⟩ := L2.Dp.reads I _ _ _ qa.dp rv
      obtain ⟨bs, r2⟩ := L2.Dp.reads I _ _ _ qb.dp ru
      refine PySem.SeqAt.compareNe_reads r1 r2 qa.lay qb.lay ?_ ⟨.bl _, H, I, rfl, ?_⟩
      · rw [← qa.dep, ← qb.dep]; omega
      · rw [← eqD_pd]; exact PV.here q hr (.bl _)
    · cases e2
  · cases e2
theorem any_pds (a : D) : ∀ bs : List D, ((pds bs).any fun b => b.eqv (pd a)) = bs.any fun b => eqD b a
  | [] => rfl
  | b :: bs => by simp only [pds, List.any_cons, any_pds a bs, eqD_pd]
/-- x in a list or a tuple -/
theorem in_run (hu : X.A.units + 65 < PySem.cLine) {pins : List (Addr × Obj)} {s : PySem.Shared} {σ : L2.St} {H : LHp} {E : Value → PySem.Shared → Prop} (I : L2.Inv X pins σ H s) {ρ : List Addr} {hp : Hm} (hr : HRX X ρ hp H) {x : D} {ys : List D} {v : LV} {xs : List LV} {a : Addr} {v' : Value}
    (rx : RV X.K ρ H x v) (ry : RVs X.K ρ H ys xs) (rv : L2.RelV v v') (ha : L2.SqL X.K H a xs ∨ L2.SqT X.K H a xs) {k : Bool} (e : anyEq hp x ys = some k) {Q : Value → PySem.Shared → Prop} :
    (Q (.bool k) s → PySem.wpAny (PySem.model X.prog X.w) X.A (PySem.compareOp .In v' (.ref a)) Q E s) ∧ (Q (.bool !k) s → PySem.wpAny (PySem.model X.prog X.w) X.A (PySem.compareOp .NotIn v' (.ref a)) Q E s) := by
  simp only [anyEq] at e
  split at e
  · rename_i d ds e1 e2
    split at e
    · rename_i hd
      cases e
      have qa := snap_ok hr rx e1
      have qb := snapDs_ok (snapN_ok hr 6) ys ds xs ry e2
      obtain ⟨as, r1⟩ := L2.Dp.reads I _ _ _ qa.dp rv
      have room : X.A.units + 1 + min (PyData.depthAll (pds ds)) (pd d).depth < PySem.cLine := by rw [← qa.dep, ← qb.dep]; omega
      rcases ha with ha | ha
      · obtain ⟨bs, r2⟩ := L2.Dp.reads I (.list (pds ds)) (.ref a) (.ref a) (.lst ha qb.dp) rfl
        exact ⟨fun q => PySem.SeqAt.in_list_reads r2 r1 qb.lay qa.lay room (by rw [any_pds]; exact q), fun q => PySem.SeqAt.notIn_list_reads r2 r1 qb.lay qa.lay room (by rw [any_pds]; exact q)⟩
      · obtain ⟨bs, r2⟩ := L2.Dp.reads I (.tuple (pds ds)) (.ref a) (.ref a) (.tup ha qb.dp) rfl
        exact ⟨fun q => PySem.SeqAt.in_tuple_reads r2 r1 qb.lay qa.lay room (by rw [any_pds]; exact q), fun q => PySem.SeqAt.notIn_tuple_reads r2 r1 qb.lay qa.lay room (by rw [any_pds]; exact q)⟩
    · cases e
  · cases e
end
end M

end
section
set_option Elab.async false
set_option linter.all false
set_option autoImplicit false
set_option maxRecDepth 100000
set_option maxHeartbeats 4000000
/-! dicts -/
namespace M
open PySem (Addr Obj Value Str PyData Heap NestedKey NestedIs NestedAll)
section
variable {X : L2.Cx} {pins : List (Addr × Obj)} {s : PySem.Shared} {σ : L2.St} {H : LHp} {ρ : List Addr}
mutual
/-- pure data is a key of the heap -/
theorem nested_of (I : L2.Inv X pins σ H s) : ∀ (d : D) (v : LV) (u : Value), pureD d = true → RV X.K ρ H d v → L2.RelV v u → NestedIs s.heap (nkey d) u
  | .non, _, _, _, r, ru => by cases r; cases ru; exact .none
  | .bl b, _, _, _, r, ru => by cases r; cases ru; exact .bool rfl
  | .int i, _, _, _, r, ru => by cases r; obtain ⟨t, rfl⟩ := ru; exact .int i t
  | .str x, _, _, _, r, ru => by obtain ⟨rfl, _⟩ := r.str_inv; obtain ⟨t, rfl⟩ := ru; exact .text _ t
  | .tup xs, _, _, hp, r, ru => by
    obtain ⟨a, ys, rfl, h1, h2⟩ := r.tup_inv
    cases ru
    obtain ⟨its, rv, ⟨o, ho, hc, n, hd⟩, _⟩ := I.tuple h1
    exact .tup ho hc hd (by simpa using nested_all I xs ys its (by simpa only [pureD] using hp) h2 rv)
  | .lst _, _, _, hp, _, _ => by simp [pureD] at hp
  | .ref _, _, _, hp, _, _ => by simp [pureD] at hp
theorem nested_all (I : L2.Inv X pins σ H s) : ∀ (ds : List D) (vs : List LV) (us : List Value), pureDs ds = true → RVs X.K ρ H ds vs → L2.Vals vs us → NestedAll s.heap (nkeys ds) us
  | [], _, _, _, r, ru => by cases r; cases ru; exact .nil
  | d :: ds, _, _, hp, r, ru => by
    cases r with
    | cons r1 r2 =>
      cases ru with
      | cons u1 u2 =>
        simp only [pureDs, Bool.and_eq_true] at hp
        exact .cons (nested_of I d _ _ hp.1 r1 u1) (nested_all I ds _ _ hp.2 r2 u2)
end
mutual
theorem nkey_depth : ∀ d : D, pureD d = true → (nkey d).depth = dep d
  | .non, _ => rfl
  | .bl _, _ => rfl
  | .int _, _ => rfl
  | .str _, _ => rfl
  | .tup xs, h => by simp only [nkey, NestedKey.depth, dep, nkeys_depth xs (by simpa only [pureD] using h)]
  | .lst _, h => by simp [pureD] at h
  | .ref _, h => by simp [pureD] at h
theorem nkeys_depth : ∀ ds : List D, pureDs ds = true → NestedKey.depthAll (nkeys ds) = deps ds
  | [], _ => rfl
  | d :: ds, h => by
    simp only [pureDs, Bool.and_eq_true] at h
    simp only [nkeys, NestedKey.depthAll, deps, nkey_depth d h.1, nkeys_depth ds h.2]
end
mutual
theorem nkey_eq : ∀ d e : D, pureD d = true → pureD e = true → NestedKey.beq (nkey d) (nkey e) = eqD d e
  | .non, e, _, he => by cases e <;> simp_all [nkey, NestedKey.beq, eqD, pureD]
  | .bl b, e, _, he => by
    cases e with
    | bl c => cases b <;> cases c <;> simp [nkey, NestedKey.beq, eqD]
    | int j => simp only [nkey, NestedKey.beq, eqD]; rfl
    | _ => simp_all [nkey, NestedKey.beq, eqD, pureD]
  | .int i, e, _, he => by
    cases e with
    | bl c => simp only [nkey, NestedKey.beq, eqD]; rfl
    | _ => simp_all [nkey, NestedKey.beq, eqD, pureD]
  | .str x, e, _, he => by cases e <;> simp_all [nkey, NestedKey.beq, eqD, pureD]
  | .tup xs, e, hd, he => by
    cases e <;> simp only [nkey, NestedKey.beq, eqD, pureD] at * <;> first | exact nkeys_eq xs _ hd he | simp_all
  | .lst _, _, h, _ => by simp [pureD] at h
  | .ref _, _, h, _ => by simp [pureD] at h
theorem nkeys_eq : ∀ ds es : List D, pureDs ds = true → pureDs es = true → NestedKey.beqAll (nkeys ds) (nkeys es) = eqDs ds es
  | [], es, _, _ => by cases es <;> simp [nkeys, NestedKey.beqAll, eqDs]
  | d :: ds, es, hd, he => by
    cases es with
    | nil => simp [nkeys, NestedKey.beqAll, eqDs]
    | cons e es =>
      simp only [pureDs, Bool.and_eq_true] at hd he
      simp only [nkeys, NestedKey.beqAll, eqDs, nkey_eq d e hd.1 he.1, nkeys_eq ds es hd.2 he.2]
end
theorem keyOK_pure {d : D} (h : keyOK d = true) : pureD d = true ∧ dep d ≤ 8 := by
  cases d <;> simp_all [keyOK, pureD, dep]
theorem nkey_dec {d e : D} (hd : pureD d = true) (he : pureD e = true) : decide (nkey d = nkey e) = eqD d e := by
  rw [NestedKey.decide_eq, nkey_eq d e hd he]
end

section
variable {K : PySem.W.Frag} {ρ : List Addr} {H : LHp}
theorem leaf_eq {a k : D} {ka kk : L2.Key} (h : leafKey a = some ka) (h' : leafKey k = some kk) : eqD a k = decide (ka = kk) := by
  cases a <;> simp only [leafKey] at h <;> first | (cases h; done) | skip
  all_goals (cases k <;> simp only [leafKey] at h' <;> first | (cases h'; done) | skip)
  all_goals (cases h; cases h')
  · rw [L2.key_ll]; rfl
  · rw [L2.key_lr]; rfl
  · rw [L2.key_rl]; rfl
  · rw [L2.key_rr]
    simp only [eqD]
    rename_i x y
    have := str_mk_eq x y
    rw [← this]
    by_cases e : ({ cps := x.toArray } : Str) = { cps := y.toArray }
    · rw [decide_eq_true e, e]; simp
    · rw [decide_eq_false e]; exact beq_eq_false_iff_ne.mpr e
theorem leaf_noTup {k : D} {kk : L2.Key} (h : leafKey k = some kk) : isTup k = false := by
  cases k <;> simp only [leafKey] at h <;> first | rfl | cases h
theorem dget_cons (a b k : D) (r : List (D × D)) : dget ((a, b) :: r) k = if eqD a k = true then some b else dget r k := by
  unfold dget
  rw [List.find?_cons]
  cases h : eqD a k with
  | true => simp
  | false => simp
theorem LK.get : ∀ {kvs : List (D × D)} {kvs' : List (L2.Key × LV)} {k : D} {kk : L2.Key}, LK K ρ H kvs kvs' → leafKey k = some kk →
    (dget kvs k = none ∧ L2.valV kvs' kk = none) ∨ ∃ d vv, dget kvs k = some d ∧ L2.valV kvs' kk = some vv ∧ RV K ρ H d vv
  | _, _, _, _, .nil, _ => .inl ⟨rfl, rfl⟩
  | _, _, k, kk, .cons (k := a) (kk := ka) h1 h2 h3 r, hk => by
    have e := leaf_eq h1 hk
    rw [dget_cons]
    by_cases q : ka = kk
    · rw [e, decide_eq_true q, if_pos rfl]
      exact .inr ⟨_, _, rfl, L2.valV_pos (p := (ka, _)) q, h3⟩
    · rw [e, decide_eq_false q, if_neg (by simp), L2.valV_neg (p := (ka, _)) q]
      exact LK.get r hk
theorem LK.any : ∀ {kvs : List (D × D)} {kvs' : List (L2.Key × LV)} {k : D} {kk : L2.Key}, LK K ρ H kvs kvs' → leafKey k = some kk → (kvs.any fun p => eqD p.1 k) = kvs'.any fun p => decide (p.1 = kk)
  | _, _, _, _, .nil, _ => rfl
  | _, _, k, kk, .cons h1 h2 h3 r, hk => by simp only [List.any_cons, leaf_eq h1 hk, LK.any r hk]
theorem LK.repl {k d : D} {kk : L2.Key} {dv : LV} (hk : leafKey k = some kk) (rd : RV K ρ H d dv) : ∀ {kvs : List (D × D)} {kvs' : List (L2.Key × LV)}, LK K ρ H kvs kvs' →
    LK K ρ H (kvs.map fun p => if eqD p.1 k = true then (p.1, d) else p) (kvs'.map fun p => if p.1 = kk then (p.1, dv) else p)
  | _, _, .nil => .nil
  | _, _, .cons (kk := ka) h1 h2 h3 r => by
    simp only [List.map_cons, leaf_eq h1 hk, decide_eq_true_eq]
    by_cases q : ka = kk
    · rw [if_pos q, if_pos q]; exact .cons h1 h2 rd (LK.repl hk rd r)
    · rw [if_neg q, if_neg q]; exact .cons h1 h2 h3 (LK.repl hk rd r)
theorem LK.snoc {k d : D} {kk : L2.Key} {dv : LV} (hk : leafKey k = some kk) (rk : RV K ρ H k (L2.kV kk)) (rd : RV K ρ H d dv) : ∀ {kvs : List (D × D)} {kvs' : List (L2.Key × LV)}, LK K ρ H kvs kvs' → LK K ρ H (kvs ++ [(k, d)]) (kvs' ++ [(kk, dv)])
  | _, _, .nil => .cons hk rk rd .nil
  | _, _, .cons h1 h2 h3 r => .cons h1 h2 h3 (LK.snoc hk rk rd r)
theorem LK.put {k d : D} {kk : L2.Key} {dv : LV} (hk : leafKey k = some kk) (rk : RV K ρ H k (L2.kV kk)) (rd : RV K ρ H d dv) {kvs : List (D × D)} {kvs' : List (L2.Key × LV)} (h : LK K ρ H kvs kvs') : LK K ρ H (dput kvs k d) (L2.putK kvs' kk dv) := by
  unfold dput L2.putK
  rw [h.any hk]
  split
  · exact h.repl hk rd
  · exact h.snoc hk rk rd
theorem LK.length : ∀ {kvs : List (D × D)} {kvs' : List (L2.Key × LV)}, LK K ρ H kvs kvs' → kvs.length = kvs'.length
  | _, _, .nil => rfl
  | _, _, .cons _ _ _ r => congrArg (· + 1) r.length

theorem TKs.length : ∀ {kvs : List (D × D)} {xs : List (NestedKey × Addr × Value)}, TKs K ρ H kvs xs → kvs.length = xs.length
  | _, _, .nil => rfl
  | _, _, .cons _ _ _ _ r => congrArg (· + 1) r.length
theorem TKs.get {ks : List D} (hk : keyOK (.tup ks) = true) : ∀ {kvs : List (D × D)} {xs : List (NestedKey × Addr × Value)}, TKs K ρ H kvs xs →
    (dget kvs (.tup ks) = none ∧ PySem.atKey xs (nkey (.tup ks)) = none) ∨ ∃ d a vv u, dget kvs (.tup ks) = some d ∧ PySem.atKey xs (nkey (.tup ks)) = some (a, u) ∧ RV K ρ H d vv ∧ L2.RelV vv u
  | _, _, .nil => .inl ⟨rfl, rfl⟩
  | _, _, .cons (ks := as) h1 h2 h3 h4 r => by
    have e := nkey_dec (keyOK_pure h1).1 (keyOK_pure hk).1
    rw [dget_cons]
    unfold PySem.atKey
    rw [List.find?_cons]
    cases q : eqD (.tup as) (.tup ks) with
    | true =>
      rw [q] at e
      simp only [e, if_true]
      exact .inr ⟨_, _, _, _, rfl, rfl, h3, h4⟩
    | false =>
      rw [q] at e
      simp only [e]
      exact TKs.get hk r
theorem atKey_isSome (k : NestedKey) : ∀ xs : List (NestedKey × Addr × Value), (PySem.atKey xs k).isSome = xs.any fun x => decide (x.1 = k)
  | [] => rfl
  | x :: xs => by
    unfold PySem.atKey
    rw [List.find?_cons, List.any_cons]
    cases h : decide (x.1 = k) with
    | true => simp
    | false => simp only [Bool.false_or]; exact atKey_isSome k xs
theorem TKs.any {ks : List D} (hk : keyOK (.tup ks) = true) : ∀ {kvs : List (D × D)} {xs : List (NestedKey × Addr × Value)}, TKs K ρ H kvs xs → (kvs.any fun p => eqD p.1 (.tup ks)) = xs.any fun x => decide (x.1 = nkey (.tup ks))
  | _, _, .nil => rfl
  | _, _, .cons h1 h2 h3 h4 r => by simp only [List.any_cons, TKs.any hk r, nkey_dec (keyOK_pure h1).1 (keyOK_pure hk).1]
theorem TKs.isSome {ks : List D} (hk : keyOK (.tup ks) = true) {kvs : List (D × D)} {xs : List (NestedKey × Addr × Value)} (h : TKs K ρ H kvs xs) : (PySem.atKey xs (nkey (.tup ks))).isSome = (dget kvs (.tup ks)).isSome := by
  rcases h.get hk with ⟨q, q'⟩ | ⟨d', a', vv, u, q1, q2, _, _⟩
  · rw [q, q']; rfl
  · rw [q1, q2]; rfl
theorem TKs.repl {ks : List D} {d : D} {dv : LV} {u : Value} (hk : keyOK (.tup ks) = true) (rd : RV K ρ H d dv) (ru : L2.RelV dv u) : ∀ {kvs : List (D × D)} {xs : List (NestedKey × Addr × Value)}, TKs K ρ H kvs xs →
    TKs K ρ H (kvs.map fun p => if eqD p.1 (.tup ks) = true then (p.1, d) else p) (xs.map (PySem.putAt (nkey (.tup ks)) u))
  | _, _, .nil => .nil
  | _, _, .cons h1 h2 h3 h4 r => by
    simp only [List.map_cons, ← nkey_dec (keyOK_pure h1).1 (keyOK_pure hk).1, decide_eq_true_eq, PySem.putAt]
    split
    · exact .cons h1 h2 rd ru (TKs.repl hk rd ru r)
    · exact .cons h1 h2 h3 h4 (TKs.repl hk rd ru r)
theorem TKs.snoc {ks : List D} {d : D} {a : Addr} {dv : LV} {u : Value} (hk : keyOK (.tup ks) = true) (rk : RV K ρ H (.tup ks) (.ref a)) (rd : RV K ρ H d dv) (ru : L2.RelV dv u) : ∀ {kvs : List (D × D)} {xs : List (NestedKey × Addr × Value)}, TKs K ρ H kvs xs →
    TKs K ρ H (kvs ++ [(.tup ks, d)]) (xs ++ [(nkey (.tup ks), a, u)])
  | _, _, .nil => .cons hk rk rd ru .nil
  | _, _, .cons h1 h2 h3 h4 r => .cons h1 h2 h3 h4 (TKs.snoc hk rk rd ru r)
theorem TKs.put {ks : List D} {d : D} {a : Addr} {dv : LV} {u : Value} (hk : keyOK (.tup ks) = true) (rk : RV K ρ H (.tup ks) (.ref a)) (rd : RV K ρ H d dv) (ru : L2.RelV dv u) {kvs : List (D × D)} {xs : List (NestedKey × Addr × Value)} (h : TKs K ρ H kvs xs) :
    TKs K ρ H (dput kvs (.tup ks) d) (PySem.storedH xs (nkey (.tup ks)) a u) := by
  unfold dput PySem.storedH
  rw [h.any hk, atKey_isSome]
  split
  · exact h.repl hk rd ru
  · exact h.snoc hk rk rd ru
theorem dput_ne {kvs : List (D × D)} {k v : D} : dput kvs k v ≠ [] := by
  unfold dput
  split
  · rename_i h
    intro e
    have := List.map_eq_nil_iff.mp e
    subst this
    simp at h
  · simp
theorem dput_length (kvs : List (D × D)) (k v : D) : (dput kvs k v).length ≤ kvs.length + 1 := by
  unfold dput
  split <;> simp
end

section
variable {X : L2.Cx} {pins : List (Addr × Obj)} {s : PySem.Shared} {σ : L2.St} {H : LHp} {ρ : List Addr} {A : PySem.Around} {E : Value → PySem.Shared → Prop} {a : Addr} {kvs : List (D × D)}
abbrev CellX (X : L2.Cx) := CellOk X.prog X.w X.K
theorem key_at (I : L2.Inv X pins σ H s) {ks : List D} {b : Addr} (hk : keyOK (.tup ks) = true) (r : RV X.K ρ H (.tup ks) (.ref b)) : (PySem.nestedKind X.prog X.w).is s.heap (nkey (.tup ks)) b :=
  ⟨nested_of I _ _ _ (keyOK_pure hk).1 r rfl, by rw [nkey_depth _ (keyOK_pure hk).1]; exact (keyOK_pure hk).2⟩
theorem keys_at (I : L2.Inv X pins σ H s) : ∀ {kvs : List (D × D)} {xs : List (NestedKey × Addr × Value)}, TKs X.K ρ H kvs xs → ∀ x ∈ xs, (PySem.nestedKind X.prog X.w).is s.heap x.1 x.2.1
  | _, _, .nil, _, h => nomatch h
  | _, _, .cons h1 h2 h3 h4 r, x, h => by
    rcases List.mem_cons.mp h with rfl | h
    · exact key_at I h1 h2
    · exact keys_at I r x h
/-- a dict's cell read with a tuple key -/
theorem keyed_of (I : L2.Inv X pins σ H s) (hc : CellX X ρ H a (.dct kvs)) {ks : List D} (hk : keyIn kvs (.tup ks) = true) :
    ∃ xs, s.heap.DictOfH (PySem.nestedKind X.prog X.w) a xs ∧ TKs X.K ρ H kvs xs ∧ (a == PySem.sysModules) = false ∧ xs.length ≤ PySem.sizeLine := by
  rcases hc with ⟨kvs', e, r, z⟩ | ⟨hs, o, e, xs, es, ep, h1, h2, h3, h4, h5, h6, h7⟩
  · cases r with
    | nil =>
      obtain ⟨_, hd, vs, rel, o, es, ep, q1, q2, q3, q4, q5, q6⟩ := L2.dk_of I.hok e
      cases rel
      refine ⟨[], ⟨o, es, ep, q1, q2, q3, ?_, fun x h => (nomatch h), List.nodup_nil⟩, .nil, hd, Nat.zero_le _⟩
      cases hes : es.toList with
      | nil => rfl
      | cons x r => rw [hes] at q5; cases q5
    | cons g1 g2 g3 g4 =>
      unfold keyIn at hk
      rw [Bool.and_eq_true] at hk
      have := hk.2
      rw [List.all_cons, Bool.and_eq_true] at this
      have := this.1
      rw [leaf_noTup g1] at this
      simp [isTup] at this
  · obtain ⟨q, _, _⟩ := I.hok a _ e
    exact ⟨xs, ⟨o, es, ep, q, h1, h2, h3, keys_at I h5, h4⟩, h5, hs, by rw [lim_eq, ← h5.length]; exact h7⟩
theorem leaf_of (hc : CellX X ρ H a (.dct kvs)) {k : D} (hk : keyIn kvs k = true) (ht : isTup k = false) : ∃ kvs' kk, H a = some (.dK kvs') ∧ LK X.K ρ H kvs kvs' ∧ leafKey k = some kk ∧ kvs.length ≤ LIM := by
  unfold keyIn at hk
  rw [Bool.and_eq_true] at hk
  obtain ⟨k1, k2⟩ := hk
  have lk : ∃ kk, leafKey k = some kk := by
    cases k <;> simp_all [keyOK, isTup, leafKey]
  obtain ⟨kk, lk⟩ := lk
  rcases hc with ⟨kvs', e, r, z⟩ | ⟨hs, o, e, xs, es, ep, h1, h2, h3, h4, h5, h6, h7⟩
  · exact ⟨kvs', kk, e, r, lk, z⟩
  · cases h5 with
    | nil => exact absurd rfl h6
    | cons g1 g2 g3 g4 r =>
      rw [List.all_cons, Bool.and_eq_true] at k2
      have := k2.1
      rw [ht] at this
      simp [isTup] at this
theorem leaf_rv {k : D} {kk : L2.Key} {kv : LV} (h : leafKey k = some kk) (r : RV X.K ρ H k kv) : kv = L2.kV kk := by
  cases k <;> simp only [leafKey] at h <;> first | (cases h; done) | skip
  · cases h; exact r.int_inv
  · cases h; exact r.str_inv.1
theorem isTup_cases (k : D) : isTup k = false ∨ ∃ ks, k = .tup ks := by
  cases k <;> first | (left; rfl) | exact .inr ⟨_, rfl⟩
theorem room8 (hu : A.units + 9 < PySem.cLine) : (PySem.nestedKind X.prog X.w).room A.in1 := by
  show A.units + 1 + 8 < PySem.cLine
  omega
/-- d[k], k in d: what a look gives -/
theorem d_look (hu : A.units + 9 < PySem.cLine) (I : L2.Inv X pins σ H s) (hc : CellX X ρ H a (.dct kvs)) {k : D} {kv : LV} {u : Value} (hk : keyIn kvs k = true) (rk : RV X.K ρ H k kv) (ru : L2.RelV kv u) :
    (∀ d (Q : Value → PySem.Shared → Prop), dget kvs k = some d → (∀ vv w' s', L2.Inv X pins σ H s' → RV X.K ρ H d vv → L2.RelV vv w' → Q w' s') → PySem.wpAny (PySem.model X.prog X.w) A (PySem.getItem (.ref a) u) Q E s) ∧
    (∀ (Q : Value → PySem.Shared → Prop), (∀ s', L2.Inv X pins σ H s' → Q (.bool (dget kvs k).isSome) s') → PySem.wpAny (PySem.model X.prog X.w) A (PySem.compareOp .In u (.ref a)) Q E s) ∧
    (∀ (Q : Value → PySem.Shared → Prop), (∀ s', L2.Inv X pins σ H s' → Q (.bool (!(dget kvs k).isSome)) s') → PySem.wpAny (PySem.model X.prog X.w) A (PySem.compareOp .NotIn u (.ref a)) Q E s) := by
  rcases isTup_cases k with ht | ⟨ks, rfl⟩
  · obtain ⟨kvs', kk, e, r, lk, z⟩ := leaf_of hc hk ht
    obtain rfl := leaf_rv lk rk
    have g := L2.DGet.k (k := kk) e
    refine ⟨fun d Q hd h => ?_, fun Q h => ?_, fun Q h => ?_⟩
    · rcases r.get lk with ⟨q, _⟩ | ⟨d', vv, q1, q2, q3⟩
      · rw [hd] at q; cases q
      · rw [hd] at q1; cases q1
        exact L2.d_getItem (by omega) I (by rw [q2] at g; exact g) ru fun w' s' I' rw' => h vv w' s' I' q3 rw'
    · refine L2.d_in (by omega) I g ru fun s' I' => ?_
      rcases r.get lk with ⟨q, q'⟩ | ⟨d', vv, q1, q2, q3⟩
      · have := h s' I'; rw [q] at this; rw [q']; exact this
      · have := h s' I'; rw [q1] at this; rw [q2]; exact this
    · refine L2.d_notIn (by omega) I g ru fun s' I' => ?_
      rcases r.get lk with ⟨q, q'⟩ | ⟨d', vv, q1, q2, q3⟩
      · have := h s' I'; rw [q] at this; rw [q']; exact this
      · have := h s' I'; rw [q1] at this; rw [q2]; exact this
  · obtain ⟨xs, hm, r, hs, hz⟩ := keyed_of I hc hk
    have hk' : keyOK (.tup ks) = true := by unfold keyIn at hk; exact (Bool.and_eq_true_iff.mp hk).1
    obtain ⟨b, ys, rfl, _, _⟩ := rk.tup_inv
    cases ru
    have key := key_at I hk' rk
    refine ⟨fun d Q hd h => ?_, fun Q h => ?_, fun Q h => ?_⟩
    · rcases r.get hk' with ⟨q, _⟩ | ⟨d', a', vv, u, q1, q2, q3, q4⟩
      · rw [hd] at q; cases q
      · rw [hd] at q1; cases q1
        exact PySem.wpAny_getItem_heap (room8 hu) key hm q2 (h vv _ _ (I.tok _) q3 q4)
    · refine PySem.wpAny_in_heap (room8 hu) key hs hm ?_
      rw [r.isSome hk']
      exact h _ (I.tok _)
    · refine PySem.notIn_keyed (room8 hu) key hs ⟨xs, hm, rfl⟩ ?_
      rw [PySem.valueAt_pairsH, Option.isSome_map, r.isSome hk']
      exact h _ (I.tok _)
theorem cell_mut (hc : CellX X ρ H a (.dct kvs)) : L2.Mut (H a) ∧ ∃ u, H a = some u ∧ Chg u := by
  rcases hc with ⟨kvs', e, r, z⟩ | ⟨hs, o, e, _⟩
  · exact ⟨by rw [e]; trivial, _, e, trivial⟩
  · exact ⟨by rw [e]; trivial, _, e, trivial⟩
/-- behind a store with a tuple key -/
theorem stored_cell (I : L2.Inv X pins σ H s) (hc : CellX X ρ H a (.dct kvs)) {ks : List D} {d : D} {b : Addr} {dv : LV} {r : Value} {xs : List (NestedKey × Addr × Value)} {h' : Heap} {t : Nat} (hk : keyOK (.tup ks) = true) (rk : RV X.K ρ H (.tup ks) (.ref b)) (rd : RV X.K ρ H d dv) (rr : L2.RelV dv r)
    (rel : TKs X.K ρ H kvs xs) (hs : (a == PySem.sysModules) = false) (hl : kvs.length < LIM) (dd : h'.DictOfH (PySem.nestedKind X.prog X.w) a (PySem.storedH xs (nkey (.tup ks)) b r)) (sb : Heap.SameBut a s.heap h') :
    ∃ o', L2.Inv X pins σ (L2.upd H a o') { s with heap := h', toks := t } ∧ CellX X ρ (L2.upd H a o') a (.dct (dput kvs (.tup ks) d)) := by
  obtain ⟨o, es, ep, q1, q2, q3, q4, q5, q6⟩ := dd
  obtain ⟨mu, u, eu, cu⟩ := cell_mut hc
  refine ⟨.ext fun h => h.get? a = some o, L2.d_write I mu sb ⟨o, q1⟩ ⟨q1, ⟨o, q1⟩, fun h1 h2 p k => k _ p⟩, .inr ⟨hs, o, L2.upd_same, _, es, ep, q2, q3, q4, q6, (rel.put hk rk rd rr).mono (List.prefix_refl _) (TK.put eu cu), dput_ne, ?_⟩⟩
  have := dput_length kvs (.tup ks) d
  omega
/-- d[k] = v -/
theorem d_put (hu : A.units + 9 < PySem.cLine) (I : L2.Inv X pins σ H s) (hc : CellX X ρ H a (.dct kvs)) {k d : D} {kv dv : LV} {u r : Value} (hk : keyIn kvs k = true) (rk : RV X.K ρ H k kv) (ru : L2.RelV kv u) (rd : RV X.K ρ H d dv) (rr : L2.RelV dv r) (hl : kvs.length < LIM) {Q : Unit → PySem.Shared → Prop}
    (h : ∀ s' o', L2.Inv X pins σ (L2.upd H a o') s' → CellX X ρ (L2.upd H a o') a (.dct (dput kvs k d)) → Q () s') : PySem.wpAny (PySem.model X.prog X.w) A (PySem.setItem (.ref a) u r) Q E s := by
  rcases isTup_cases k with ht | ⟨ks, rfl⟩
  · obtain ⟨kvs', kk, e, rel, lk, z⟩ := leaf_of hc hk ht
    obtain rfl := leaf_rv lk rk
    have hl' : kvs'.length < PySem.sizeLine := by rw [lim_eq, ← rel.length]; exact hl
    refine L2.d_setItem (by omega) I (L2.DPut.k (k := kk) (v := dv) e hl') ru rr fun s' I' => h s' _ I' (.inl ⟨_, L2.upd_same, (rel.put lk rk rd).mono (List.prefix_refl _) (TK.put e trivial), ?_⟩)
    have := dput_length kvs k d
    omega
  · obtain ⟨xs, hm, rel, hs, hz⟩ := keyed_of I hc hk
    have hk' : keyOK (.tup ks) = true := by unfold keyIn at hk; exact (Bool.and_eq_true_iff.mp hk).1
    obtain ⟨b, ys, rfl, _, _⟩ := rk.tup_inv
    cases ru
    refine PySem.wpAny_setItem_heap (hsz := hz) (room8 hu) (key_at I hk' rk) hm fun h' dd sb => ?_
    obtain ⟨o', I', c'⟩ := stored_cell I hc hk' rk rd rr rel hs hl dd sb
    exact h _ o' I' c'
/-- d.setdefault(k, v) -/
theorem d_setdef (hu : A.units + 9 < PySem.cLine) (I : L2.Inv X pins σ H s) (hc : CellX X ρ H a (.dct kvs)) {k d : D} {kv dv : LV} {u r : Value} (hk : keyIn kvs k = true) (rk : RV X.K ρ H k kv) (ru : L2.RelV kv u) (rd : RV X.K ρ H d dv) (rr : L2.RelV dv r) (hl : kvs.length < LIM) {Q : Value → PySem.Shared → Prop}
    (h1 : ∀ x, dget kvs k = some x → ∀ vv w' s', L2.Inv X pins σ H s' → RV X.K ρ H x vv → L2.RelV vv w' → Q w' s')
    (h2 : dget kvs k = none → ∀ w' s' o', L2.Inv X pins σ (L2.upd H a o') s' → L2.RelV dv w' → CellX X ρ (L2.upd H a o') a (.dct (dput kvs k d)) → Q w' s') : PySem.wpAny (PySem.model X.prog X.w) A (PySem.call (.builtin "dict.setdefault") [.ref a, u, r]) Q E s := by
  rcases isTup_cases k with ht | ⟨ks, rfl⟩
  · obtain ⟨kvs', kk, e, rel, lk, z⟩ := leaf_of hc hk ht
    obtain rfl := leaf_rv lk rk
    have hl' : kvs'.length < PySem.sizeLine := by rw [lim_eq, ← rel.length]; exact hl
    refine L2.d_setd I e ru rr hl' (fun v hv w' s' I' rw' => ?_) fun hn w' s' I' rw' => ?_
    · rcases rel.get lk with ⟨q, q'⟩ | ⟨d', vv, q1, q2, q3⟩
      · rw [hv] at q'; cases q'
      · rw [hv] at q2; cases q2
        exact h1 d' q1 _ w' s' I' q3 rw'
    · rcases rel.get lk with ⟨q, q'⟩ | ⟨d', vv, q1, q2, q3⟩
      · refine h2 q w' s' _ I' rw' (.inl ⟨_, L2.upd_same, (rel.put lk rk rd).mono (List.prefix_refl _) (TK.put e trivial), ?_⟩)
        have := dput_length kvs k d
        omega
      · rw [hn] at q2; cases q2
  · obtain ⟨xs, hm, rel, hs, hz⟩ := keyed_of I hc hk
    have hk' : keyOK (.tup ks) = true := by unfold keyIn at hk; exact (Bool.and_eq_true_iff.mp hk).1
    obtain ⟨b, ys, rfl, _, _⟩ := rk.tup_inv
    cases ru
    refine PySem.call_setdefault_heap (hsz := hz) (room8 hu) (key_at I hk' rk) hs hm (fun p hp => ?_) fun hn h' dd sb => ?_
    · rcases rel.get hk' with ⟨q, q'⟩ | ⟨d', a', vv, w', q1, q2, q3, q4⟩
      · rw [hp] at q'; cases q'
      · rw [hp] at q2; cases q2
        exact h1 d' q1 vv w' _ (I.tok _) q3 q4
    · rcases rel.get hk' with ⟨q, q'⟩ | ⟨d', a', vv, w', q1, q2, q3, q4⟩
      · obtain ⟨o', I', c'⟩ := stored_cell I hc hk' rk rd rr rel hs hl dd sb
        exact h2 q r _ o' I' rr c'
      · rw [hn] at q2; cases q2
/-- d.get(k, v) -/
theorem d_get2M (hu : A.units + 9 < PySem.cLine) (I : L2.Inv X pins σ H s) (hc : CellX X ρ H a (.dct kvs)) {k d : D} {kv dv : LV} {u r : Value} (hk : keyIn kvs k = true) (rk : RV X.K ρ H k kv) (ru : L2.RelV kv u) (rd : RV X.K ρ H d dv) (rr : L2.RelV dv r) {Q : Value → PySem.Shared → Prop}
    (h : ∀ vv w' s', L2.Inv X pins σ H s' → RV X.K ρ H ((dget kvs k).getD d) vv → L2.RelV vv w' → Q w' s') : PySem.wpAny (PySem.model X.prog X.w) A (PySem.call (.builtin "dict.get") [.ref a, u, r]) Q E s := by
  rcases isTup_cases k with ht | ⟨ks, rfl⟩
  · obtain ⟨kvs', kk, e, rel, lk, z⟩ := leaf_of hc hk ht
    obtain rfl := leaf_rv lk rk
    refine L2.d_get2 (by omega) I (L2.DGet.k (k := kk) e) ru rr fun w' s' I' rw' => ?_
    rcases rel.get lk with ⟨q, q'⟩ | ⟨d', vv, q1, q2, q3⟩
    · rw [q'] at rw'
      exact h dv w' s' I' (by rw [q]; exact rd) rw'
    · rw [q2] at rw'
      exact h vv w' s' I' (by rw [q1]; exact q3) rw'
  · obtain ⟨xs, hm, rel, hs, hz⟩ := keyed_of I hc hk
    have hk' : keyOK (.tup ks) = true := by unfold keyIn at hk; exact (Bool.and_eq_true_iff.mp hk).1
    obtain ⟨b, ys, rfl, _, _⟩ := rk.tup_inv
    cases ru
    refine PySem.getOr_keyed (room8 hu) (key_at I hk' rk) hs ⟨xs, hm, rfl⟩ ?_
    rw [PySem.valueAt_pairsH]
    rcases rel.get hk' with ⟨q, q'⟩ | ⟨d', a', vv, w', q1, q2, q3, q4⟩
    · rw [q']
      exact h dv r _ (I.tok _) (by rw [q]; exact rd) rr
    · rw [q2]
      exact h vv w' _ (I.tok _) (by rw [q1]; exact q3) q4
end
end M

end
section
set_option Elab.async false
set_option linter.all false
set_option autoImplicit false
set_option maxRecDepth 100000
set_option maxHeartbeats 4000000
/-! built-ins by values -/
namespace M
open PySem (Addr Obj Value Str PyData)
section
variable {X : L2.Cx}
/-- a partial function of a list of values in the layer's words -/
def liftA (X : L2.Cx) (S : List D → Hm → Option (D × Hm)) : List LV → LHp → L2.VK → Prop := fun vs H Q => ∃ ρ hp ds r, HRX X ρ hp H ∧ RVs X.K ρ H ds vs ∧ S ds hp = some r ∧ PVX X ρ H Q r.1 r.2
theorem CallR.imp {f : Value} {r r' : List LV → LHp → L2.VK → Prop} (h : L2.CallR X f r) (k : ∀ vs H Q, r' vs H Q → r vs H Q) : L2.CallR X f r' := fun pins s σ H xs us Q I rx q => h pins s σ H xs us Q I rx (k _ _ _ q)
theorem CallR.or {f : Value} {r r' : List LV → LHp → L2.VK → Prop} (h : L2.CallR X f r) (h' : L2.CallR X f r') : L2.CallR X f (fun vs H Q => r vs H Q ∨ r' vs H Q) := fun pins s σ H xs us Q I rx q => q.elim (h pins s σ H xs us Q I rx) (h' pins s σ H xs us Q I rx)
theorem rd_blt {F : FnS} (hF : FMono F) {E : XP} {es : List CE} {S : List D → Hm → Option (D × Hm)} {σ : L2.St} {H : LHp} {Q : L2.VK}
    (h : rE X (fun env h Q => wpEs F E es env h fun ds h1 => ws (S ds h1) fun r => Q r.1 r.2) σ H Q) : L2.tCB (liftA X S) (rA X (wpEs F E es)) σ H Q := by
  obtain ⟨ρ, env, hp, hr, he, h⟩ := h
  refine ⟨ρ, env, hp, hr, he, wpEs_mono hF es E env hp _ _ h fun ds h1 q ρ1 H1 vs p1 t1 hr1 rv1 => ?_⟩
  obtain ⟨r, e, q⟩ := ws_iff.mp q
  exact ⟨ρ1, h1, ds, r, hr1, rv1, e, PV.weak p1 t1 q⟩
theorem RVs.one_inv {K : PySem.W.Frag} {ρ : List Addr} {H : LHp} {d : D} {vs : List LV} (h : RVs K ρ H [d] vs) : ∃ v, vs = [v] ∧ RV K ρ H d v := by
  cases h with
  | cons a b => cases b; exact ⟨_, rfl, a⟩
theorem RVs.two_inv {K : PySem.W.Frag} {ρ : List Addr} {H : LHp} {d e : D} {vs : List LV} (h : RVs K ρ H [d, e] vs) : ∃ v u, vs = [v, u] ∧ RV K ρ H d v ∧ RV K ρ H e u := by
  cases h with
  | cons a b => obtain ⟨u, rfl, c⟩ := b.one_inv; exact ⟨_, u, rfl, a, c⟩
theorem RVs.nil_inv {K : PySem.W.Frag} {ρ : List Addr} {H : LHp} {vs : List LV} (h : RVs K ρ H [] vs) : vs = [] := by cases h; rfl
/-- a partial function that looks at its arguments' form -/
theorem len_cases {α : Type} {P : List α → Prop} (l : List α) (h0 : P []) (h1 : ∀ a, P [a]) (h2 : ∀ a b, P [a, b]) (h3 : ∀ a b c r, P (a :: b :: c :: r)) : P l := match l with
  | [] => h0
  | [a] => h1 a
  | [a, b] => h2 a b
  | a :: b :: c :: r => h3 a b c r

theorem str_len {s : List Nat} : ({ cps := s.toArray } : Str).length = s.length := by simp [PySem.Str.length]
theorem sOK_len {s : List Nat} (h : sOK s = true) : s.length ≤ LIM := by
  unfold sOK at h; rw [Bool.and_eq_true, decide_eq_true_eq] at h; exact h.1
/-- len of a dict's cell -/
theorem len_dict {pins : List (Addr × Obj)} {s : PySem.Shared} {σ : L2.St} {H : LHp} {ρ : List Addr} {E : Value → PySem.Shared → Prop} {a : Addr} {kvs : List (D × D)} (I : L2.Inv X pins σ H s) (hc : CellX X ρ H a (.dct kvs)) {Q : Value → PySem.Shared → Prop}
    (h : ∀ t s', L2.Inv X pins σ H s' → Q (.int kvs.length t) s') : PySem.wpAny (PySem.model X.prog X.w) X.A (PySem.call (.builtin "len") [.ref a]) Q E s := by
  rcases hc with ⟨kvs', e, r, z⟩ | ⟨hs, o, e, xs, es, ep, h1, h2, h3, h4, h5, h6, h7⟩
  · refine L2.d_len I (.inl e) fun t s' I' => ?_
    rw [← r.length]; exact h t s' I'
  · obtain ⟨q, _, _⟩ := I.hok a _ e
    have hm : s.heap.DictOfH (PySem.nestedKind X.prog X.w) a xs := ⟨o, es, ep, q, h1, h2, h3, keys_at I h5, h4⟩
    have hl : (PySem.pairsH xs).length = kvs.length := by rw [PySem.pairsH_length, ← h5.length]
    have hlim := lim_eq
    refine PyProof.Rows.call_len_slot (n := (PySem.pairsH xs).length) hm.typeIs PySem.F.slot_dict_len (fun Q' hq => PySem.len_keyed hs ⟨xs, hm, rfl⟩ hq) (by omega) (by rw [hl]; unfold LIM at h7; omega) ?_
    rw [hl]
    exact h _ _ (I.tok _)
theorem call_lenM : L2.CallR X (.builtin "len") (liftA X (bltS .len)) := by
  intro pins s σ H vs us Q I rx h
  obtain ⟨ρ, hp, ds, r, hr, rv, e, q⟩ := h
  match ds, rv, e with
  | [d], rv, e =>
    obtain ⟨v, rfl, rv1⟩ := rv.one_inv
    simp only [bltS, Option.map_eq_some_iff] at e
    obtain ⟨n, e, rfl⟩ := e
    have go : (∃ n', L2.LenV X.K v H n' ∧ n' = n) → PySem.wpAny (PySem.model X.prog X.w) X.A (PySem.call (.builtin "len") us) (L2.EP X pins σ Q) X.xe s := fun ⟨n', l, en⟩ => by
      subst en
      exact L2.call_len pins s σ H [v] us Q I rx ⟨v, n', rfl, l, PV.here q hr (.int _)⟩
    cases d <;> simp only [lenS] at e <;> first | (cases e; done) | skip
    · obtain ⟨rfl, z⟩ := rv1.str_inv
      refine go ⟨_, ⟨?_, rfl⟩, ?_⟩
      · rw [lim_eq, str_len]; exact sOK_len z
      · rw [str_len]; exact Option.some.inj e
    · obtain ⟨a, xs, rfl, h1, h2⟩ := rv1.tup_inv
      exact go ⟨xs.length, .inr ⟨xs, h1, rfl⟩, by rw [← h2.length]; exact Option.some.inj e⟩
    · obtain ⟨a, rfl, ha⟩ := rv1.ref_inv
      split at e
      · rename_i xs hx
        cases e
        obtain ⟨ys, e1, r1⟩ := hr.ok _ a _ ha hx
        exact go ⟨ys.length, .inl ⟨ys, .inl (.inl e1), rfl⟩, by rw [r1.length]⟩
      · rename_i xs hx
        cases e
        obtain ⟨ys, e1, r1⟩ := hr.ok _ a _ ha hx
        refine go ⟨ys.length, .inl ⟨ys, ?_, rfl⟩, by rw [r1.length]⟩
        rcases e1 with ⟨ob, e1⟩ | e1
        · exact .inl (.inr ⟨ob, e1⟩)
        · exact .inr e1
      · rename_i kvs hx
        cases e
        obtain ⟨u, rfl, ru⟩ := L2.vals1 rx
        cases ru
        exact len_dict I (hr.ok _ a _ ha hx) fun t s' I' => ⟨.int _, H, I', ⟨t, rfl⟩, PV.here q hr (.int _)⟩
      · cases e
  | [], rv, e => simp [bltS] at e
  | _ :: _ :: _, rv, e => simp [bltS] at e
theorem call_absM : L2.CallR X (.builtin "abs") (liftA X (bltS .abs)) := by
  refine CallR.imp L2.call_abs fun vs H Q h => ?_
  obtain ⟨ρ, hp, ds, r, hr, rv, e, q⟩ := h
  rcases ds with _ | ⟨d, _ | ⟨d2, ds⟩⟩ <;> try (simp [bltS] at e; done)
  cases d <;> try (simp [bltS] at e; done)
  simp only [bltS, Option.some.injEq] at e
  subst e
  obtain ⟨v, rfl, r1⟩ := rv.one_inv
  obtain rfl := r1.int_inv
  exact ⟨_, rfl, PV.here q hr (.int _)⟩
theorem call_intM : L2.CallR X (.type "int") (liftA X (bltS .int)) := by
  refine CallR.imp L2.call_int1 fun vs H Q h => ?_
  obtain ⟨ρ, hp, ds, r, hr, rv, e, q⟩ := h
  rcases ds with _ | ⟨d, _ | ⟨d2, ds⟩⟩ <;> try (simp [bltS] at e; done)
  cases d <;> try (simp [bltS] at e; done)
  simp only [bltS, Option.some.injEq] at e
  subst e
  obtain ⟨v, rfl, r1⟩ := rv.one_inv
  obtain rfl := r1.int_inv
  exact .inl ⟨_, rfl, PV.here q hr (.int _)⟩
theorem call_max2M (hc : X.calm = true) : L2.CallR X (.builtin "max") (liftA X (bltS .max2)) := by
  refine CallR.imp (L2.call_max2 hc) fun vs H Q h => ?_
  obtain ⟨ρ, hp, ds, r, hr, rv, e, q⟩ := h
  rcases ds with _ | ⟨d, _ | ⟨d2, _ | ⟨d3, ds⟩⟩⟩ <;> try (simp [bltS] at e; done)
  cases d <;> try (simp [bltS] at e; done)
  cases d2 <;> try (simp [bltS] at e; done)
  simp only [bltS, Option.some.injEq] at e
  subst e
  obtain ⟨v, u, rfl, r1, r2⟩ := rv.two_inv
  obtain rfl := r1.int_inv
  obtain rfl := r2.int_inv
  exact ⟨_, _, rfl, PV.here q hr (.int _)⟩
theorem call_min2M (hc : X.calm = true) : L2.CallR X (.builtin "min") (liftA X (bltS .min2)) := by
  refine CallR.imp (L2.call_min2 hc) fun vs H Q h => ?_
  obtain ⟨ρ, hp, ds, r, hr, rv, e, q⟩ := h
  rcases ds with _ | ⟨d, _ | ⟨d2, _ | ⟨d3, ds⟩⟩⟩ <;> try (simp [bltS] at e; done)
  cases d <;> try (simp [bltS] at e; done)
  cases d2 <;> try (simp [bltS] at e; done)
  simp only [bltS, Option.some.injEq] at e
  subst e
  obtain ⟨v, u, rfl, r1, r2⟩ := rv.two_inv
  obtain rfl := r1.int_inv
  obtain rfl := r2.int_inv
  exact ⟨_, _, rfl, PV.here q hr (.int _)⟩
theorem ints_inv {K : PySem.W.Frag} {ρ : List Addr} {H : LHp} : ∀ {ds : List D} {ns : List Int} {vs : List LV}, intsOf ds = some ns → RVs K ρ H ds vs → vs = ns.map L2.V.int
  | [], ns, vs, e, r => by cases e; cases r; rfl
  | d :: ds, ns, vs, e, r => by
    cases d <;> simp only [intsOf] at e <;> first | (cases e; done) | skip
    obtain ⟨ms, e1, rfl⟩ := Option.map_eq_some_iff.mp e
    cases r with
    | cons r1 r2 =>
      obtain rfl := r1.int_inv
      rw [ints_inv e1 r2]; rfl
theorem bools_inv {K : PySem.W.Frag} {ρ : List Addr} {H : LHp} : ∀ {ds : List D} {ns : List Bool} {vs : List LV}, boolsOf ds = some ns → RVs K ρ H ds vs → vs = ns.map L2.V.bl
  | [], ns, vs, e, r => by cases e; cases r; rfl
  | d :: ds, ns, vs, e, r => by
    cases d <;> simp only [boolsOf] at e <;> first | (cases e; done) | skip
    obtain ⟨ms, e1, rfl⟩ := Option.map_eq_some_iff.mp e
    cases r with
    | cons r1 r2 =>
      cases r1
      rw [bools_inv e1 r2]; rfl
/-- a list argument -/
theorem lst_arg {ρ : List Addr} {H : LHp} {hp : Hm} {d : D} {v : LV} {xs : List D} (hr : HRX X ρ hp H) (r : RV X.K ρ H d v) (e : lstOf hp d = some xs) : ∃ a ys, v = .ref a ∧ L2.SqL X.K H a ys ∧ RVs X.K ρ H xs ys := by
  cases d <;> simp only [lstOf] at e <;> first | (cases e; done) | skip
  obtain ⟨a, rfl, ha⟩ := r.ref_inv
  obtain ⟨b, ys, hb, h1, h2⟩ := hr.getL e
  obtain rfl := ref_eq ha hb
  exact ⟨a, ys, rfl, h1, h2⟩
theorem call_sumM (hc : X.calm = true) : L2.CallR X (.builtin "sum") (liftA X (bltS .sum)) := by
  refine CallR.imp (L2.cr_sum hc) fun vs H Q h => ?_
  obtain ⟨ρ, hp, ds, r, hr, rv, e, q⟩ := h
  rcases ds with _ | ⟨d, _ | ⟨d2, ds⟩⟩ <;> try (simp [bltS] at e; done)
  simp only [bltS, Option.map_eq_some_iff, Option.bind_eq_some_iff] at e
  obtain ⟨ns, ⟨xs, e1, e2⟩, rfl⟩ := e
  obtain ⟨v, rfl, r1⟩ := rv.one_inv
  obtain ⟨a, ys, rfl, h1, h2⟩ := lst_arg hr r1 e1
  obtain rfl := ints_inv e2 h2
  exact ⟨a, ns, rfl, h1, PV.here q hr (.int _)⟩
theorem foldl_max_mem : ∀ (ns : List Int) (m : Int), (ns.foldl max m = m ∨ ns.foldl max m ∈ ns) ∧ m ≤ ns.foldl max m ∧ ∀ y ∈ ns, y ≤ ns.foldl max m
  | [], m => ⟨.inl rfl, Int.le_refl _, fun _ h => nomatch h⟩
  | n :: ns, m => by
    obtain ⟨a, b, c⟩ := foldl_max_mem ns (max m n)
    rw [List.foldl_cons]
    refine ⟨?_, by omega, fun y hy => ?_⟩
    · rcases a with a | a
      · rw [a]
        rcases Int.le_total m n with h | h
        · right; rw [Int.max_eq_right h]; exact List.mem_cons_self
        · left; exact Int.max_eq_left h
      · right; exact List.mem_cons_of_mem _ a
    · rcases List.mem_cons.mp hy with rfl | hy
      · omega
      · exact c y hy
theorem foldl_min_mem : ∀ (ns : List Int) (m : Int), (ns.foldl min m = m ∨ ns.foldl min m ∈ ns) ∧ ns.foldl min m ≤ m ∧ ∀ y ∈ ns, ns.foldl min m ≤ y
  | [], m => ⟨.inl rfl, Int.le_refl _, fun _ h => nomatch h⟩
  | n :: ns, m => by
    obtain ⟨a, b, c⟩ := foldl_min_mem ns (min m n)
    rw [List.foldl_cons]
    refine ⟨?_, by omega, fun y hy => ?_⟩
    · rcases a with a | a
      · rw [a]
        rcases Int.le_total m n with h | h
        · left; exact Int.min_eq_left h
        · right; rw [Int.min_eq_right h]; exact List.mem_cons_self
      · right; exact List.mem_cons_of_mem _ a
    · rcases List.mem_cons.mp hy with rfl | hy
      · omega
      · exact c y hy
theorem call_max1M (hc : X.calm = true) : L2.CallR X (.builtin "max") (liftA X (bltS .max1)) := by
  refine CallR.imp (L2.cr_max hc) fun vs H Q h => ?_
  obtain ⟨ρ, hp, ds, r, hr, rv, e, q⟩ := h
  rcases ds with _ | ⟨d, _ | ⟨d2, ds⟩⟩ <;> try (simp [bltS] at e; done)
  simp only [bltS, Option.bind_eq_some_iff] at e
  obtain ⟨ns, ⟨xs, e1, e2⟩, e3⟩ := e
  split at e3
  · rename_i hne
    cases e3
    obtain ⟨v, rfl, r1⟩ := rv.one_inv
    obtain ⟨a, ys, rfl, h1, h2⟩ := lst_arg hr r1 e1
    obtain rfl := ints_inv e2 h2
    refine ⟨a, ns, rfl, h1, List.length_pos_iff.mpr hne, fun m hm hle => ?_⟩
    have em : m = ns.foldl max (ns.headD 0) := by
      obtain ⟨p, q1, q2⟩ := foldl_max_mem ns (ns.headD 0)
      have hin : ns.foldl max (ns.headD 0) ∈ ns := by
        rcases p with p | p
        · rw [p]; cases ns with
          | nil => exact absurd rfl hne
          | cons x r => exact List.mem_cons_self
        · exact p
      have h1 := hle _ hin
      have h2 := q2 _ hm
      omega
    rw [em]
    exact PV.here q hr (.int _)
  · cases e3
theorem call_min1M (hc : X.calm = true) : L2.CallR X (.builtin "min") (liftA X (bltS .min1)) := by
  refine CallR.imp (L2.cr_min hc) fun vs H Q h => ?_
  obtain ⟨ρ, hp, ds, r, hr, rv, e, q⟩ := h
  rcases ds with _ | ⟨d, _ | ⟨d2, ds⟩⟩ <;> try (simp [bltS] at e; done)
  simp only [bltS, Option.bind_eq_some_iff] at e
  obtain ⟨ns, ⟨xs, e1, e2⟩, e3⟩ := e
  split at e3
  · rename_i hne
    cases e3
    obtain ⟨v, rfl, r1⟩ := rv.one_inv
    obtain ⟨a, ys, rfl, h1, h2⟩ := lst_arg hr r1 e1
    obtain rfl := ints_inv e2 h2
    refine ⟨a, ns, rfl, h1, List.length_pos_iff.mpr hne, fun m hm hle => ?_⟩
    have em : m = ns.foldl min (ns.headD 0) := by
      obtain ⟨p, q1, q2⟩ := foldl_min_mem ns (ns.headD 0)
      have hin : ns.foldl min (ns.headD 0) ∈ ns := by
        rcases p with p | p
        · rw [p]; cases ns with
          | nil => exact absurd rfl hne
          | cons x r => exact List.mem_cons_self
        · exact p
      have h1 := hle _ hin
      have h2 := q2 _ hm
      omega
    rw [em]
    exact PV.here q hr (.int _)
  · cases e3
theorem call_allM (hc : X.calm = true) : L2.CallR X (.builtin "all") (liftA X (bltS .all)) := by
  refine CallR.imp (L2.cr_all hc) fun vs H Q h => ?_
  obtain ⟨ρ, hp, ds, r, hr, rv, e, q⟩ := h
  rcases ds with _ | ⟨d, _ | ⟨d2, ds⟩⟩ <;> try (simp [bltS] at e; done)
  simp only [bltS, Option.map_eq_some_iff, Option.bind_eq_some_iff] at e
  obtain ⟨ns, ⟨xs, e1, e2⟩, rfl⟩ := e
  obtain ⟨v, rfl, r1⟩ := rv.one_inv
  obtain ⟨a, ys, rfl, h1, h2⟩ := lst_arg hr r1 e1
  obtain rfl := bools_inv e2 h2
  exact ⟨a, ns, rfl, h1, PV.here q hr (.bl _)⟩
theorem call_anyM (hc : X.calm = true) : L2.CallR X (.builtin "any") (liftA X (bltS .any)) := by
  refine CallR.imp (L2.cr_any hc) fun vs H Q h => ?_
  obtain ⟨ρ, hp, ds, r, hr, rv, e, q⟩ := h
  rcases ds with _ | ⟨d, _ | ⟨d2, ds⟩⟩ <;> try (simp [bltS] at e; done)
  simp only [bltS, Option.map_eq_some_iff, Option.bind_eq_some_iff] at e
  obtain ⟨ns, ⟨xs, e1, e2⟩, rfl⟩ := e
  obtain ⟨v, rfl, r1⟩ := rv.one_inv
  obtain ⟨a, ys, rfl, h1, h2⟩ := lst_arg hr r1 e1
  obtain rfl := bools_inv e2 h2
  exact ⟨a, ns, rfl, h1, PV.here q hr (.bl _)⟩
end
end M

end
section
set_option Elab.async false
set_option linter.all false
set_option autoImplicit false
set_option maxRecDepth 100000
set_option maxHeartbeats 4000000
/-! what is collected, sorted -/
namespace M
open PySem (Addr Obj Value Str PyData Heap NestedKey)
mutual
theorem toks_pd : ∀ d : D, PySem.W.keyToks (pd d) = toks d
  | .non => rfl
  | .bl b => rfl
  | .int n => rfl
  | .str x => rfl
  | .tup xs => toks_pds xs
  | .lst xs => toks_pds xs
  | .ref a => rfl
theorem toks_pds : ∀ ds : List D, PySem.W.keyToksAll (pds ds) = toksL ds
  | [] => rfl
  | d :: ds => by simp only [pds, PySem.W.keyToksAll, toksL, toks_pd d, toks_pds ds]
end
mutual
theorem alike_pd : ∀ x y : D, alikeD x y = true → PySem.W.alike (pd x) (pd y) = true
  | .non, y, h => by cases y <;> simp_all [alikeD, pd, PySem.W.alike]
  | .bl b, y, h => by cases y <;> simp_all [alikeD, pd, PySem.W.alike]
  | .int n, y, h => by cases y <;> simp_all [alikeD, pd, PySem.W.alike]
  | .str x, y, h => by cases y <;> simp_all [alikeD, pd, PySem.W.alike]
  | .tup xs, y, h => by
    cases y <;> simp only [alikeD, pd, PySem.W.alike] at * <;> first | exact alike_pds xs _ h | simp_all
  | .lst xs, y, h => by cases y <;> simp [alikeD] at h
  | .ref a, y, h => by cases y <;> simp [alikeD] at h
theorem alike_pds : ∀ xs ys : List D, alikeDs xs ys = true → PySem.W.alikeAll (pds xs) (pds ys) = true
  | [], ys, h => by cases ys <;> rfl
  | x :: xs, [], h => rfl
  | x :: xs, y :: ys, h => by
    simp only [alikeDs, Bool.and_eq_true] at h
    simp only [pds, PySem.W.alikeAll, Bool.and_eq_true]
    exact ⟨alike_pd x y h.1, alike_pds xs ys h.2⟩
end
theorem ltI_eq : ∀ a b, PyProof.Rows.itemLt a b = ltI a b
  | .inl _, .inl _ => rfl
  | .inl _, .inr _ => rfl
  | .inr _, .inl _ => rfl
  | .inr _, .inr _ => rfl
theorem ltT_eq : ∀ a b, PyProof.Rows.lexLt PyProof.Rows.itemOrd a b = ltT a b
  | [], [] => rfl
  | [], _ :: _ => rfl
  | _ :: _, [] => rfl
  | x :: r, y :: t => by
    show (PyProof.Rows.itemLt x y || (!PyProof.Rows.itemLt y x && PyProof.Rows.lexLt PyProof.Rows.itemOrd r t)) = _
    rw [ltT_eq r t, ltI_eq, ltI_eq]; rfl
theorem le_eq (x y : D) : PySem.W.dataLe false pd x y = !ltB y x := by
  show (!PyProof.Rows.lexLt PyProof.Rows.itemOrd (PySem.W.keyToks (pd y)) (PySem.W.keyToks (pd x))) = _
  rw [toks_pd, toks_pd, ltT_eq]; rfl
theorem le_total : PySem.W.TotalLe (PySem.W.dataLe false pd) := PySem.W.sortLe_total _ _ _
theorem insD_perm (x : D) : ∀ ys : List D, (insD x ys).Perm (x :: ys)
  | [] => List.Perm.refl _
  | y :: ys => by
    unfold insD
    split
    · exact ((insD_perm x ys).cons y).trans (List.Perm.swap x y ys)
    · exact List.Perm.refl _
theorem sortD_perm : ∀ xs : List D, (sortD xs).Perm xs
  | [] => List.Perm.refl _
  | x :: xs => (insD_perm x _).trans ((sortD_perm xs).cons x)
abbrev leD := PySem.W.dataLe false pd
theorem insD_sorted (x : D) : ∀ ys : List D, ys.Pairwise (fun a b => leD a b = true) → (insD x ys).Pairwise (fun a b => leD a b = true)
  | [], _ => by simp [insD]
  | y :: ys, h => by
    rw [List.pairwise_cons] at h
    unfold insD
    split
    · rename_i c
      refine List.pairwise_cons.mpr ⟨fun z hz => ?_, insD_sorted x ys h.2⟩
      rcases List.mem_cons.mp ((insD_perm x ys).mem_iff.mp hz) with rfl | hz
      · rcases le_total.total y z with q | q
        · exact q
        · rw [le_eq, c] at q; cases q
      · exact h.1 z hz
    · rename_i c
      have xy : leD x y = true := by rw [show leD x y = !ltB y x from le_eq x y]; simpa using c
      refine List.pairwise_cons.mpr ⟨fun z hz => ?_, List.pairwise_cons.mpr h⟩
      rcases List.mem_cons.mp hz with rfl | hz
      · exact xy
      · exact le_total.trans _ _ _ xy (h.1 z hz)
theorem insD_stable (c x : D) : ∀ ys : List D, (insD x ys).filter (PySem.W.sameRank leD c) = (x :: ys).filter (PySem.W.sameRank leD c)
  | [] => rfl
  | y :: ys => by
    unfold insD
    split
    · rename_i q
      rw [List.filter_cons, insD_stable c x ys, List.filter_cons, List.filter_cons, List.filter_cons]
      by_cases hx : PySem.W.sameRank leD c x = true
      · by_cases hy : PySem.W.sameRank leD c y = true
        · -- x, y of one rank: then not y < x
          unfold PySem.W.sameRank at hx hy
          rw [Bool.and_eq_true] at hx hy
          have := le_total.trans x c y hx.2 hy.1
          rw [le_eq, q] at this; cases this
        · simp [hx, hy]
      · simp [hx]
    · rfl
theorem sortD_stable (c : D) : ∀ xs : List D, (sortD xs).filter (PySem.W.sameRank leD c) = xs.filter (PySem.W.sameRank leD c)
  | [] => rfl
  | x :: xs => by
    show (insD x (sortD xs)).filter _ = _
    rw [insD_stable, List.filter_cons, List.filter_cons, sortD_stable c xs]
theorem sortD_sorted : ∀ xs : List D, (sortD xs).Pairwise (fun a b => leD a b = true)
  | [] => .nil
  | x :: xs => insD_sorted x _ (sortD_sorted xs)
theorem sortD_eq (xs : List D) : xs.mergeSort leD = sortD xs := (PySem.W.sort_unique le_total (sortD_sorted xs) fun c => sortD_stable c xs).symm

/-! ### collecting a dict's keys -/
theorem leaf_inj {K : PySem.W.Frag} {ρ : List Addr} {H : LHp} : ∀ {kvs : List (D × D)} {kvs' : List (L2.Key × LV)}, LK K ρ H kvs kvs' → RVs K ρ H (kvs.map (·.1)) (kvs'.map fun p => L2.kV p.1)
  | _, _, .nil => .nil
  | _, _, .cons h1 h2 h3 r => .cons h2 (leaf_inj r)
theorem tks_keys {K : PySem.W.Frag} {ρ : List Addr} {H : LHp} : ∀ {kvs : List (D × D)} {xs : List (NestedKey × Addr × Value)}, TKs K ρ H kvs xs → RVs K ρ H (kvs.map (·.1)) (xs.map fun x => L2.V.ref x.2.1)
  | _, _, .nil => .nil
  | _, _, .cons h1 h2 h3 h4 r => .cons h2 (tks_keys r)
theorem ref_vals : ∀ xs : List (NestedKey × Addr × Value), L2.Vals (xs.map fun x => L2.V.ref x.2.1) (xs.map fun x => Value.ref x.2.1)
  | [] => .nil
  | _ :: r => .cons rfl (ref_vals r)
section
variable {X : L2.Cx} {pins : List (Addr × Obj)} {s : PySem.Shared} {σ : L2.St} {H : LHp} {ρ : List Addr} {A : PySem.Around} {E : Value → PySem.Shared → Prop} {a : Addr} {kvs : List (D × D)}
theorem kdl_rawM {prog : PySem.Program} {w : PySem.World} {d : Addr} {o : Obj} {es : Array PySem.DictEntry} {ep : Nat} (lo : (d == PySem.sysModules) = false) (hx : o.ExactDict) (hd : o.data = .dict es ep) :
    PySem.W.KdlSrc prog w "dict" d d es.size (fun i v => ∃ en : PySem.DictEntry, es[i]? = some en ∧ v = en.key) (fun h => h.get? d = some o) := L2.kdl_raw lo hx hd
/-- the source of a dict's keys -/
theorem dict_src (I : L2.Inv X pins σ H s) (hc : CellX X ρ H a (.dct kvs)) : ∃ (n : Nat) (P : Nat → Value → Prop) (OK : Heap → Prop), PySem.W.KdlSrc X.prog X.w "dict" a a n P OK ∧ OK s.heap ∧ n ≤ PySem.sizeLine ∧
    ∀ acc : List Value, (∀ j v, acc[j]? = some v → P j v) → acc.length = n → ∃ ys, L2.Vals ys acc ∧ RVs X.K ρ H (kvs.map (·.1)) ys := by
  rcases hc with ⟨kvs', e, r, z⟩ | ⟨hs, o, e, xs, es, ep, h1, h2, h3, h4, h5, h6, h7⟩
  · obtain ⟨z', lo, vs, rel, dd⟩ := L2.dk_of I.hok e
    obtain ⟨ep, hat⟩ := dd.dictAt
    refine ⟨_, _, _, PySem.W.kdl_dict (knd := L2.mixKind X.prog X.w) (kvs := vs) (ep := ep) lo, hat, by rw [← rel.length]; exact z', fun acc h hl => ?_⟩
    refine ⟨_, L2.keys_at hl fun j v e => h j v e, ?_⟩
    have ek : (vs.map fun p => L2.kV p.1) = kvs'.map fun p => L2.kV p.1 := by
      have q := congrArg (List.map L2.kV) rel.keys
      rw [List.map_map, List.map_map] at q
      exact q.symm
    rw [ek]
    exact leaf_inj r
  · obtain ⟨q, _, _⟩ := I.hok a _ e
    have hsz : es.size = xs.length := PySem.size_of_entries h3
    refine ⟨_, _, _, L2.kdl_raw hs h1 h2, q, by rw [hsz, lim_eq, ← h5.length]; exact h7, fun acc h hl => ?_⟩
    have ea : acc = xs.map fun x => Value.ref x.2.1 := by
      refine List.ext_getElem? fun j => ?_
      rw [List.getElem?_map]
      cases hj : acc[j]? with
      | none =>
        have := List.getElem?_eq_none_iff.mp hj
        rw [List.getElem?_eq_none (by omega)]; rfl
      | some v =>
        obtain ⟨en, hen, hv⟩ := h j v hj
        have qe := PySem.entry_at h3 j
        rw [hen] at qe
        cases hb : xs[j]? with
        | none => rw [hb] at qe; exact nomatch (show some en = none from qe)
        | some b =>
          rw [hb] at qe
          have e2 : en = PySem.entryOfKey (PySem.nestedKind X.prog X.w) b := Option.some.inj qe
          rw [hv, e2]; rfl
    rw [ea]
    exact ⟨_, ref_vals xs, tks_keys h5⟩
/-- list(d) -/
theorem list_dict (hcalm : X.calm = true) (I : L2.Inv X pins σ H s) (hc : CellX X ρ H a (.dct kvs)) {Q : Value → PySem.Shared → Prop}
    (h : ∀ ys p s', H p = none → L2.Inv X pins σ (L2.upd H p (.lst ys)) s' → RVs X.K ρ H (kvs.map (·.1)) ys → Q (.ref p) s') : PySem.wpAny (PySem.model X.prog X.w) X.A (PySem.call (.type "list") [.ref a]) Q E s := by
  obtain ⟨n, P, OK, src, ok, hn, keys⟩ := dict_src I hc
  refine PySem.W.kdl_call src (I.ok.hd hcalm) ok hn fun h' tk acc' c' kp e it => ?_
  obtain ⟨ys, rv, rk⟩ := keys acc'.toList (fun j v e => it.2 j v (by rw [← Array.getElem?_toList]; exact e)) (by rw [Array.length_toList]; exact it.1)
  have hl := rv.length
  have hl2 : acc'.toList.length = n := by rw [Array.length_toList]; exact it.1
  have hz : ys.length ≤ PySem.sizeLine := by omega
  exact h ys _ _ (I.hok.fresh (Nat.le_refl _)) (I.laid (t' := tk) (o := .lst ys) kp (Nat.le_refl _) ⟨hz, acc'.toList, c', rv, by rw [Array.toArray_toList]; exact e⟩) rk
end

/-! ### sorted -/
theorem pure_snap {f : Nat → Option (List D)} : (∀ d, pureD d = true → snapD f d = some d) ∧ ∀ ds, pureDs ds = true → snapDs f ds = some ds := by
  constructor
  · intro d
    exact D.rec (motive_1 := fun d => pureD d = true → snapD f d = some d) (motive_2 := fun ds => pureDs ds = true → snapDs f ds = some ds)
      (fun _ => rfl) (fun _ _ => rfl) (fun _ _ => rfl) (fun _ _ => rfl)
      (fun xs ih h => by simp only [snapD, ih (by simpa only [pureD] using h), Option.map_some]) (fun xs _ h => by simp [pureD] at h) (fun a h => by simp [pureD] at h)
      (fun _ => rfl) (fun x xs ih1 ih2 h => by
        simp only [pureDs, Bool.and_eq_true] at h
        simp only [snapDs, ih1 h.1, ih2 h.2]) d
  · intro ds
    exact D.rec_1 (motive_1 := fun d => pureD d = true → snapD f d = some d) (motive_2 := fun ds => pureDs ds = true → snapDs f ds = some ds)
      (fun _ => rfl) (fun _ _ => rfl) (fun _ _ => rfl) (fun _ _ => rfl)
      (fun xs ih h => by simp only [snapD, ih (by simpa only [pureD] using h), Option.map_some]) (fun xs _ h => by simp [pureD] at h) (fun a h => by simp [pureD] at h)
      (fun _ => rfl) (fun x xs ih1 ih2 h => by
        simp only [pureDs, Bool.and_eq_true] at h
        simp only [snapDs, ih1 h.1, ih2 h.2]) ds
theorem deps_mem : ∀ {ds : List D} {d : D}, d ∈ ds → dep d ≤ deps ds
  | x :: xs, d, h => by
    rcases List.mem_cons.mp h with rfl | h
    · exact Nat.le_max_left _ _
    · exact Nat.le_trans (deps_mem h) (Nat.le_max_right _ _)
theorem pure_mem : ∀ {ds : List D} {d : D}, pureDs ds = true → d ∈ ds → pureD d = true
  | x :: xs, d, hp, h => by
    simp only [pureDs, Bool.and_eq_true] at hp
    rcases List.mem_cons.mp h with rfl | h
    · exact hp.1
    · exact pure_mem hp.2 h
theorem each_of {K : PySem.W.Frag} {ρ : List Addr} {H : LHp} : ∀ {ds : List D} {vs : List LV} {us : List Value}, RVs K ρ H ds vs → L2.Vals vs us → PySem.W.EachIs (fun u d => ∃ v, RV K ρ H d v ∧ L2.RelV v u) us ds
  | _, _, _, .nil, .nil => .nil
  | _, _, _, .cons r rs, .cons q qs => .cons ⟨_, r, q⟩ (each_of rs qs)
theorem of_each {K : PySem.W.Frag} {ρ : List Addr} {H : LHp} : ∀ {us : List Value} {ds : List D}, PySem.W.EachIs (fun u d => ∃ v, RV K ρ H d v ∧ L2.RelV v u) us ds → ∃ vs, RVs K ρ H ds vs ∧ L2.Vals vs us
  | _, _, .nil => ⟨[], .nil, .nil⟩
  | _, _, .cons ⟨v, r, q⟩ t => let ⟨vs, a, b⟩ := of_each t; ⟨v :: vs, .cons r a, .cons q b⟩
theorem pd_depth {d : D} (h : pureD d = true) : (pd d).depth = dep d := by
  refine D.rec (motive_1 := fun d => pureD d = true → (pd d).depth = dep d) (motive_2 := fun ds => pureDs ds = true → PyData.depthAll (pds ds) = deps ds)
      (fun _ => rfl) (fun _ _ => rfl) (fun _ _ => rfl) (fun _ _ => rfl)
      (fun xs ih h => by simp only [pd, PyData.depth, dep, ih (by simpa only [pureD] using h)]) (fun xs _ h => by simp [pureD] at h) (fun a h => by simp [pureD] at h)
      (fun _ => rfl) (fun x xs ih1 ih2 h => by
        simp only [pureDs, Bool.and_eq_true] at h
        simp only [pds, PyData.depthAll, deps, ih1 h.1, ih2 h.2]) d h
section
variable {X : L2.Cx} {pins : List (Addr × Obj)} {s : PySem.Shared} {σ : L2.St} {H : LHp} {ρ : List Addr} {E : Value → PySem.Shared → Prop}
theorem reads_each (I : L2.Inv X pins σ H s) {hp : Hm} (hr : HRX X ρ hp H) {us : List Value} {ds : List D} (hp' : pureDs ds = true) (e : PySem.W.EachIs (fun u d => ∃ v, RV X.K ρ H d v ∧ L2.RelV v u) us ds) {h' : Heap} (k : ∀ b o, s.heap.get? b = some o → h'.get? b = some o) :
    PySem.W.EachIs (fun u d => ∃ as, PySem.Reads h' u (pd d) as) us ds := by
  refine (PySem.W.each_mem e).mono fun u d ⟨⟨v, r, q⟩, hd⟩ => ?_
  have sn := snap_ok hr r (pure_snap.1 d (pure_mem hp' hd))
  obtain ⟨as, rr⟩ := L2.Dp.reads I _ _ _ sn.dp q
  exact ⟨as, PyProof.Rows.Reads.keeps (fun b o e => k b o e) rr⟩
/-- a new list of values, sorted -/
theorem sort_run {A : PySem.Around} (I : L2.Inv X pins σ H s) {hp : Hm} (hr : HRX X ρ hp H) {vs : List Value} {ys : List LV} {xs : List D} (rv : L2.Vals ys vs) (rx : RVs X.K ρ H xs ys) (ok : sortOK xs = true) (hu : A.units + 64 < PySem.cLine) (hl : vs.length ≤ PySem.sizeLine) {P : PySem.Fin → PySem.Shared → Prop}
    (h : ∀ zs p s', H p = none → p = s.heap.objs.size → L2.Inv X pins σ (L2.upd H p (.lst zs)) s' → RVs X.K ρ H (sortD xs) zs → P (.done (.ret .none)) s') :
    PySem.wpAny (PySem.model X.prog X.w) A (PySem.Builtin.«list.sort» ⟨[.ref s.heap.objs.size], []⟩) P E { s with heap := s.heap.push (PyProof.Rows.seqObj "list" vs.toArray 0) } := by
  unfold sortOK at ok
  simp only [Bool.and_eq_true, decide_eq_true_eq] at ok
  obtain ⟨⟨⟨o1, o2⟩, o3⟩, o4⟩ := ok
  have hoL : (s.heap.push (PyProof.Rows.seqObj "list" vs.toArray 0)).get? s.heap.objs.size = some (PyProof.Rows.seqObj "list" vs.toArray 0) := PySem.Heap.get?_push_size _ rfl
  have keepS : ∀ b o, s.heap.get? b = some o → (PySem.W.sortingHeap (s.heap.push (PyProof.Rows.seqObj "list" vs.toArray 0)) s.heap.objs.size vs).get? b = some o := fun b o e =>
    PySem.W.sortingHeap_old (Nat.ne_of_lt (PySem.Heap.lt_size e)) (PySem.Heap.get?_push_of_some _ e)
  have e := each_of rx rv
  have er := reads_each I hr o1 e keepS
  have noNone : ∀ x ∈ xs, x ≠ .non := fun x hx => by
    rw [Bool.or_eq_true] at o4
    rcases o4 with o4 | o4
    · have := List.all_eq_true.mp o4 x hx; rintro rfl; simp [consTup] at this
    · have := List.all_eq_true.mp o4 x hx; rintro rfl; simp [flatD] at this
  have hal : PySem.W.AllAlike (xs.map pd) := by
    intro a ha b hb
    obtain ⟨x, hx, rfl⟩ := List.mem_map.mp ha
    obtain ⟨y, hy, rfl⟩ := List.mem_map.mp hb
    exact alike_pd x y (List.all_eq_true.mp (List.all_eq_true.mp o3 x hx) y hy)
  have hk : PySem.W.Sortable (xs.map pd) := by
    rw [Bool.or_eq_true] at o4
    rcases o4 with o4 | o4
    · refine .inl fun d hd => ?_
      obtain ⟨x, hx, rfl⟩ := List.mem_map.mp hd
      have := List.all_eq_true.mp o4 x hx
      cases x with
      | tup l => cases l with
        | nil => simp [consTup] at this
        | cons a b => exact ⟨pd a, pds b, rfl⟩
      | _ => simp [consTup] at this
    · refine .inr fun d hd => ?_
      obtain ⟨x, hx, rfl⟩ := List.mem_map.mp hd
      have := List.all_eq_true.mp o4 x hx
      cases x <;> simp_all [flatD, pd]
  have hdep : ∀ d, d ∈ xs.map pd → A.units + d.depth < PySem.cLine := fun d hd => by
    obtain ⟨x, hx, rfl⟩ := List.mem_map.mp hd
    rw [pd_depth (pure_mem o1 hx)]
    have := deps_mem hx
    omega
  refine PySem.W.list_sort_vals (s := { s with heap := s.heap.push (PyProof.Rows.seqObj "list" vs.toArray 0) }) hoL (PySem.W.SortsAt.data (PySem.W.each_map (R := fun v d => ∃ as, PySem.Reads _ v d as) pd er) hal hk hdep) hl ?_
  have out := PySem.W.sortVals_data (h' := PySem.W.sortingHeap (s.heap.push (PyProof.Rows.seqObj "list" vs.toArray 0)) s.heap.objs.size vs) false e er hal
  rw [sortD_eq] at out
  obtain ⟨zs, rz, vz⟩ := of_each out
  obtain ⟨ep, he'⟩ := PyProof.Rows.sortedHeap_at (vs := vs) (out := (PySem.W.sortVals (PySem.W.dataKind (PySem.W.sortingHeap (s.heap.push (PyProof.Rows.seqObj "list" vs.toArray 0)) s.heap.objs.size vs) (xs.map pd)) false vs vs).toArray) hoL
  have hzl : zs.length ≤ PySem.sizeLine := by
    rw [← rz.length, (sortD_perm xs).length_eq, rx.length, rv.length]; exact hl
  refine h zs s.heap.objs.size _ (I.hok.fresh (Nat.le_refl _)) rfl (I.laid (t' := s.toks) (fun b u e => ?_) (Nat.le_refl _) ⟨hzl, _, ep, vz, he'⟩) rz
  have hb : b < s.heap.objs.size := PySem.Heap.lt_size e
  rw [PyProof.Rows.sortedHeap_old (Nat.ne_of_lt hb) (by rw [PyProof.Rows.size_push']; exact Nat.lt_succ_of_lt hb)]
  exact PySem.Heap.get?_push_of_some _ e
end
end M

end
section
set_option Elab.async false
set_option linter.all false
set_option autoImplicit false
set_option maxRecDepth 100000
set_option maxHeartbeats 4000000
/-! further built-ins, methods, subscripts by values -/
namespace M
open PySem (Addr Obj Value Str PyData Heap NestedKey)
section
variable {X : L2.Cx}
theorem itemsOf_ref {hp : Hm} {i : Nat} {xs : List D} (e : itemsOf hp (.ref i) = some xs) : (∃ ds, getL hp i = some ds ∧ xs = ds) ∨ ∃ kvs, hp[i]? = some (.dct kvs) ∧ xs = kvs.map (·.1) := by
  simp only [itemsOf] at e
  split at e
  · rename_i ys h; cases e; exact .inl ⟨xs, by simp [getL, h], rfl⟩
  · rename_i ys h; cases e; exact .inl ⟨xs, by simp [getL, h], rfl⟩
  · rename_i kvs h; cases e; exact .inr ⟨kvs, h, rfl⟩
  · cases e
/-- behind the collecting -/
theorem sort_tail (hu : X.A.units + 80 < PySem.cLine) {pins : List (Addr × Obj)} {s : PySem.Shared} {σ : L2.St} {H : LHp} {Q : L2.VK} {ρ : List Addr} {hp : Hm} (I : L2.Inv X pins σ H s) (hr : HRX X ρ hp H) {vs : List Value} {ys : List LV} {xs : List D} (rv : L2.Vals ys vs) (rx : RVs X.K ρ H xs ys) (ok : sortOK xs = true) (hl : vs.length ≤ PySem.sizeLine)
    (q : PVX X ρ H Q (.ref hp.length) (hp ++ [.lst (sortD xs)])) :
    PySem.wpAny (PySem.model X.prog X.w) X.A.in1 (do
      let l ← PySem.newList vs
      let _ ← PySem.holding [l] (PySem.call (Value.builtin "list.sort") [l] [])
      PySem.ret l) (fun fin s' => ∃ v, fin = PySem.Fin.done (PySem.Flow.ret v) ∧ L2.EP X pins σ Q v s') X.xe s := by
  refine PySem.wpAny_bind (PySem.wpAny_newList ?_ hl)
  have hoL : (s.heap.push (PyProof.Rows.seqObj "list" vs.toArray 0)).get? s.heap.objs.size = some (PyProof.Rows.seqObj "list" vs.toArray 0) := PySem.Heap.get?_push_size _ rfl
  show PySem.wpAny _ _ _ _ _ { s with heap := s.heap.push (PyProof.Rows.seqObj "list" vs.toArray 0) }
  refine PySem.wpAny_bind (PySem.wpAny_holding (PySem.wpAny_call_entry PyProof.Rows.slot_list_sort ⟨_, hoL, rfl⟩ PyProof.Rows.entry_list_sort
    (sort_run I hr rv rx ok (by show X.A.units + 1 + 1 + 64 < _; omega) hl fun zs p s' hn hpe I' rz => ⟨_, rfl, ?_⟩) (PyProof.Rows.args_list_sort _)))
  subst hpe
  refine PySem.wpAny_pure ⟨_, rfl, .ref s.heap.objs.size, _, I', rfl, PV.newL q hr rz hn⟩
theorem call_sortedM (hcalm : X.calm = true) (hu : X.A.units + 80 < PySem.cLine) : L2.CallR X (.builtin "sorted") (liftA X (bltS .sorted)) := by
  intro pins s σ H vs us Q I rx h
  obtain ⟨ρ, hp, ds, r, hr, rv, e, q⟩ := h
  rcases ds with _ | ⟨d, _ | ⟨d2, ds⟩⟩ <;> try (simp [bltS] at e; done)
  cases d <;> try (simp [bltS] at e; done)
  rename_i i
  simp only [bltS, Option.bind_eq_some_iff] at e
  obtain ⟨xs, e1, e2⟩ := e
  split at e2
  case isFalse => cases e2
  rename_i ok
  obtain rfl := newC_inv e2
  obtain ⟨v, rfl, r1⟩ := rv.one_inv
  obtain ⟨a, rfl, ha⟩ := r1.ref_inv
  obtain ⟨u, rfl, ru⟩ := L2.vals1 rx
  cases ru
  refine PySem.Calls.call_function_entry PyProof.Rows.kind_sorted PyProof.Rows.plain_sorted PyProof.Rows.entry_sorted (PyProof.Rows.args_sorted1 _) ?_
  unfold PySem.Builtin.«sorted»
  refine PySem.wpAny_bind (m := PySem.checkCount "sorted" 1 1 _) (PySem.wpAny_pure ?_)
  rcases itemsOf_ref e1 with ⟨ds, e3, rfl⟩ | ⟨kvs, e3, rfl⟩
  · obtain ⟨b, ys, hb, h1, h2⟩ := hr.getL e3
    obtain rfl := ref_eq ha hb
    obtain ⟨its, rvs, pl, hz⟩ := I.list h1
    have hl : its.length ≤ PySem.sizeLine := by rw [← rvs.length]; exact hz
    refine PySem.wpAny_bind (PyProof.Rows.collect_list pl.isList ?_ hl)
    refine sort_tail hu (I.kept (t' := s.toks) fun b o e => ?_) hr rvs h2 ok hl q
    rw [PySem.Heap.get?_update_ne _ _ _ _ (Nat.ne_of_lt (PySem.Heap.lt_size e))]
    exact PySem.Heap.get?_push_of_some _ e
  · obtain ⟨n, P, OK, src, okk, hn, keys⟩ := dict_src I (hr.ok _ a _ ha e3)
    refine PySem.wpAny_bind (PySem.W.kdu_collect src (I.ok.hd hcalm) okk hn fun h' tk acc hk hacc => ?_)
    have hl2 : acc.toList.length = n := by rw [Array.length_toList]; exact hacc.1
    obtain ⟨ys, rvs, rk⟩ := keys acc.toList (fun j v e => hacc.2 j v (by rw [← Array.getElem?_toList]; exact e)) hl2
    exact sort_tail hu (I.kept (t' := tk) hk) hr rvs rk ok (by omega) q
/-! ### tuple(x), list(x) -/
theorem tup_seq {K : PySem.W.Frag} {ρ : List Addr} {H : LHp} {ds : List D} {v : LV} (h : RV K ρ H (.tup ds) v) : ∃ a xs, v = .ref a ∧ L2.SqT K H a xs ∧ RVs K ρ H ds xs := h.tup_inv
/-- a list or a tuple -/
theorem seq_arg {ρ : List Addr} {H : LHp} {hp : Hm} {d : D} {v : LV} {xs : List D} (hr : HRX X ρ hp H) (r : RV X.K ρ H d v) (e : seqOf hp d = some xs) : ∃ a ys, v = .ref a ∧ (L2.SqL X.K H a ys ∨ (d = .tup xs ∧ L2.SqT X.K H a ys)) ∧ RVs X.K ρ H xs ys := by
  cases d <;> simp only [seqOf] at e <;> first | (cases e; done) | skip
  · cases e
    obtain ⟨a, ys, rfl, h1, h2⟩ := r.tup_inv
    exact ⟨a, ys, rfl, .inr ⟨rfl, h1⟩, h2⟩
  · obtain ⟨a, rfl, ha⟩ := r.ref_inv
    obtain ⟨b, ys, hb, h1, h2⟩ := hr.getL e
    obtain rfl := ref_eq ha hb
    exact ⟨a, ys, rfl, .inl h1, h2⟩
theorem call_tupleM : L2.CallR X (.type "tuple") (liftA X (bltS .tuple)) := by
  refine CallR.imp L2.call_tuple_of fun vs H Q h => ?_
  obtain ⟨ρ, hp, ds, r, hr, rv, e, q⟩ := h
  rcases ds with _ | ⟨d, _ | ⟨d2, ds⟩⟩ <;> try (simp [bltS] at e; done)
  simp only [bltS, Option.map_eq_some_iff] at e
  obtain ⟨xs, e1, rfl⟩ := e
  obtain ⟨v, rfl, r1⟩ := rv.one_inv
  obtain ⟨a, ys, rfl, h1, h2⟩ := seq_arg hr r1 e1
  rcases h1 with h1 | ⟨rfl, h1⟩
  · exact ⟨a, ys, rfl, .inl ⟨h1, fun l hl => PV.newT q hr h2 hl⟩⟩
  · exact ⟨a, ys, rfl, .inr ⟨h1, PV.here q hr (.tup h1 h2)⟩⟩
theorem call_listM (hcalm : X.calm = true) : L2.CallR X (.type "list") (liftA X (bltS .list)) := by
  intro pins s σ H vs us Q I rx h
  obtain ⟨ρ, hp, ds, r, hr, rv, e, q⟩ := h
  rcases ds with _ | ⟨d, _ | ⟨d2, ds⟩⟩ <;> try (simp [bltS] at e; done)
  simp only [bltS, Option.bind_eq_some_iff] at e
  obtain ⟨xs, e1, e2⟩ := e
  obtain rfl := newC_inv e2
  obtain ⟨v, rfl, r1⟩ := rv.one_inv
  cases d <;> try (simp [itemsOf] at e1; done)
  · obtain ⟨a, ys, rfl, h1, h2⟩ := r1.tup_inv
    cases e1
    exact L2.call_list_of pins s σ H _ us Q I rx ⟨a, ys, rfl, .inr h1, fun l hl => PV.newL q hr h2 hl⟩
  · obtain ⟨a, rfl, ha⟩ := r1.ref_inv
    rcases itemsOf_ref e1 with ⟨ds, e3, rfl⟩ | ⟨kvs, e3, rfl⟩
    · obtain ⟨b, ys, hb, h1, h2⟩ := hr.getL e3
      obtain rfl := ref_eq ha hb
      exact L2.call_list_of pins s σ H _ us Q I rx ⟨a, ys, rfl, .inl h1, fun l hl => PV.newL q hr h2 hl⟩
    · obtain ⟨u, rfl, ru⟩ := L2.vals1 rx
      cases ru
      exact list_dict hcalm I (hr.ok _ a _ ha e3) fun ys p s' hn I' rk => ⟨.ref p, _, I', rfl, PV.newL q hr rk hn⟩

/-! ### isinstance -/
def tyName : Ty → String
  | .int => "int"
  | .bool => "bool"
  | .str => "str"
  | .tuple => "tuple"
  | .list => "list"
  | .dict => "dict"
/-- whether what is of the type n is of t -/
def isKind : Ty → String → Bool
  | .int, n => n == "int" || n == "bool"
  | .bool, n => n == "bool"
  | .str, n => n == "str"
  | .tuple, n => n == "tuple"
  | .list, n => n == "list"
  | .dict, n => n == "dict"
def kindNames : List String := ["NoneType", "bool", "int", "str", "tuple", "list", "dict"]
theorem kit_all (t : Ty) : (kindNames.all fun n => L2.kitB n (tyName t) == some (isKind t n)) = true := by
  cases t <;> decide +kernel
theorem kit_one (t : Ty) (n : String) (hn : n ∈ kindNames) : L2.kitB n (tyName t) = some (isKind t n) := by
  have := List.all_eq_true.mp (kit_all t) n hn
  exact eq_of_beq this
theorem isi_run {pins : List (Addr × Obj)} {s : PySem.Shared} {σ : L2.St} {H : LHp} {ρ : List Addr} {hp : Hm} (I : L2.Inv X pins σ H s) (hr : HRX X ρ hp H) {t : Ty} {d : D} {v : LV} {u u' : Value} {k : Bool} {Q : L2.VK} (r : RV X.K ρ H d v) (ru : L2.RelV v u) (hu' : u' = .type (tyName t)) (e : isiS hp t d = some k) (q : Q (.bl k) H) :
    PySem.wpAny (PySem.model X.prog X.w) X.A (PySem.call (.builtin "isinstance") [u, u']) (L2.EP X pins σ Q) X.xe s := by
  subst hu'
  have go : ∀ (n : String), n ∈ kindNames → L2.TyX X.K H v (.type n) → k = isKind t n → PySem.wpAny (PySem.model X.prog X.w) X.A (PySem.call (.builtin "isinstance") [u, .type (tyName t)]) (L2.EP X pins σ Q) X.xe s := fun n hn ty hk =>
    L2.call_isi pins s σ H [v, .ty (tyName t)] [u, .type (tyName t)] Q I (.cons ru (.cons rfl .nil)) ⟨v, .ty (tyName t), .type n, .type (tyName t), k, rfl, .ty _, ty, L2.kit_ty (by rw [kit_one t n hn, hk]), q⟩
  cases d <;> simp only [isiS] at e <;> first | (cases e; done) | skip
  · cases r; cases e; exact go "NoneType" (by simp [kindNames]) (.base .non) (by cases t <;> rfl)
  · cases r; cases e; exact go "bool" (by simp [kindNames]) (.base (.bl _)) (by cases t <;> rfl)
  · cases r; cases e; exact go "int" (by simp [kindNames]) (.base (.int _)) (by cases t <;> rfl)
  · obtain ⟨rfl, _⟩ := r.str_inv; cases e; exact go "str" (by simp [kindNames]) (.base (.str _)) (by cases t <;> rfl)
  · obtain ⟨a, xs, rfl, h1, h2⟩ := r.tup_inv
    cases e
    refine go "tuple" (by simp [kindNames]) ?_ (by cases t <;> rfl)
    rcases h1 with (h1 | ⟨o, h1⟩) | ⟨o, its, n, h1, h2, h3⟩
    · exact .base (.tup h1)
    · exact .fTuple h1
    · exact .kTuple h1 h2
  · obtain ⟨a, rfl, ha⟩ := r.ref_inv
    split at e
    · rename_i xs hx
      cases e
      obtain ⟨ys, e1, r1⟩ := hr.ok _ a _ ha hx
      exact go "list" (by simp [kindNames]) (.base (.lst e1)) (by cases t <;> rfl)
    · rename_i xs hx
      cases e
      obtain ⟨ys, e1, r1⟩ := hr.ok _ a _ ha hx
      refine go "list" (by simp [kindNames]) ?_ (by cases t <;> rfl)
      rcases e1 with ⟨ob, e1⟩ | ⟨o, its, n, h1, h2, h3⟩
      · exact .base (.frz e1)
      · exact .kList h1 h2
    · cases e
    · cases e
/-! ### in, <, .. -/
theorem op_inM (hu : X.A.units + 80 < PySem.cLine) : L2.OpR X (PySem.compareOp .In) (liftC X fun x y h => cmpS .isin x y h) ∧ L2.OpR X (PySem.compareOp .NotIn) (liftC X fun x y h => cmpS .notin x y h) := by
  have core : ∀ (pins : List (Addr × Obj)) (s : PySem.Shared) (σ : L2.St) (H : LHp) (v u : LV) (v' u' : Value) (ρ : List Addr) (hp : Hm) (x y : D) (k : Bool), L2.Inv X pins σ H s → L2.RelV v v' → L2.RelV u u' → HRX X ρ hp H → RV X.K ρ H x v → RV X.K ρ H y u → inS hp x y = some k → ∀ Q : Value → PySem.Shared → Prop,
      ((∀ s', L2.Inv X pins σ H s' → Q (.bool k) s') → PySem.wpAny (PySem.model X.prog X.w) X.A (PySem.compareOp .In v' u') Q X.xe s) ∧ ((∀ s', L2.Inv X pins σ H s' → Q (.bool !k) s') → PySem.wpAny (PySem.model X.prog X.w) X.A (PySem.compareOp .NotIn v' u') Q X.xe s) := by
    intro pins s σ H v u v' u' ρ hp x y k I rv ru hr rx ry e Q
    cases y <;> simp only [inS] at e <;> first | (cases e; done) | skip
    · obtain ⟨a, ys, rfl, h1, h2⟩ := ry.tup_inv
      cases ru
      have z := in_run (by omega) I hr rx h2 rv (.inr h1) e (Q := Q) (E := X.xe)
      exact ⟨fun q => z.1 (q s I), fun q => z.2 (q s I)⟩
    · obtain ⟨a, rfl, ha⟩ := ry.ref_inv
      cases ru
      split at e
      · rename_i ys hx
        obtain ⟨zs, e1, r1⟩ := hr.ok _ a _ ha hx
        have z := in_run (by omega) I hr rx r1 rv (.inl (.inl (.inl e1))) e (Q := Q) (E := X.xe)
        exact ⟨fun q => z.1 (q s I), fun q => z.2 (q s I)⟩
      · rename_i ys hx
        obtain ⟨zs, e1, r1⟩ := hr.ok _ a _ ha hx
        have sq : L2.SqL X.K H a zs := by
          rcases e1 with ⟨ob, e1⟩ | e1
          · exact .inl (.inr ⟨ob, e1⟩)
          · exact .inr e1
        have z := in_run (by omega) I hr rx r1 rv (.inl sq) e (Q := Q) (E := X.xe)
        exact ⟨fun q => z.1 (q s I), fun q => z.2 (q s I)⟩
      · rename_i kvs hx
        split at e
        · rename_i hk
          cases e
          have z := d_look (A := X.A) (E := X.xe) (by omega) I (hr.ok _ a _ ha hx) hk rx rv
          exact ⟨fun q => z.2.1 Q q, fun q => z.2.2 Q q⟩
        · cases e
      · cases e
  constructor
  · intro pins s σ H v u v' u' Q I rv ru h
    obtain ⟨ρ, hp, x, y, r, hr, rx, ry, e, q⟩ := h
    obtain ⟨k, e', rfl⟩ := Option.map_eq_some_iff.mp e
    exact (core pins s σ H v u v' u' ρ hp x y k I rv ru hr rx ry e' _).1 fun s' I' => ⟨.bl k, H, I', rfl, PV.here q hr (.bl _)⟩
  · intro pins s σ H v u v' u' Q I rv ru h
    obtain ⟨ρ, hp, x, y, r, hr, rx, ry, e, q⟩ := h
    obtain ⟨k, e', rfl⟩ := Option.map_eq_some_iff.mp e
    obtain ⟨k', e2, hk⟩ := Option.map_eq_some_iff.mp (show (inS hp x y).map not = some k from e')
    exact (core pins s σ H v u v' u' ρ hp x y k' I rv ru hr rx ry e2 _).2 fun s' I' => ⟨.bl k, H, I', by rw [← hk]; rfl, PV.here q hr (.bl _)⟩
theorem op_ltM : L2.OpR X (PySem.compareOp .Lt) (liftC X fun x y h => cmpS .lt x y h) := by
  refine OpR.imp (L2.op_lt.or L2.op_lt_str) fun v u H Q h => ?_
  obtain ⟨ρ, hp, x, y, r, hr, rx, ry, e, q⟩ := h
  obtain ⟨k, e, rfl⟩ := Option.map_eq_some_iff.mp e
  simp only [cmpS] at e
  cases x <;> cases y <;> simp only at e <;> first | (cases e; done) | skip
  · obtain rfl := rx.int_inv; obtain rfl := ry.int_inv
    cases e
    exact .inl ⟨_, _, rfl, rfl, PV.here q hr (.bl _)⟩
  · obtain ⟨rfl, _⟩ := rx.str_inv; obtain ⟨rfl, _⟩ := ry.str_inv
    cases e
    exact .inr ⟨_, _, rfl, rfl, PV.here q hr (.bl _)⟩
theorem op_leM : L2.OpR X (PySem.compareOp .LtE) (liftC X fun x y h => cmpS .le x y h) := by
  refine OpR.imp L2.op_le fun v u H Q h => ?_
  obtain ⟨ρ, hp, x, y, r, hr, rx, ry, e, q⟩ := h
  obtain ⟨k, e, rfl⟩ := Option.map_eq_some_iff.mp e
  simp only [cmpS] at e
  cases x <;> cases y <;> simp only at e <;> first | (cases e; done) | skip
  obtain rfl := rx.int_inv; obtain rfl := ry.int_inv
  cases e
  exact ⟨_, _, rfl, rfl, PV.here q hr (.bl _)⟩
theorem op_gtM : L2.OpR X (PySem.compareOp .Gt) (liftC X fun x y h => cmpS .gt x y h) := by
  refine OpR.imp L2.op_gt fun v u H Q h => ?_
  obtain ⟨ρ, hp, x, y, r, hr, rx, ry, e, q⟩ := h
  obtain ⟨k, e, rfl⟩ := Option.map_eq_some_iff.mp e
  simp only [cmpS] at e
  cases x <;> cases y <;> simp only at e <;> first | (cases e; done) | skip
  obtain rfl := rx.int_inv; obtain rfl := ry.int_inv
  cases e
  exact ⟨_, _, rfl, rfl, PV.here q hr (.bl _)⟩
theorem op_geM : L2.OpR X (PySem.compareOp .GtE) (liftC X fun x y h => cmpS .ge x y h) := by
  refine OpR.imp L2.op_ge fun v u H Q h => ?_
  obtain ⟨ρ, hp, x, y, r, hr, rx, ry, e, q⟩ := h
  obtain ⟨k, e, rfl⟩ := Option.map_eq_some_iff.mp e
  simp only [cmpS] at e
  cases x <;> cases y <;> simp only at e <;> first | (cases e; done) | skip
  obtain rfl := rx.int_inv; obtain rfl := ry.int_inv
  cases e
  exact ⟨_, _, rfl, rfl, PV.here q hr (.bl _)⟩
/-! ### truth -/
theorem tru_M {pins : List (Addr × Obj)} {s : PySem.Shared} {σ : L2.St} {H : LHp} {ρ : List Addr} {hp : Hm} (I : L2.Inv X pins σ H s) (hr : HRX X ρ hp H) {d : D} {v : LV} {u : Value} {k : Bool} {Q : Bool → LHp → Prop} (r : RV X.K ρ H d v) (ru : L2.RelV v u) (e : truth hp d = some k) (q : Q k H) :
    PySem.wpAny (PySem.model X.prog X.w) X.A (PySem.truthy u) (L2.TP X pins σ Q) X.xe s := by
  have go : L2.TruV X.K v H k → PySem.wpAny (PySem.model X.prog X.w) X.A (PySem.truthy u) (L2.TP X pins σ Q) X.xe s := fun t => L2.tru_ok pins s σ H v u Q I ru ⟨k, t, q⟩
  have emp : ∀ {ds : List D} {vs : List LV}, RVs X.K ρ H ds vs → (!ds.isEmpty) = !vs.isEmpty := fun r => by cases r <;> rfl
  cases d <;> simp only [truth] at e <;> first | (cases e; done) | skip
  · cases r; cases e; exact go rfl
  · cases r; cases e; exact go rfl
  · cases r; cases e
    refine go ?_
    show decide _ = _
    rename_i i
    by_cases h : i = 0
    · subst h; rfl
    · rw [decide_eq_true h]; exact (bne_iff_ne.mpr h).symm
  · obtain ⟨rfl, z⟩ := r.str_inv; cases e
    refine go ⟨by rw [lim_eq, str_len]; exact sOK_len z, ?_⟩
    rw [str_len]
    rename_i s0
    cases s0 with
    | nil => rfl
    | cons a b => simp; omega
  · obtain ⟨a, xs, rfl, h1, h2⟩ := r.tup_inv; cases e
    exact go (.inr (.inl ⟨xs, h1, emp h2⟩))
  · obtain ⟨a, rfl, ha⟩ := r.ref_inv
    split at e
    · rename_i xs hx
      cases e
      obtain ⟨ys, e1, r1⟩ := hr.ok _ a _ ha hx
      exact go (.inl ⟨ys, .inl (.inl e1), emp r1⟩)
    · rename_i xs hx
      cases e
      obtain ⟨ys, e1, r1⟩ := hr.ok _ a _ ha hx
      refine go (.inl ⟨ys, ?_, emp r1⟩)
      rcases e1 with ⟨ob, e1⟩ | e1
      · exact .inl (.inr ⟨ob, e1⟩)
      · exact .inr e1
    · cases e
/-! ### subscripts -/
theorem rd_idx {F : FnS} (hF : FMono F) {E : XP} {a b : CE} {S : D → D → Hm → Option D} {σ : L2.St} {H : LHp} {Q : L2.VK}
    (h : rE X (fun env h Q => wpE F E a env h fun x h1 => wpE F E b env h1 fun y h2 => ws (S x y h2) fun d => Q d h2) σ H Q) : L2.tOp (liftR X fun x y h => (S x y h).map fun d => (d, h)) (rE X (wpE F E a)) (rE X (wpE F E b)) σ H Q := by
  obtain ⟨ρ, env, hp, hr, he, h⟩ := h
  refine ⟨ρ, env, hp, hr, he, wpE_mono hF a E env hp _ _ h fun x h1 q ρ1 H1 v p1 t1 hr1 rv1 => ?_⟩
  refine ⟨ρ1, env, h1, hr1, he.mono p1 t1, wpE_mono hF b E env h1 _ _ q fun y h2 q ρ2 H2 u p2 t2 hr2 rv2 => ?_⟩
  obtain ⟨r, e, q⟩ := ws_iff.mp q
  exact ⟨ρ2, h2, x, y, (r, h2), hr2, rv1.mono p2 t2, rv2, by simp [e], PV.weak (p1.trans p2) (t1.trans t2) q⟩
theorem ixN_eq (n : Nat) (i : Int) : ixN n i = L2.ixN n i := rfl
theorem at_get {K : PySem.W.Frag} {ρ : List Addr} {H : LHp} {ds : List D} {vs : List LV} {i : Int} {d : D} (r : RVs K ρ H ds vs) (e : atI ds i = some d) : ∃ v, L2.atI vs i = some v ∧ RV K ρ H d v := by
  unfold atI at e
  obtain ⟨j, e1, e2⟩ := Option.bind_eq_some_iff.mp e
  obtain ⟨v, h1, h2⟩ := r.get e2
  refine ⟨v, ?_, h2⟩
  unfold L2.atI
  rw [← ixN_eq, ← r.length, e1]
  exact h1
theorem ix_M (hu : X.A.units + 80 < PySem.cLine) : L2.IxR X (liftR X fun x y h => (idxS x y h).map fun d => (d, h)) := by
  intro value slice pins s σ H v u v' u' Q I rv ru h hs
  obtain ⟨ρ, hp, x, y, r, hr, rx, ry, e0, q⟩ := h
  obtain ⟨d, e, hd⟩ := Option.map_eq_some_iff.mp e0
  clear e0
  subst hd
  cases x <;> simp only [idxS] at e <;> first | (cases e; done) | skip
  · cases y <;> simp only at e <;> first | (cases e; done) | skip
    obtain ⟨a, xs, rfl, h1, h2⟩ := rx.tup_inv
    obtain rfl := ry.int_inv
    obtain ⟨w, e1, rw'⟩ := at_get h2 e
    exact L2.ix_tup value slice pins s σ H _ _ v' u' Q I rv ru ⟨a, xs, _, w, rfl, rfl, h1, e1, PV.here q hr rw'⟩ hs
  · obtain ⟨a, rfl, ha⟩ := rx.ref_inv
    split at e
    · rename_i xs k hx
      obtain rfl := ry.int_inv
      obtain ⟨ys, e1, r1⟩ := hr.ok _ a _ ha hx
      obtain ⟨w, e2, rw'⟩ := at_get r1 e
      exact L2.ix_list value slice pins s σ H _ _ v' u' Q I rv ru ⟨a, ys, _, w, rfl, rfl, .inl (.inl e1), e2, PV.here q hr rw'⟩ hs
    · rename_i xs k hx
      obtain rfl := ry.int_inv
      obtain ⟨ys, e1, r1⟩ := hr.ok _ a _ ha hx
      obtain ⟨w, e2, rw'⟩ := at_get r1 e
      have sq : L2.SqL X.K H a ys := by
        rcases e1 with ⟨ob, e1⟩ | e1
        · exact .inl (.inr ⟨ob, e1⟩)
        · exact .inr e1
      exact L2.ix_list value slice pins s σ H _ _ v' u' Q I rv ru ⟨a, ys, _, w, rfl, rfl, sq, e2, PV.here q hr rw'⟩ hs
    · rename_i kvs k hx
      split at e
      · rename_i hk
        cases rv
        have hc := hr.ok _ a _ ha hx
        have ty : s.TypeIs (.ref a) "dict" := by
          rcases hc with ⟨kvs', e1, r1, z⟩ | ⟨hs, o, e1, xs, es, ep, h1, h2, h3, h4, h5, h6, h7⟩
          · obtain ⟨_, _, vs, _, dd⟩ := L2.dk_of I.hok e1
            exact dd.typeIs
          · obtain ⟨q, _, _⟩ := I.hok a _ e1
            exact ⟨o, q, h1.1⟩
        exact PyProof.Rows.tail_any ty PySem.F.slot_dict_getitem.lookup ((d_look (A := X.A) (E := X.xe) (by omega) I hc hk ry ru).1 d _ e fun vv w' s' I' rr rw' => ⟨vv, H, I', rw', PV.here q hr rr⟩) hs
      · cases e
    · cases e
theorem cut_eq {K : PySem.W.Frag} {ρ : List Addr} {H : LHp} {ds : List D} {vs : List LV} {lo hi : Option Int} (r : RVs K ρ H ds vs) : RVs K ρ H (cutL ds lo hi) (L2.cutV vs lo hi) := by
  have e : L2.cutV vs lo hi = (vs.drop (sIx vs.length 0 lo)).take (sIx vs.length vs.length hi - sIx vs.length 0 lo) := by
    unfold L2.cutV
    cases lo <;> cases hi <;> rfl
  rw [e]
  unfold cutL
  rw [← r.length]
  exact (r.drop _).take _
theorem cut_whole {ds : List D} {lo hi : Option Int} (h1 : sIx ds.length 0 lo = 0) (h2 : sIx ds.length ds.length hi = ds.length) : cutL ds lo hi = ds := by
  unfold cutL
  rw [h1, h2, List.drop_zero, Nat.sub_zero, List.take_length]
theorem sIx_eq (n d : Nat) (o : Option Int) : HT.sIx n d o = sIx n d o := by cases o <;> rfl
/-- a[lo:hi] -/
theorem sl_M : L2.SlR X (fun v lo hi H Q => ∃ ρ hp x r, HRX X ρ hp H ∧ RV X.K ρ H x v ∧ (match x with
    | .tup xs => some (.tup (cutL xs lo hi), hp)
    | .ref a => (getL hp a).bind fun xs => newC hp (.lst (cutL xs lo hi))
    | _ => none) = some r ∧ PVX X ρ H Q r.1 r.2) := by
  intro pins s σ H v v' vl vu lo hi sl Q I rv hs pl pu h
  obtain ⟨ρ, hp, x, r, hr, rx, e, q⟩ := h
  cases x <;> simp only at e <;> first | (cases e; done) | skip
  · obtain ⟨a, xs, rfl, h1, h2⟩ := rx.tup_inv
    cases e
    refine L2.sl_tupA pins s σ H _ v' vl vu lo hi sl Q I rv hs pl pu ⟨a, xs, rfl, h1, fun w => ?_, fun w p hp' => PV.newT q hr (cut_eq h2) hp'⟩
    rw [sIx_eq, sIx_eq, ← h2.length] at w
    refine PV.here q hr (.tup h1 ?_)
    rw [cut_whole w.1 w.2]
    exact h2
  · obtain ⟨a, rfl, ha⟩ := rx.ref_inv
    obtain ⟨xs, e1, e2⟩ := Option.bind_eq_some_iff.mp e
    obtain rfl := newC_inv e2
    obtain ⟨b, ys, hb, h1, h2⟩ := hr.getL e1
    obtain rfl := ref_eq ha hb
    exact L2.sl_list pins s σ H _ v' vl vu lo hi sl Q I rv hs pl pu ⟨a, ys, rfl, h1, fun p hp' => PV.newL q hr (cut_eq h2) hp'⟩
end
end M

end
section
set_option Elab.async false
set_option linter.all false
set_option autoImplicit false
set_option maxRecDepth 100000
set_option maxHeartbeats 4000000
/-! stores by index, methods -/
namespace M
open PySem (Addr Obj Value Str PyData Heap NestedKey)
section
variable {X : L2.Cx}
/-- what is wanted of the heap -/
def PH (X : L2.Cx) (ρ : List Addr) (H : LHp) (Q : LHp → Prop) : Hm → Prop := fun hp' => ∀ (H' : LHp), TK H H' → HRX X ρ hp' H' → Q H'
def liftS (X : L2.Cx) : L2.TSet := fun o i v H Q => ∃ ρ hp x y z hp', HRX X ρ hp H ∧ RV X.K ρ H x o ∧ RV X.K ρ H y i ∧ RV X.K ρ H z v ∧ setS x y z hp = some hp' ∧ PH X ρ H Q hp'
theorem ixN_lt {n : Nat} {i : Int} {j : Nat} (h : ixN n i = some j) : j < n := by
  unfold ixN at h
  split at h
  · split at h
    · cases h; omega
    · cases h
  · split at h
    · cases h; omega
    · cases h
theorem set_M (hu : X.A.units + 80 < PySem.cLine) : L2.PSet X (liftS X) := by
  intro pins s σ H o i v ov iv u Q I ro ri rv h
  obtain ⟨ρ, hp, x, y, z, hp', hr, rx, ry, rz, e, q⟩ := h
  cases x <;> simp only [setS] at e <;> first | (cases e; done) | skip
  obtain ⟨a, rfl, ha⟩ := rx.ref_inv
  split at e
  · rename_i xs k hx
    obtain ⟨j, e1, rfl⟩ := Option.map_eq_some_iff.mp e
    obtain rfl := ry.int_inv
    obtain ⟨ys, e2, r1⟩ := hr.ok _ a _ ha hx
    refine L2.set_list pins s σ H _ _ v ov iv u Q I ro ri rv ⟨a, ys, k, j, rfl, rfl, e2, by rw [← r1.length]; exact e1, ?_⟩
    have t : TK H (L2.upd H a (.lst (ys.set j v))) := TK.put e2 trivial
    exact q _ t (hr.put ha hx (fun _ z => nomatch z) e2 trivial (fun _ z => nomatch z) ⟨_, L2.upd_same, (r1.set rz j).mono (List.prefix_refl _) t⟩)
  · rename_i kvs k hx
    split at e
    · rename_i hk
      cases e
      cases ro
      have hc := hr.ok _ a _ ha hx
      obtain ⟨mu, u0, eu, cu⟩ := cell_mut hc
      refine d_put (A := X.A) (E := X.xe) (by omega) I hc hk.1 ry ri rz rv hk.2 fun s' o' I' c' => ⟨_, I', q _ (TK.put eu cu) (hr.put ha hx (fun _ z => nomatch z) eu cu (fun _ z => nomatch z) c')⟩
    · cases e
  · cases e

/-! ### methods -/
theorem MtR.imp {id : String} {r r' : LV → List LV → LHp → L2.VK → Prop} (h : L2.MtR X id r) (k : ∀ v vs H Q, r' v vs H Q → r v vs H Q) : L2.MtR X id r' := fun pins s σ H x xs v us Q I rx rxs q => h pins s σ H x xs v us Q I rx rxs (k _ _ _ _ q)
/-- a method's partial function in the layer's words -/
def liftM (X : L2.Cx) (b : Blt) : LV → List LV → LHp → L2.VK → Prop := fun v vs H Q => liftA X (bltS b) (v :: vs) H Q
/-- a changed list cell -/
theorem PV.putL {ρ : List Addr} {H : LHp} {hp : Hm} {Q : L2.VK} {i : Nat} {a : Addr} {ds : List D} {ds' : List D} {xs xs' : List LV} {d : D} {v : LV} (q : PVX X ρ H Q d (hp.set i (.lst ds'))) (hr : HRX X ρ hp H) (ha : ρ[i]? = some a) (hx : hp[i]? = some (.lst ds)) (e : H a = some (.lst xs)) (r : RVs X.K ρ H ds' xs') (rd : RV X.K ρ H d v) :
    Q v (L2.upd H a (.lst xs')) := by
  have t : TK H (L2.upd H a (.lst xs')) := TK.put e trivial
  exact q ρ _ v (List.prefix_refl _) t (hr.put ha hx (fun _ z => nomatch z) e trivial (fun _ z => nomatch z) ⟨xs', L2.upd_same, r.mono (List.prefix_refl _) t⟩) (rd.mono (List.prefix_refl _) t)
theorem getM_at {hp : Hm} {i : Nat} {ds : List D} (h : getM hp i = some ds) : hp[i]? = some (.lst ds) := by
  unfold getM at h
  split at h
  · rename_i xs e; cases h; exact e
  · cases h
theorem mt_appendM : L2.MtR X "list.append" (liftM X .append) := by
  refine MtR.imp L2.mt_append fun v vs H Q h => ?_
  obtain ⟨ρ, hp, ds, r, hr, rv, e, q⟩ := h
  rcases ds with _ | ⟨d, _ | ⟨d2, _ | ⟨d3, ds⟩⟩⟩ <;> try (simp [bltS] at e; done)
  cases d <;> try (simp [bltS] at e; done)
  simp only [bltS, Option.bind_eq_some_iff] at e
  obtain ⟨xs, e1, e2⟩ := e
  split at e2
  case isFalse => cases e2
  rename_i hl
  cases e2
  cases rv with
  | cons r1 r2 =>
    obtain ⟨y, rfl, ry⟩ := r2.one_inv
    obtain ⟨a, rfl, ha⟩ := r1.ref_inv
    obtain ⟨b, ys, hb, hx, h1, h2⟩ := hr.getM e1
    obtain rfl := ref_eq ha hb
    exact ⟨a, ys, y, rfl, rfl, h1, by rw [lim_eq, ← h2.length]; exact hl, PV.putL q hr ha hx h1 (h2.append (.cons ry .nil)) .non⟩
theorem mt_extendM : L2.MtR X "list.extend" (liftM X .extend) := by
  refine MtR.imp L2.mt_extend fun v vs H Q h => ?_
  obtain ⟨ρ, hp, ds, r, hr, rv, e, q⟩ := h
  rcases ds with _ | ⟨d, _ | ⟨d2, _ | ⟨d3, ds⟩⟩⟩ <;> try (simp [bltS] at e; done)
  cases d <;> try (simp [bltS] at e; done)
  cases d2 <;> try (simp [bltS] at e; done)
  simp only [bltS, Option.bind_eq_some_iff] at e
  obtain ⟨xs, e1, zs, e3, e2⟩ := e
  split at e2
  case isFalse => cases e2
  rename_i hl
  cases e2
  cases rv with
  | cons r1 r2 =>
    obtain ⟨y, rfl, ry⟩ := r2.one_inv
    obtain ⟨a, rfl, ha⟩ := r1.ref_inv
    obtain ⟨c, rfl, hc⟩ := ry.ref_inv
    obtain ⟨b, ys, hb, hx, h1, h2⟩ := hr.getM e1
    obtain rfl := ref_eq ha hb
    obtain ⟨b', ws, hb', hx', h1', h2'⟩ := hr.getM e3
    obtain rfl := ref_eq hc hb'
    exact ⟨a, c, ys, ws, rfl, rfl, h1, h1', by rw [lim_eq, ← h2.length, ← h2'.length]; exact hl.1, PV.putL q hr ha hx h1 (h2.append h2') .non⟩
theorem mt_pop0M : L2.MtR X "list.pop" (liftM X .pop0) := by
  refine MtR.imp L2.mt_pop fun v vs H Q h => ?_
  obtain ⟨ρ, hp, ds, r, hr, rv, e, q⟩ := h
  rcases ds with _ | ⟨d, _ | ⟨d2, ds⟩⟩ <;> try (simp [bltS] at e; done)
  · cases d <;> try (simp [bltS] at e; done)
    simp only [bltS, Option.bind_eq_some_iff, Option.map_eq_some_iff] at e
    obtain ⟨xs, e1, x, e2, rfl⟩ := e
    cases rv with
    | cons r1 r2 =>
      cases r2
      obtain ⟨a, rfl, ha⟩ := r1.ref_inv
      obtain ⟨b, ys, hb, hx, h1, h2⟩ := hr.getM e1
      obtain rfl := ref_eq ha hb
      rw [List.getLast?_eq_getElem?] at e2
      obtain ⟨y, hy, ry⟩ := h2.get e2
      exact ⟨a, ys, y, rfl, rfl, h1, by rw [← h2.length]; exact hy, PV.putL q hr ha hx h1 h2.dropLast ry⟩
theorem small_le {i : Int} (h : small i = true) : -1000000 ≤ i ∧ i ≤ 1000000 := by
  unfold small at h
  rw [Bool.and_eq_true, decide_eq_true_eq, decide_eq_true_eq] at h
  exact h
theorem ixN_seq {n : Nat} {i : Int} {k : Nat} (h : ixN n i = some k) : PySem.seqIndex? i n = some k := by
  unfold ixN at h
  unfold PySem.seqIndex?
  by_cases h0 : 0 ≤ i
  · rw [if_pos h0] at h
    by_cases h1 : i < n
    · rw [if_pos h1] at h
      cases h
      simp
      omega
    · rw [if_neg h1] at h; cases h
  · rw [if_neg h0] at h
    by_cases h1 : -(n : Int) ≤ i
    · rw [if_pos h1] at h
      cases h
      simp
      omega
    · rw [if_neg h1] at h; cases h
theorem mt_popIM : L2.MtR X "list.pop" (liftM X .popI) := by
  refine MtR.imp L2.mt_popAt fun v vs H Q h => ?_
  obtain ⟨ρ, hp, ds, r, hr, rv, e, q⟩ := h
  rcases ds with _ | ⟨d, _ | ⟨d2, _ | ⟨d3, ds⟩⟩⟩ <;> try (simp [bltS] at e; done)
  cases d <;> try (simp [bltS] at e; done)
  cases d2 <;> try (simp [bltS] at e; done)
  simp only [bltS] at e
  split at e
  case isFalse => cases e
  rename_i hs
  have hs := small_le hs
  simp only [Option.bind_eq_some_iff, Option.map_eq_some_iff] at e
  obtain ⟨xs, e1, k, e3, x, e2, rfl⟩ := e
  cases rv with
  | cons r1 r2 =>
    obtain ⟨y, rfl, ry⟩ := r2.one_inv
    obtain rfl := ry.int_inv
    obtain ⟨a, rfl, ha⟩ := r1.ref_inv
    obtain ⟨b, ys, hb, hx, h1, h2⟩ := hr.getM e1
    obtain rfl := ref_eq ha hb
    obtain ⟨y, hy, ry⟩ := h2.get e2
    refine ⟨a, ys, _, k, y, rfl, rfl, h1, by omega, by omega, ?_, hy, PV.putL q hr ha hx h1 (h2.eraseIdx k) ry⟩
    rw [← h2.length]
    exact ixN_seq e3
theorem mt_insertM : L2.MtR X "list.insert" (liftM X .insert) := by
  refine MtR.imp L2.mt_insert fun v vs H Q h => ?_
  obtain ⟨ρ, hp, ds, r, hr, rv, e, q⟩ := h
  rcases ds with _ | ⟨d, _ | ⟨d2, _ | ⟨d3, _ | ⟨d4, ds⟩⟩⟩⟩ <;> try (simp [bltS] at e; done)
  cases d <;> try (simp [bltS] at e; done)
  cases d2 <;> try (simp [bltS] at e; done)
  simp only [bltS, Option.bind_eq_some_iff] at e
  obtain ⟨xs, e1, e2⟩ := e
  split at e2
  case isFalse => cases e2
  rename_i hl
  cases e2
  cases rv with
  | cons r1 r2 =>
    obtain ⟨y, z, rfl, ry, rz⟩ := r2.two_inv
    obtain rfl := ry.int_inv
    obtain ⟨a, rfl, ha⟩ := r1.ref_inv
    obtain ⟨b, ys, hb, hx, h1, h2⟩ := hr.getM e1
    obtain rfl := ref_eq ha hb
    have hlim : LIM = 16777216 := rfl
    refine ⟨a, ys, _, z, rfl, rfl, h1, by rw [lim_eq, ← h2.length]; exact hl.1, hl.2.1, by omega, ?_⟩
    rw [List.append_assoc]
    exact PV.putL q hr ha hx h1 ((h2.take _).append (.cons rz (h2.drop _))) .non
end
end M

end
section
set_option Elab.async false
set_option linter.all false
set_option autoImplicit false
set_option maxRecDepth 100000
set_option maxHeartbeats 4000000
/-! calls of methods -/
namespace M
open PySem (Addr Obj Value Str PyData Heap NestedKey Expr)
/-! ### plain rows of arguments -/
def plainE : Expr → Bool
  | .Starred _ _ => false
  | _ => true
theorem star_plain {e : Expr} {es : List Expr} {env : PySem.Env} (h : plainE e = true) : PySem.starEach (e :: es) env = (false, PySem.eval e env) :: PySem.starEach es env := by
  cases e <;> first | rfl | exact Bool.noConfusion h
theorem stars_plain {env : PySem.Env} : ∀ {es : List Expr}, es.all plainE = true → PySem.starEach es env = es.map fun e => (false, PySem.eval e env)
  | [], _ => rfl
  | e :: es, h => by
    rw [List.all_cons, Bool.and_eq_true] at h
    rw [star_plain h.1, stars_plain h.2, List.map_cons]
theorem back_plain {env : PySem.Env} {pos : PySem.Pos} {es : List Expr} (h : es.all plainE = true) : PySem.backTo pos (PySem.starEach es env) = es.map fun e => (false, PySem.eval e env) := by
  rw [stars_plain h, PySem.backTo, List.map_map]
  rfl
theorem any_plain {env : PySem.Env} {pos : PySem.Pos} {es : List Expr} (h : es.all plainE = true) : (PySem.backTo pos (PySem.starEach es env)).any (·.1) = false := by
  rw [back_plain h, List.any_map]
  induction es with
  | nil => rfl
  | cons e es ih => rw [List.all_cons, Bool.and_eq_true] at h; simp [ih h.2]
theorem all_plain {env : PySem.Env} {pos : PySem.Pos} {es : List Expr} (h : es.all plainE = true) : (PySem.backTo pos (PySem.starEach es env)).all (fun x => !x.1) = true := by
  rw [back_plain h, List.all_map]
  induction es with
  | nil => rfl
  | cons e es ih => rw [List.all_cons, Bool.and_eq_true] at h; simp [ih h.2]
/-- no call super() -/
def baseE : Expr → Bool
  | .Call (.Name _ _) [] [] _ => false
  | _ => true
theorem base_of {o : Expr} {name : Str} {env : PySem.Env} {whole : PySem.Sem Value} (h : baseE o = true) : PySem.attributeBase o name env whole = whole := by
  unfold PySem.attributeBase
  split
  · exact Bool.noConfusion h
  · rfl

section
variable {X : L2.Cx}
theorem getK_at {hp : Hm} {i : Nat} {ds : List (D × D)} (h : getK hp i = some ds) : hp[i]? = some (.dct ds) := by
  unfold getK at h
  split at h
  · rename_i xs e; cases h; exact e
  · cases h
theorem findIdx_pds (a : D) : ∀ (bs : List D) (k : Nat), (bs.findIdx? fun b => eqD b a) = some k → ∃ z, (pds bs)[k]? = some z ∧ PyData.eqv z (pd a) = true ∧ ∀ (m : Nat) (z' : PyData), m < k → (pds bs)[m]? = some z' → PyData.eqv z' (pd a) = false
  | [], k, h => by simp at h
  | b :: bs, k, h => by
    rw [List.findIdx?_cons] at h
    split at h
    · rename_i hb
      cases h
      exact ⟨pd b, rfl, by rw [← eqD_pd]; exact hb, fun m z' hm => absurd hm (Nat.not_lt_zero m)⟩
    · rename_i hb
      obtain ⟨j, hj, rfl⟩ := Option.map_eq_some_iff.mp h
      obtain ⟨z, h1, h2, h3⟩ := findIdx_pds a bs j hj
      refine ⟨z, by simpa [pds] using h1, h2, fun m z' hm hz => ?_⟩
      cases m with
      | zero =>
        simp [pds] at hz
        subst hz
        rw [← eqD_pd]
        simpa using hb
      | succ m => exact h3 m z' (by omega) (by simpa [pds] using hz)
theorem shaped_of {d : PyData} (h1 : d.canLay0 = true) (h2 : d.depth ≤ 61) : PySem.SeqAt.shaped d = true := by
  unfold PySem.SeqAt.shaped
  rw [Bool.and_eq_true, decide_eq_true_eq]
  exact ⟨h1, by omega⟩
theorem mt_indexM (hu : X.A.units + 65 < PySem.cLine) : L2.MtR X "list.index" (liftM X .index) := by
  refine MtR.imp (L2.mt_indexD hu) fun v vs H Q h => ?_
  obtain ⟨ρ, hp, ds, r, hr, rv, e, q⟩ := h
  rcases ds with _ | ⟨d, _ | ⟨d2, _ | ⟨d3, ds⟩⟩⟩ <;> try (simp [bltS] at e; done)
  simp only [bltS, Option.bind_eq_some_iff, Option.map_eq_some_iff] at e
  obtain ⟨xs, e1, k, e2, rfl⟩ := e
  cases rv with
  | cons r1 r2 =>
    obtain ⟨y, rfl, ry⟩ := r2.one_inv
    obtain ⟨a, ys, rfl, sq, rys⟩ := lst_arg hr r1 e1
    unfold indexEq at e2
    split at e2
    · rename_i da dbs ea eb
      split at e2
      · rename_i hd
        have qa := snap_ok hr ry ea
        have qb := snapDs_ok (snapN_ok hr 6) xs dbs ys rys eb
        obtain ⟨z, h1, h2, h3⟩ := findIdx_pds da dbs k e2
        exact ⟨a, y, pd da, pds dbs, k, z, rfl, rfl, .lst sq qb.dp, qa.dp,
          shaped_of qb.lay (by show PyData.depthAll (pds dbs) + 1 ≤ 61; rw [← qb.dep]; omega), shaped_of qa.lay (by rw [← qa.dep]; omega), h1, h2, h3, PV.here q hr (.int _)⟩
      · cases e2
    · cases e2
theorem mt_setdM (hu : X.A.units + 80 < PySem.cLine) : L2.MtR X "dict.setdefault" (liftM X .setdefault) := by
  intro pins s σ H v vs v' us Q I rv' rvs' h
  obtain ⟨ρ, hp, ds, r, hr, rv, e, q⟩ := h
  rcases ds with _ | ⟨d, _ | ⟨d2, _ | ⟨d3, _ | ⟨d4, ds⟩⟩⟩⟩ <;> try (simp [bltS] at e; done)
  cases d <;> try (simp [bltS] at e; done)
  simp only [bltS, Option.bind_eq_some_iff] at e
  obtain ⟨kvs, e1, e2⟩ := e
  split at e2
  case isFalse => cases e2
  rename_i hk
  cases rv with
  | cons r1 r2 =>
    obtain ⟨y, z, rfl, ry, rz⟩ := r2.two_inv
    obtain ⟨a, rfl, ha⟩ := r1.ref_inv
    have hx := getK_at e1
    have hc := hr.ok _ a _ ha hx
    cases rv'
    obtain ⟨u1, u2, rfl, s1, s2⟩ := rvs'.two
    refine d_setdef (A := X.A) (E := X.xe) (by omega) I hc hk.1 ry s1 rz s2 hk.2 (fun x hx' vv w' s' I' rr rw' => ?_) fun hn w' s' o' I' rw' c' => ?_
    · rw [hx'] at e2
      cases e2
      exact ⟨vv, H, I', rw', PV.here q hr rr⟩
    · rw [hn] at e2
      cases e2
      obtain ⟨mu, u0, eu, cu⟩ := cell_mut hc
      have t : TK H (L2.upd H a o') := TK.put eu cu
      exact ⟨_, _, I', rw', q ρ _ _ (List.prefix_refl _) t (hr.put ha hx (fun _ z => nomatch z) eu cu (fun _ z => nomatch z) c') (rz.mono (List.prefix_refl _) t)⟩
theorem mt_getM (hu : X.A.units + 80 < PySem.cLine) : L2.MtR X "dict.get" (liftM X .get2) := by
  intro pins s σ H v vs v' us Q I rv' rvs' h
  obtain ⟨ρ, hp, ds, r, hr, rv, e, q⟩ := h
  rcases ds with _ | ⟨d, _ | ⟨d2, _ | ⟨d3, _ | ⟨d4, ds⟩⟩⟩⟩ <;> try (simp [bltS] at e; done)
  cases d <;> try (simp [bltS] at e; done)
  simp only [bltS, Option.bind_eq_some_iff] at e
  obtain ⟨kvs, e1, e2⟩ := e
  split at e2
  case isFalse => cases e2
  rename_i hk
  cases e2
  cases rv with
  | cons r1 r2 =>
    obtain ⟨y, z, rfl, ry, rz⟩ := r2.two_inv
    obtain ⟨a, rfl, ha⟩ := r1.ref_inv
    have hx := getK_at e1
    have hc := hr.ok _ a _ ha hx
    cases rv'
    obtain ⟨u1, u2, rfl, s1, s2⟩ := rvs'.two
    refine d_get2M (A := X.A) (E := X.xe) (by omega) I hc hk ry s1 rz s2 fun vv w' s' I' rr rw' => ?_
    exact ⟨vv, H, I', rw', PV.here q hr rr⟩

/-! ### o.m(..) -/
def isDM : Blt → Bool
  | .setdefault => true
  | .get2 => true
  | _ => false
theorem recv_ty {pins : List (Addr × Obj)} {s : PySem.Shared} {σ : L2.St} {H : LHp} {ρ : List Addr} {hp : Hm} (I : L2.Inv X pins σ H s) (hr : HRX X ρ hp H) {b : Blt} {d : D} {v : LV} {u : Value} (rx : RV X.K ρ H d v) (ru : L2.RelV v u) (h : recvOK b d hp = true) :
    s.TypeIs u (if isDM b = true then "dict" else "list") ∧ ∀ a, u = .ref a → ∃ ob, s.heap.get? a = some ob ∧ ob.dict = none := by
  have hl : ∀ i, d = .ref i → (getL hp i).isSome = true → s.TypeIs u "list" ∧ ∀ a, u = .ref a → ∃ ob, s.heap.get? a = some ob ∧ ob.dict = none := fun i hi hh => by
    subst hi
    obtain ⟨ds, hds⟩ := Option.isSome_iff_exists.mp hh
    obtain ⟨a, rfl, ha⟩ := rx.ref_inv
    obtain ⟨a', xs, ha', sq, _⟩ := hr.getL hds
    obtain rfl := ref_eq ha ha'
    exact L2.tyV_is I ru (.inl ⟨rfl, xs, sq⟩)
  have hd : ∀ i, d = .ref i → (getK hp i).isSome = true → s.TypeIs u "dict" ∧ ∀ a, u = .ref a → ∃ ob, s.heap.get? a = some ob ∧ ob.dict = none := fun i hi hh => by
    subst hi
    obtain ⟨ds, hds⟩ := Option.isSome_iff_exists.mp hh
    obtain ⟨a, rfl, ha⟩ := rx.ref_inv
    have hc := hr.ok _ a _ ha (getK_at hds)
    cases ru
    rcases hc with ⟨kvs', e1, r1, z⟩ | ⟨hs, o, e1, xs, es, ep, h1, h2, h3, h4, h5, h6, h7⟩
    · exact L2.tyV_is I (v := .ref a) (x := .ref a) rfl (.inr (.inr (.inl ⟨rfl, .inl ⟨_, e1⟩⟩)))
    · obtain ⟨q, _, _⟩ := I.hok a _ e1
      exact ⟨⟨o, q, h1.1⟩, fun b e => by cases e; exact ⟨o, q, h1.2.1⟩⟩
  cases d with
  | ref i => cases b <;> first | exact hl i rfl h | exact hd i rfl h | exact Bool.noConfusion h
  | _ => cases b <;> exact Bool.noConfusion h
theorem pe_methM {F : FnS} (hF : FMono F) {E : XP} {o : Expr} {es : List Expr} {c : CE} {cs : List CE} {name : Str} {apos cpos : PySem.Pos} {T id : String} {b : Blt} (hT : T = if isDM b = true then "dict" else "list")
    (pa : PySem.PlainAttrs T) (slot : PySem.Slot T name id) (hty : PySem.typeOf (.builtin id) = pure (.type "method_descriptor")) (hm : L2.MtR X id (liftM X b)) (ho : L2.PE X o (rE X (wpE F E c))) (ha : L2.PA X es (rA X (wpEs F E cs)))
    (hb : baseE o = true) (hl : (apos.endLine == cpos.line) = true) (hp : es.all plainE = true) (hn : es.length < 30) (hz : es = [] → cs = []) : L2.PE X (.Call (.Attribute o name apos) es [] cpos) (rE X (wpE F E (.meth b c cs))) := by
  refine ⟨fun pins s σ H Q I h => ?_⟩
  obtain ⟨ρ, env, hp0, hr, he, h⟩ := h
  unfold wpE at h
  refine PySem.wpAny_Call_method_late (base_of hb) ?_ hl rfl (L2.thn (ho.run pins s σ H (fun x H1 => ∃ ρ1 h1 d, HRX X ρ1 h1 H1 ∧ EnvR X.K ρ1 H1 env σ ∧ RV X.K ρ1 H1 d x ∧ recvOK b d h1 = true ∧ wpEs F E cs env h1 (fun ds h2 => ws (bltS b (d :: ds) h2) fun r => PVX X ρ1 H1 Q r.1 r.2)) I
    ⟨ρ, env, hp0, hr, he, wpE_mono hF c E env hp0 _ _ h fun d h1 q ρ1 H1 v p1 t1 hr1 rv1 => ⟨ρ1, h1, d, hr1, he.mono p1 t1, rv1, q.1, wpEs_mono hF cs E env h1 _ _ q.2 fun ds h2 q => ws_mono q fun r q => PV.weak p1 t1 q⟩⟩) ?_)
  · rw [all_plain hp]
    show (true && true && decide (es.length + 0 + 0 < 30)) = true
    simp [hn]
  · intro v s1 ⟨x, H1, I1, r1, ρ1, h1, d, hr1, he1, rd, ok, q⟩
    obtain ⟨ty1, ty2⟩ := recv_ty I1 hr1 rd r1 ok
    rw [← hT] at ty1
    have hA := ha.run cpos pins s1 σ H1 (fun vs H2 => liftM X b x vs H2 Q) I1 ⟨ρ1, env, h1, hr1, he1, wpEs_mono hF cs E env h1 _ _ q fun ds h2 q ρ2 H2 vs p2 t2 hr2 rv2 => by
      obtain ⟨r, e, q⟩ := ws_iff.mp q
      exact ⟨ρ2, h2, d :: ds, r, hr2, .cons (rd.mono p2 t2) rv2, e, PV.weak p2 t2 q⟩⟩
    refine ⟨T, id, pa, slot, hty, ty1, ty2, ?_⟩
    refine PySem.Calls.callWith_builtin (any_plain hp) ?_
    cases es with
    | nil =>
      refine PySem.evalArgs_none ?_
      obtain rfl := hz rfl
      unfold wpEs at q
      obtain ⟨r, e, q⟩ := ws_iff.mp q
      exact hm pins s1 σ H1 x [] v [] Q I1 r1 .nil ⟨ρ1, h1, [d], r, hr1, .cons rd .nil, e, q⟩
    | cons e es =>
      rw [List.all_cons, Bool.and_eq_true] at hp
      rw [star_plain hp.1] at hA ⊢
      exact PySem.Calls.evalArgs_plain (L2.thn hA fun us s2 ⟨vs, H2, I2, r2, q2⟩ => hm pins s2 σ H2 x vs v us Q I2 r1 r2 q2)
end
end M

end
section
set_option Elab.async false
set_option linter.all false
set_option autoImplicit false
set_option maxRecDepth 100000
set_option maxHeartbeats 4000000
/-! dict(..) of a list of pairs -/
namespace M
open PySem (Addr Obj Value Str PyData Heap NestedKey NestedIs Expr)
section
variable {X : L2.Cx} {K : PySem.W.Frag} {ρ : List Addr} {H : LHp}
theorem keyIn_leaf {kvs : List (D × D)} {k : D} (h : keyIn kvs k = true) (ht : isTup k = false) : ∃ kk, leafKey k = some kk := by
  unfold keyIn at h
  have := (Bool.and_eq_true_iff.mp h).1
  cases k <;> first | exact ⟨_, rfl⟩ | exact Bool.noConfusion this | exact Bool.noConfusion ht
theorem leaf_rvK {k : D} {kk : L2.Key} {kv : LV} (h : leafKey k = some kk) (r : RV K ρ H k kv) : kv = L2.kV kk := by
  cases k <;> simp only [leafKey] at h <;> first | (cases h; done) | skip
  · cases h; exact r.int_inv
  · cases h; exact r.str_inv.1
/-- the pairs of a list, in the layer's words -/
theorem pairs_inv : ∀ {ds : List D} {prs : List (D × D)} {vs : List LV}, pairsOf ds = some prs → RVs K ρ H ds vs → (∀ p ∈ prs, ∃ kk, leafKey p.1 = some kk) →
    ∃ (as : List Addr) (kvs : List (L2.Key × LV)), vs = as.map L2.V.ref ∧ PySem.Paired (fun p kv => L2.SqT K H p [L2.kV kv.1, kv.2]) as kvs ∧ LK K ρ H prs kvs
  | [], prs, vs, h, r, _ => by
    cases h
    cases r
    exact ⟨[], [], rfl, .nil, .nil⟩
  | .tup [k, v] :: ds, prs, vs, h, r, hl => by
    simp only [pairsOf, Option.map_eq_some_iff] at h
    obtain ⟨prs', h1, rfl⟩ := h
    cases r with
    | cons r1 r2 =>
      obtain ⟨as, kvs, rfl, q1, q2⟩ := pairs_inv h1 r2 fun p hp => hl p (List.mem_cons_of_mem _ hp)
      obtain ⟨a, xs, rfl, sq, rx⟩ := r1.tup_inv
      obtain ⟨x, y, rfl, rk, rv⟩ := rx.two_inv
      obtain ⟨kk, hk⟩ := hl (k, v) List.mem_cons_self
      obtain rfl := leaf_rvK hk rk
      exact ⟨a :: as, (kk, y) :: kvs, rfl, .cons sq q1, .cons hk rk rv q2⟩
  | .tup [] :: _, _, _, h, _, _ => by simp [pairsOf] at h
  | .tup [_] :: _, _, _, h, _, _ => by simp [pairsOf] at h
  | .tup (_ :: _ :: _ :: _) :: _, _, _, h, _, _ => by simp [pairsOf] at h
  | .non :: _, _, _, h, _, _ => by simp [pairsOf] at h
  | .bl _ :: _, _, _, h, _, _ => by simp [pairsOf] at h
  | .int _ :: _, _, _, h, _, _ => by simp [pairsOf] at h
  | .str _ :: _, _, _, h, _, _ => by simp [pairsOf] at h
  | .lst _ :: _, _, _, h, _, _ => by simp [pairsOf] at h
  | .ref _ :: _, _, _, h, _, _ => by simp [pairsOf] at h
theorem merge_inv : ∀ {prs kvs kvs2 : List (D × D)} {ps kvs' : List (L2.Key × LV)}, mergeK kvs prs = some kvs2 → LK K ρ H prs ps → LK K ρ H kvs kvs' → LK K ρ H kvs2 (L2.mergeK kvs' ps) ∧ kvs2.length ≤ kvs.length + prs.length
  | [], kvs, kvs2, ps, kvs', h, r, q => by
    simp only [mergeK] at h
    cases h
    cases r
    exact ⟨q, by simp⟩
  | (k, v) :: prs, kvs, kvs2, ps, kvs', h, r, q => by
    simp only [mergeK] at h
    split at h
    · cases r with
      | cons hk rk rv r2 =>
        obtain ⟨a, b⟩ := merge_inv h r2 (q.put hk rk rv)
        refine ⟨a, ?_⟩
        have := dput_length kvs k v
        rw [List.length_cons]
        omega
    · cases h
theorem call_dictLeaf (hcalm : X.calm = true) {pins : List (Addr × Obj)} {s : PySem.Shared} {σ : L2.St} {us : List Value} {H : LHp} {Q : L2.VK} {hp : Hm} {d : D} {v : LV} {xs : List D} {prs kvs : List (D × D)} (I : L2.Inv X pins σ H s) (rx : L2.Vals [v] us) (hr : HRX X ρ hp H) (r1 : RV X.K ρ H d v) (e1 : lstOf hp d = some xs) (e2 : pairsOf xs = some prs) (hall : (prs.all fun p => leafB p.1) = true) (hlen : prs.length ≤ LIM) (e4 : mergeK [] prs = some kvs) (q : PVX X ρ H Q (.ref hp.length) (hp ++ [.dct kvs])) :
    PySem.wpAny (PySem.model X.prog X.w) X.A (PySem.call (.type "dict") us) (L2.EP X pins σ Q) X.xe s := by
  obtain ⟨a, ys, rfl, sq, rys⟩ := lst_arg hr r1 e1
  have hleaf : ∀ p ∈ prs, ∃ kk, leafKey p.1 = some kk := fun p hp => by
    have := List.all_eq_true.mp hall p hp
    unfold leafB at this
    cases hk : p.1 <;> rw [hk] at this <;> first | exact ⟨_, rfl⟩ | exact Bool.noConfusion this
  obtain ⟨as, kvs', rfl, q1, q2⟩ := pairs_inv e2 rys hleaf
  obtain ⟨m1, m2⟩ := merge_inv e4 q2 .nil
  refine L2.call_dictP hcalm pins s σ H _ us Q I rx ⟨a, as, kvs', rfl, sq, q1, fun p hp' => ?_⟩
  have t : TK H (L2.upd H p (.dK (L2.mergeK [] kvs'))) := TK.new hp'
  have c : CellOk X.prog X.w X.K (ρ ++ [p]) (L2.upd H p (.dK (L2.mergeK [] kvs'))) p (.dct kvs) := .inl ⟨_, L2.upd_same, m1.mono (pre_snoc _ _) t, by simp at m2; omega⟩
  have hr' := hr.alloc hp' c fun _ z => nomatch z
  exact q (ρ ++ [p]) _ _ (pre_snoc _ _) t hr' (.ref (by rw [← hr.len]; simp))
/-! ### keys that are tuples -/
/-- a pair of the list: its tuple, its key, the key's tuple, its value -/
def PairT (X : L2.Cx) (ρ : List Addr) (H : LHp) (s : PySem.Shared) (p : D × D) (t : Addr × NestedKey × Addr × Value) : Prop :=
  ∃ ks vv, p.1 = .tup ks ∧ t.2.1 = nkey (.tup ks) ∧ keyOK (.tup ks) = true ∧ RV X.K ρ H (.tup ks) (.ref t.2.2.1) ∧ RV X.K ρ H p.2 vv ∧ L2.RelV vv t.2.2.2 ∧ s.heap.IsTuple t.1 #[.ref t.2.2.1, t.2.2.2]
inductive PairsT (X : L2.Cx) (ρ : List Addr) (H : LHp) (s : PySem.Shared) : List (D × D) → List (Addr × NestedKey × Addr × Value) → Prop
  | nil : PairsT X ρ H s [] []
  | cons {p : D × D} {t : Addr × NestedKey × Addr × Value} {ps : List (D × D)} {ts : List (Addr × NestedKey × Addr × Value)} : PairT X ρ H s p t → PairsT X ρ H s ps ts → PairsT X ρ H s (p :: ps) (t :: ts)
theorem PairsT.length {s : PySem.Shared} : ∀ {ps : List (D × D)} {ts : List (Addr × NestedKey × Addr × Value)}, PairsT X ρ H s ps ts → ts.length = ps.length
  | _, _, .nil => rfl
  | _, _, .cons _ r => congrArg (· + 1) r.length
theorem PairsT.mem {s : PySem.Shared} : ∀ {ps : List (D × D)} {ts : List (Addr × NestedKey × Addr × Value)}, PairsT X ρ H s ps ts → ∀ t ∈ ts, ∃ p, PairT X ρ H s p t
  | _, _, .nil, _, h => nomatch h
  | _, _, .cons a r, t, h => by
    rcases List.mem_cons.mp h with rfl | h
    · exact ⟨_, a⟩
    · exact r.mem t h
theorem pairsT {pins : List (Addr × Obj)} {s : PySem.Shared} {σ : L2.St} (I : L2.Inv X pins σ H s) : ∀ {ds : List D} {prs : List (D × D)} {vs : List LV} {us : List Value}, pairsOf ds = some prs → RVs X.K ρ H ds vs → L2.Vals vs us → (∀ p ∈ prs, isTup p.1 = true ∧ keyOK p.1 = true) →
    ∃ ts : List (Addr × NestedKey × Addr × Value), us = ts.map (fun t => Value.ref t.1) ∧ PairsT X ρ H s prs ts
  | [], prs, vs, us, h, r, ru, _ => by
    cases h
    cases r
    cases ru
    exact ⟨[], rfl, .nil⟩
  | .tup [k, v] :: ds, prs, vs, us, h, r, ru, hl => by
    simp only [pairsOf, Option.map_eq_some_iff] at h
    obtain ⟨prs', h1, rfl⟩ := h
    cases r with
    | cons r1 r2 =>
      cases ru with
      | cons u1 u2 =>
        obtain ⟨ts, rfl, q1⟩ := pairsT I h1 r2 u2 fun p hp => hl p (List.mem_cons_of_mem _ hp)
        obtain ⟨a, xs, rfl, sq, rx⟩ := r1.tup_inv
        obtain ⟨x, y, rfl, rk, rv⟩ := rx.two_inv
        cases u1
        obtain ⟨hk1, hk2⟩ := hl (k, v) List.mem_cons_self
        cases k <;> simp only [isTup] at hk1 <;> first | exact Bool.noConfusion hk1 | skip
        rename_i ks
        obtain ⟨b, ys, rfl, _, _⟩ := id rk.tup_inv
        obtain ⟨its, ri, pl, hz⟩ := I.tuple sq
        cases ri with
        | cons i1 i2 =>
          cases i2 with
          | cons i3 i4 =>
            cases i4
            cases i1
            exact ⟨(a, nkey (.tup ks), b, _) :: ts, rfl, .cons ⟨ks, y, rfl, rfl, hk2, rk, rv, i3, pl⟩ q1⟩
  | .tup [] :: _, _, _, _, h, _, _, _ => by simp [pairsOf] at h
  | .tup [_] :: _, _, _, _, h, _, _, _ => by simp [pairsOf] at h
  | .tup (_ :: _ :: _ :: _) :: _, _, _, _, h, _, _, _ => by simp [pairsOf] at h
  | .non :: _, _, _, _, h, _, _, _ => by simp [pairsOf] at h
  | .bl _ :: _, _, _, _, h, _, _, _ => by simp [pairsOf] at h
  | .int _ :: _, _, _, _, h, _, _, _ => by simp [pairsOf] at h
  | .str _ :: _, _, _, _, h, _, _, _ => by simp [pairsOf] at h
  | .lst _ :: _, _, _, _, h, _, _, _ => by simp [pairsOf] at h
  | .ref _ :: _, _, _, _, h, _, _, _ => by simp [pairsOf] at h
theorem merge_keyOK : ∀ {prs kvs r : List (D × D)}, mergeK kvs prs = some r → ∀ p ∈ prs, keyOK p.1 = true
  | [], _, _, _, _, hp => nomatch hp
  | (k, v) :: prs, kvs, r, h, p, hp => by
    simp only [mergeK] at h
    split at h
    · rename_i hk
      rcases List.mem_cons.mp hp with rfl | hp
      · unfold keyIn at hk; exact (Bool.and_eq_true_iff.mp hk).1
      · exact merge_keyOK h p hp
    · cases h
theorem merge_ne : ∀ {prs kvs r : List (D × D)}, mergeK kvs prs = some r → kvs ≠ [] ∨ prs ≠ [] → r ≠ []
  | [], kvs, r, h, q => by
    simp only [mergeK] at h
    cases h
    exact q.resolve_right (fun z => z rfl)
  | (k, v) :: prs, kvs, r, h, _ => by
    simp only [mergeK] at h
    split at h
    · exact merge_ne h (.inl dput_ne)
    · cases h
theorem merge_len : ∀ {prs kvs r : List (D × D)}, mergeK kvs prs = some r → r.length ≤ kvs.length + prs.length
  | [], kvs, r, h => by simp only [mergeK] at h; cases h; simp
  | (k, v) :: prs, kvs, r, h => by
    simp only [mergeK] at h
    split at h
    · have := merge_len h
      have := dput_length kvs k v
      rw [List.length_cons]
      omega
    · cases h
theorem merge_T {s : PySem.Shared} : ∀ {prs kvs r : List (D × D)} {ts : List (Addr × NestedKey × Addr × Value)} {xs : List (NestedKey × Addr × Value)}, mergeK kvs prs = some r → PairsT X ρ H s prs ts → TKs X.K ρ H kvs xs → TKs X.K ρ H r (PySem.storedAllH xs (ts.map (·.2)))
  | [], kvs, r, ts, xs, h, p, q => by
    simp only [mergeK] at h
    cases h
    cases p
    exact q
  | (k, v) :: prs, kvs, r, ts, xs, h, p, q => by
    simp only [mergeK] at h
    split at h
    · rename_i hk
      cases p with
      | cons p1 p2 =>
        obtain ⟨ks, vv, e1, e2, e3, e4, e5, e6, e7⟩ := p1
        rename_i t _
        obtain ⟨a, nk, b, u⟩ := t
        have e5 : RV X.K ρ H v vv := e5
        have e6 : L2.RelV vv u := e6
        have e4 : RV X.K ρ H (.tup ks) (.ref b) := e4
        have e1 : k = .tup ks := e1
        have e2 : nk = nkey (.tup ks) := e2
        subst e1
        subst e2
        exact merge_T (xs := PySem.storedH xs (nkey (.tup ks)) b u) h p2 (q.put e3 e4 e5 e6)
    · cases h
theorem call_dictM (hcalm : X.calm = true) (hu : X.A.units + 12 < PySem.cLine) : L2.CallR X (.type "dict") (liftA X (bltS .dict)) := by
  intro pins s σ H vs us Q I rx h
  obtain ⟨ρ, hp, ds, r, hr, rv, e, q⟩ := h
  rcases ds with _ | ⟨d, _ | ⟨d2, ds⟩⟩ <;> try (simp [bltS] at e; done)
  simp only [bltS, Option.bind_eq_some_iff] at e
  obtain ⟨prs, ⟨xs, e1, e2⟩, e3⟩ := e
  split at e3
  case isFalse => cases e3
  rename_i hc
  obtain ⟨kvs, e4, e5⟩ := Option.bind_eq_some_iff.mp e3
  have e6 := newC_inv e5
  subst e6
  obtain ⟨v, rfl, r1⟩ := rv.one_inv
  by_cases hl : (prs.all fun p => leafB p.1) = true
  · exact call_dictLeaf hcalm I rx hr r1 e1 e2 hl hc.2 e4 q
  have ht := hc.1.resolve_left hl
  have hne : prs ≠ [] := fun z => hl (by rw [z]; rfl)
  obtain ⟨a, ys, rfl, sq, rys⟩ := lst_arg hr r1 e1
  obtain ⟨u, rfl, ru⟩ := L2.vals1 rx
  cases ru
  obtain ⟨its, rv', pl, hz⟩ := I.list sq
  obtain ⟨o, n, ho, ho1, ho2, ho3⟩ := pl
  have hkk := merge_keyOK e4
  obtain ⟨ts, rfl, PT⟩ := pairsT I e2 rys rv' fun p hp => ⟨List.all_eq_true.mp ht p hp, hkk p hp⟩
  have hlen : ts.length = prs.length := PT.length
  have key : ∀ t ∈ ts, (PySem.nestedKind X.prog X.w).is s.heap t.2.1 t.2.2.1 := fun t ht => by
    obtain ⟨p, ks, vv, e1, e2, e3, e4, _⟩ := PT.mem t ht
    rw [e2]
    exact key_at I e3 e4
  have at_ : ∀ (j : Nat) (t : Addr × NestedKey × Addr × Value), ts[j]? = some t → s.heap.IsTuple t.1 #[.ref t.2.2.1, t.2.2.2] := fun j t hj => by
    obtain ⟨p, ks, vv, _, _, _, _, _, _, e7⟩ := PT.mem t (List.mem_of_getElem? hj)
    exact e7
  have inv : ∀ (j : Nat) (k v : Value), (ts.map fun t => (Value.ref t.2.2.1, t.2.2.2))[j]? = some (k, v) → ∃ t, ts[j]? = some t ∧ k = .ref t.2.2.1 ∧ v = t.2.2.2 := fun j k v h => by
    rw [List.getElem?_map, Option.map_eq_some_iff] at h
    obtain ⟨t, h1, h2⟩ := h
    cases h2
    exact ⟨t, h1, rfl, rfl⟩
  refine PySem.call_dict_pairsH (knd := PySem.nestedKind X.prog X.w) (ps := ts.map (·.2))
    (PySem.PairArg.list (prog := X.prog) (w := X.w) a (ts.map fun t => Value.ref t.1).toArray (fun j => ((ts[j]?).map (·.1)).getD 0) (ts.map fun t => (Value.ref t.2.2.1, t.2.2.2)))
    (I.ok.hd hcalm) (show X.A.in1.in1.units + 8 < PySem.cLine from by show X.A.units + 1 + 1 + 8 < PySem.cLine; omega) ⟨⟨o, n, ho, ho1, ho2, ho3⟩, by simp, fun j k v hj => ?_⟩ ⟨by simp, fun j k v hj => ?_⟩ (fun h' hk x hx => ?_) (by rw [List.length_map, hlen, lim_eq]; exact hc.2) fun h' tk hd' hk => ?_
  · obtain ⟨t, h1, rfl, rfl⟩ := inv j k v hj
    exact ⟨by simp [h1], .inl (by simp only [h1, Option.map_some, Option.getD_some]; exact at_ j t h1)⟩
  · obtain ⟨t, h1, rfl, rfl⟩ := inv j k v hj
    exact ⟨t.2.1, t.2.2.1, by simp [h1], rfl⟩
  · obtain ⟨t, ht, rfl⟩ := List.mem_map.mp hx
    have := key t ht
    exact ⟨NestedIs.at (fun b ob ws n hb _ => hk b ob (Nat.ne_of_lt (Heap.lt_size hb)) (by simp) hb) _ _ this.1, this.2⟩
  · obtain ⟨o', es, ep, q1, q2, q3, q4, q5, q6⟩ := hd'
    have hm : (s.heap.objs.size == PySem.sysModules) = false := beq_eq_false_iff_ne.mpr (Nat.ne_of_gt I.big)
    have hn := I.hok.fresh (Nat.le_refl _)
    have t : TK H (L2.upd H s.heap.objs.size (.ext fun h => h.get? s.heap.objs.size = some o')) := TK.new hn
    have hT := (merge_T e4 PT .nil).mono (pre_snoc ρ s.heap.objs.size) t
    have hlr := merge_len e4
    have c : CellOk X.prog X.w X.K (ρ ++ [s.heap.objs.size]) (L2.upd H s.heap.objs.size (.ext fun h => h.get? s.heap.objs.size = some o')) s.heap.objs.size (.dct kvs) :=
      .inr ⟨hm, o', L2.upd_same, _, es, ep, q2, q3, q4, q6, hT, merge_ne e4 (.inr hne), by have := hc.2; rw [List.length_nil] at hlr; omega⟩
    have hr' := hr.alloc hn c fun _ z => nomatch z
    exact ⟨.ref s.heap.objs.size, _, I.laid (o := .ext fun h => h.get? s.heap.objs.size = some o') (t' := tk) (fun b ob e => hk b ob (by simp) e) (Nat.le_refl _) ⟨q1, ⟨o', q1⟩, fun h1 h2 p k => k _ p⟩, rfl, q (ρ ++ [s.heap.objs.size]) _ _ (pre_snoc _ _) t hr' (.ref (by rw [← hr.len]; simp))⟩
end
end M

end
section
set_option Elab.async false
set_option linter.all false
set_option autoImplicit false
set_option maxRecDepth 100000
set_option maxHeartbeats 4000000
/-! x[::-1] of a tuple, at the model's level -/
namespace M
theorem fmc {α β : Type} {f g : α → Option β} : ∀ {l : List α}, (∀ x ∈ l, f x = g x) → l.filterMap f = l.filterMap g
  | [], _ => rfl
  | x :: l, h => by
    rw [List.filterMap_cons, List.filterMap_cons, h x List.mem_cons_self, fmc fun y hy => h y (List.mem_cons_of_mem _ hy)]
section
open PySem PySem.Spec PyProof.Rows HT
variable {prog : Program} {w : World} {A : Around} {E : Value → Shared → Prop} {s : Shared}
theorem places_rev (n : Nat) : Builtin.Slice.slicePlaces ((n : Int) - 1) (-1) (-1) = n := by
  unfold Builtin.Slice.slicePlaces
  rw [if_neg (by decide)]
  by_cases h : (n : Int) - 1 > -1
  · rw [if_pos h, show (- -1 : Int) = 1 from by decide, Int.ediv_one]
    omega
  · rw [if_neg h]
    omega
theorem sliceApplied_rev {sl : Addr} {vl vu vs : Value} {n : Nat} {Q : Int × Int × Nat → Shared → Prop} (hs : s.heap.IsSliceOf sl vl vu vs) (pl : IsPart vl none) (pu : IsPart vu none) (ps : IsPart vs (some (-1)))
    (h : Q ((n : Int) - 1, -1, n) s) : wpAny (model prog w) A (Builtin.Slice.sliceApplied (.ref sl) (pure (n : Int))) Q E s := by
  obtain ⟨os, hos, hcs, hds⟩ := id hs
  unfold Builtin.Slice.sliceApplied Builtin.Slice.sliceFields
  refine wpAny_bind (wpAny_bind (wpAny_field hos hds (x := vl) rfl (wpAny_bind (wpAny_field hos hds (x := vu) rfl (wpAny_bind (wpAny_field hos hds (x := vs) rfl (wpAny_pure ?_)))))))
  refine wpAny_bind (slicePart_ ps ?_)
  show wpAny _ _ (if ((-1 : Int) == 0) = true then _ else _) _ _ s
  rw [if_neg (by decide)]
  refine wpAny_bind (slicePart_ pl (wpAny_bind (slicePart_ pu (wpAny_bind (wpAny_pure ?_)))))
  show wpAny _ _ (match Builtin.Slice.sliceAdjust none none (-1) (n : Int) with | (lo, hi) => pure (lo, (-1 : Int), Builtin.Slice.slicePlaces lo hi (-1))) _ _ s
  have e : Builtin.Slice.sliceAdjust none none (-1) (n : Int) = ((n : Int) - 1, -1) := by
    unfold Builtin.Slice.sliceAdjust
    simp
  rw [e]
  show wpAny _ _ (pure (((n : Int) - 1), (-1 : Int), Builtin.Slice.slicePlaces ((n : Int) - 1) (-1) (-1))) _ _ s
  rw [places_rev]
  exact wpAny_pure h
theorem pick_rev (xs : Array Value) : ((List.range xs.size).filterMap fun (m : Nat) => xs[(((xs.size : Int) - 1) + (m : Int) * (-1)).toNat]?).toArray = xs.toList.reverse.toArray := by
  have e : ((List.range xs.size).filterMap fun (m : Nat) => xs[(((xs.size : Int) - 1) + (m : Int) * (-1)).toNat]?) = ((List.range xs.size).map fun k => xs.size - 1 - k).filterMap (xs[·]?) := by
    rw [List.filterMap_map]
    refine M.fmc fun m hm => ?_
    have := List.mem_range.mp hm
    show xs[(((xs.size : Int) - 1) + (m : Int) * (-1)).toNat]? = xs[xs.size - 1 - m]?
    congr 1
    omega
  rw [e, PySem.W.krv_range, List.filterMap_reverse, PySem.W.krv_all]
theorem getItem_tuple_rev {t sl : Addr} {items : Array Value} {vl vu vs : Value} {Q : Value → Shared → Prop} (ht : IsTup s.heap t items) (hs : s.heap.IsSliceOf sl vl vu vs) (pl : IsPart vl none) (pu : IsPart vu none) (ps : IsPart vs (some (-1)))
    (h : Q (.ref s.heap.objs.size) { s with heap := s.heap.push { cls := .type "tuple", data := .seq items.toList.reverse.toArray } })
    (hsz : items.size ≤ sizeLine) : wpAny (model prog w) A (getItem (.ref t) (.ref sl)) Q E s := by
  have htake : sizeOk (.seq items.toList.reverse.toArray) := by
    show items.toList.reverse.toArray.size ≤ sizeLine
    rw [List.size_toArray, List.length_reverse, Array.length_toList]
    exact hsz
  obtain ⟨os, hos, hcs, hds⟩ := id hs
  have hTs : s.TypeIs (.ref sl) "slice" := ⟨os, hos, hcs⟩
  unfold getItem
  try with_reducible refine wpAny_holding ?_
  first | refine wpAny_bind (wpAny_pure ?_) | skip
  refine wpAny_bind (wpAny_sequenceKey ht.typeIs (by decide) ?_)
  refine wpAny_bind (wpAny_callSpecial?_slot (name := Str.ofString "__getitem__") ht.typeIs PyProof.Rows.slot_tuple_getitem
    (wpAny_call_entry PyProof.Rows.slot_tuple_getitem ht.typeIs entry_tuple_getitem ?_ (args_tuple_getitem _ _)))
  show wpAny _ _ (Builtin.Tuple.tupleItemsOf (.ref t) >>= _) _ _ s
  refine wpAny_bind (tupleItemsOf_ ht ?_)
  refine wpAny_bind (wpAny_typeOf hTs ?_)
  rw [if_pos (by decide)]
  refine wpAny_bind (sliceApplied_rev hs pl pu ps ?_)
  have hno : ¬ ((((items.size : Int) - 1) == 0 && (-1 : Int) == 1 && items.size == items.size) = true) := by
    intro q
    rw [Bool.and_eq_true, Bool.and_eq_true] at q
    exact absurd q.1.2 (by decide)
  show wpAny _ _ (if (((items.size : Int) - 1) == 0 && (-1 : Int) == 1 && items.size == items.size) = true then _ else _) _ _ s
  rw [if_neg hno, pick_rev]
  first
    | exact wpAny_bind (m := Builtin.Tuple.tupleExact _) (wpAny_newObj_type (wpAny_pure ⟨_, rfl, wpAny_pure h⟩) htake)
    | exact wpAny_bind (m := Builtin.Tuple.tupleExact _) (wpAny_newObj_type (wpAny_bind (wpAny_pure (wpAny_pure ⟨_, rfl, wpAny_pure h⟩))) htake)
    | exact wpAny_bind (wpAny_bind (m := Builtin.Tuple.tupleExact _) (wpAny_newObj_type (wpAny_pure (wpAny_pure ⟨_, rfl, wpAny_pure h⟩)) htake))
    | exact wpAny_bind (wpAny_bind (m := Builtin.Tuple.tupleExact _) (wpAny_newObj_type (wpAny_pure ⟨_, rfl, wpAny_pure h⟩) htake))
end
end M

end
section
set_option Elab.async false
set_option linter.all false
set_option autoImplicit false
set_option maxRecDepth 100000
set_option maxHeartbeats 4000000
/-! expressions -/
namespace M
open PySem (Addr Obj Value Str PyData Heap NestedKey Expr)
abbrev WA (X : L2.Cx) {α : Type} (t : PySem.Sem α) (Q : α → PySem.Shared → Prop) (s : PySem.Shared) : Prop := PySem.wpAny (PySem.model X.prog X.w) X.A t Q X.xe s
structure Now (X : L2.Cx) (pins : List (Addr × Obj)) (σ : L2.St) (env : Env) (ρ : List Addr) (hp : Hm) (H : LHp) (s : PySem.Shared) : Prop where
  I : L2.Inv X pins σ H s
  hr : HRX X ρ hp H
  he : EnvR X.K ρ H env σ
section
variable {X : L2.Cx} {F : FnS} (hF : FMono F) {E : XP} {pins : List (Addr × Obj)} {σ : L2.St} {env : Env} {ρ : List Addr} {hp : Hm} {H : LHp} {s : PySem.Shared}
/-- an expression's meaning as a reading -/
abbrev RE (X : L2.Cx) (F : FnS) (E : XP) (c : CE) : L2.TE := rE X (wpE F E c)
abbrev RT (X : L2.Cx) (F : FnS) (E : XP) (c : CE) : L2.TT := rdT X.prog X.w X.K (wpE F E c)
abbrev RA (X : L2.Cx) (F : FnS) (E : XP) (cs : List CE) : L2.TA := rA X (wpEs F E cs)
include hF
theorem ev {e : Expr} {c : CE} (h : L2.PE X e (RE X F E c)) (N : Now X pins σ env ρ hp H s) {Q' : VQ} (w : wpE F E c env hp Q') {Q : Value → PySem.Shared → Prop}
    (k : ∀ v s' d x ρ' hp' H', Now X pins σ env ρ' hp' H' s' → ρ <+: ρ' → TK H H' → RV X.K ρ' H' d x → L2.RelV x v → Q' d hp' → Q v s') : WA X (PySem.eval e X.env) Q s := by
  refine L2.thn (h.run pins s σ H (fun x H' => ∃ ρ' hp' d, ρ <+: ρ' ∧ TK H H' ∧ HRX X ρ' hp' H' ∧ RV X.K ρ' H' d x ∧ Q' d hp') N.I ⟨ρ, env, hp, N.hr, N.he, wpE_mono hF c E env hp _ _ w fun d h1 q ρ' H' v p t hr rv => ⟨ρ', h1, d, p, t, hr, rv, q⟩⟩) ?_
  intro v s' ⟨x, H', I', ru, ρ', hp', d, p, t, hr, rv, q⟩
  exact k v s' d x ρ' hp' H' ⟨I', hr, N.he.mono p t⟩ p t rv ru q
theorem evT {e : Expr} {c : CE} (h : L2.PT X e (RT X F E c)) (N : Now X pins σ env ρ hp H s) {R : Bool → Hm → Prop} (w : wpE F E c env hp fun d h1 => ws (truth h1 d) fun k => R k h1) {Q : Bool → PySem.Shared → Prop}
    (k : ∀ b s' ρ' hp' H', Now X pins σ env ρ' hp' H' s' → ρ <+: ρ' → TK H H' → R b hp' → Q b s') : WA X (PySem.isTrue e X.env (PySem.eval e X.env)) Q s := by
  refine L2.thn (h.run pins s σ H (fun b H' => ∃ ρ' hp', ρ <+: ρ' ∧ TK H H' ∧ HRX X ρ' hp' H' ∧ R b hp') N.I ⟨ρ, env, hp, N.hr, N.he, wpE_mono hF c E env hp _ _ w fun d h1 q => ws_mono q fun b q ρ' H' p t hr => ⟨ρ', h1, p, t, hr, q⟩⟩) ?_
  intro b s' ⟨H', I', ρ', hp', p, t, hr, q⟩
  exact k b s' ρ' hp' H' ⟨I', hr, N.he.mono p t⟩ p t q
theorem evA {es : List Expr} {cs : List CE} (h : L2.PA X es (RA X F E cs)) (N : Now X pins σ env ρ hp H s) {Q' : List D → Hm → Prop} (w : wpEs F E cs env hp Q') {Q : List Value → PySem.Shared → Prop} {pos : PySem.Pos}
    (k : ∀ us s' ds xs ρ' hp' H', Now X pins σ env ρ' hp' H' s' → ρ <+: ρ' → TK H H' → RVs X.K ρ' H' ds xs → L2.Vals xs us → Q' ds hp' → Q us s') : WA X (PySem.spliced (PySem.backTo pos (PySem.starEach es X.env))) Q s := by
  refine L2.thn (h.run pos pins s σ H (fun xs H' => ∃ ρ' hp' ds, ρ <+: ρ' ∧ TK H H' ∧ HRX X ρ' hp' H' ∧ RVs X.K ρ' H' ds xs ∧ Q' ds hp') N.I ⟨ρ, env, hp, N.hr, N.he, wpEs_mono hF cs E env hp _ _ w fun d h1 q ρ' H' v p t hr rv => ⟨ρ', h1, d, p, t, hr, rv, q⟩⟩) ?_
  intro v s' ⟨x, H', I', ru, ρ', hp', d, p, t, hr, rv, q⟩
  exact k v s' d x ρ' hp' H' ⟨I', hr, N.he.mono p t⟩ p t rv ru q
omit hF in
/-- a reading from its start -/
theorem peI {e : Expr} {c : CE} (h : ∀ pins s σ H Q ρ env hp, Now X pins σ env ρ hp H s → wpE F E c env hp (PVX X ρ H Q) → WA X (PySem.eval e X.env) (L2.EP X pins σ Q) s) : L2.PE X e (RE X F E c) :=
  ⟨fun pins s σ H Q I ⟨ρ, env, hp, hr, he, w⟩ => h pins s σ H Q ρ env hp ⟨I, hr, he⟩ w⟩
omit hF in
theorem ptI {e : Expr} {c : CE} (h : ∀ pins s σ H Q ρ env hp, Now X pins σ env ρ hp H s → wpE F E c env hp (PB X.prog X.w X.K ρ H Q) → WA X (PySem.isTrue e X.env (PySem.eval e X.env)) (L2.TP X pins σ Q) s) : L2.PT X e (RT X F E c) :=
  ⟨fun pins s σ H Q I ⟨ρ, env, hp, hr, he, w⟩ => h pins s σ H Q ρ env hp ⟨I, hr, he⟩ w⟩
omit hF in
theorem Now.fin {Q : L2.VK} {v : Value} {ρ' : List Addr} {hp' : Hm} {H' : LHp} {s' : PySem.Shared} {d : D} {x : LV} (N : Now X pins σ env ρ' hp' H' s') (p : ρ <+: ρ') (t : TK H H') (rv : RV X.K ρ' H' d x) (ru : L2.RelV x v) (q : PVX X ρ H Q d hp') : L2.EP X pins σ Q v s' :=
  ⟨x, H', N.I, ru, q ρ' H' x p t N.hr rv⟩
omit hF in
theorem Now.finB {Q : Bool → LHp → Prop} {ρ' : List Addr} {hp' : Hm} {H' : LHp} {s' : PySem.Shared} {b : Bool} (N : Now X pins σ env ρ' hp' H' s') (p : ρ <+: ρ') (t : TK H H') (q : ∀ (ρ' : List Addr) (H' : LHp), ρ <+: ρ' → TK H H' → HR X.prog X.w X.K ρ' hp' H' → Q b H') : L2.TP X pins σ Q b s' :=
  ⟨H', N.I, q ρ' H' p t N.hr⟩

theorem wpEs_len : ∀ (cs : List CE) (env : Env) (h : Hm) (Q : List D → Hm → Prop), wpEs F E cs env h Q → wpEs F E cs env h fun ds h1 => ds.length = cs.length ∧ Q ds h1
  | [], env, h, Q, a => by unfold wpEs at a ⊢; exact ⟨rfl, a⟩
  | c :: cs, env, h, Q, a => by
    unfold wpEs at a ⊢
    exact wpE_mono hF c E env h _ _ a fun d h1 q => wpEs_mono hF cs E env h1 _ _ (wpEs_len cs env h1 _ q) fun ds h2 q => ⟨by rw [List.length_cons, List.length_cons, q.1], q.2⟩
/-! ### displays -/
theorem pe_tupM {es : List Expr} {cs : List CE} {x1 : Nat} {pos : PySem.Pos} (h : L2.PA X es (RA X F E cs)) (hn : cs.length ≤ LIM) : L2.PE X (.Tuple es x1 pos) (RE X F E (.tup cs)) :=
  PE.imp (L2.pe_tup h) fun σ H Q ⟨ρ, env, hp, hr, he, w⟩ => by
    unfold wpE at w
    refine ⟨ρ, env, hp, hr, he, wpEs_mono hF cs E env hp _ _ (wpEs_len hF cs env hp _ w) fun ds h1 q ρ1 H1 vs p1 t1 hr1 rv1 => ⟨by rw [← rv1.length, q.1, lim_eq]; exact hn, fun p hp' => ?_⟩⟩
    exact PV.newT (PV.weak p1 t1 q.2) hr1 rv1 hp'
theorem pe_lstM {es : List Expr} {cs : List CE} {pos : PySem.Pos} (h : L2.PA X es (RA X F E cs)) (hn : cs.length ≤ LIM) : L2.PE X (.List es pos) (RE X F E (.lst cs)) :=
  PE.imp (L2.pe_lst h) fun σ H Q ⟨ρ, env, hp, hr, he, w⟩ => by
    unfold wpE at w
    refine ⟨ρ, env, hp, hr, he, wpEs_mono hF cs E env hp _ _ (wpEs_len hF cs env hp _ w) fun ds h1 q ρ1 H1 vs p1 t1 hr1 rv1 => ⟨by rw [← rv1.length, q.1, lim_eq]; exact hn, fun p hp' => ?_⟩⟩
    exact PV.newL (PV.weak p1 t1 q.2) hr1 rv1 hp'
omit hF in
theorem pe_dnewM {pos : PySem.Pos} : L2.PE X (.Dict [] [] pos) (RE X F E (.dct [])) :=
  PE.imp L2.pe_dnewK fun σ H Q ⟨ρ, env, hp, hr, he, w⟩ => by
    unfold wpE wpEs at w
    intro p hp'
    have c : CellOk X.prog X.w X.K (ρ ++ [p]) (L2.upd H p (.dK [])) p (.dct []) := .inl ⟨[], L2.upd_same, .nil, Nat.zero_le _⟩
    have hr' := hr.alloc hp' c fun _ z => nomatch z
    exact w (ρ ++ [p]) _ _ (pre_snoc _ _) (TK.new hp') hr' (.ref (by rw [← hr.len]; simp))

/-! ### operators -/
theorem pe_binM {a b : Expr} {ca cb : CE} {op : PySem.Operator} {o : Bop} {pos : PySem.Pos} (ho : L2.OpR X (PySem.binaryOp op) (liftR X (binS o))) (ha : L2.PE X a (RE X F E ca)) (hb : L2.PE X b (RE X F E cb)) : L2.PE X (.BinOp a op b pos) (RE X F E (.bin o ca cb)) :=
  PE.imp (L2.pe_op ho ha hb) fun σ H Q h => rd_bin hF (S := binS o) (by
    obtain ⟨ρ, env, hp, hr, he, w⟩ := h
    unfold wpE at w
    exact ⟨ρ, env, hp, hr, he, w⟩)
theorem pe_negM {a : Expr} {ca : CE} {pos : PySem.Pos} (ha : L2.PE X a (RE X F E ca)) : L2.PE X (.UnaryOp .USub a pos) (RE X F E (.neg ca)) :=
  PE.imp (L2.pe_un L2.un_neg ha) fun σ H Q ⟨ρ, env, hp, hr, he, w⟩ => by
    unfold wpE at w
    refine ⟨ρ, env, hp, hr, he, wpE_mono hF ca E env hp _ _ w fun d h1 q ρ1 H1 v p1 t1 hr1 rv1 => ?_⟩
    cases d <;> first | exact False.elim q | skip
    obtain rfl := rv1.int_inv
    exact ⟨_, rfl, q ρ1 H1 _ p1 t1 hr1 (.int _)⟩
theorem pe_notM {a : Expr} {ca : CE} {pos : PySem.Pos} (ha : L2.PE X a (RE X F E ca)) : L2.PE X (.UnaryOp .Not a pos) (RE X F E (.not ca)) := peI fun pins s σ H Q ρ env hp N w => by
  unfold wpE at w
  refine PyProof.Rows.UnaryOp_ (ev hF ha N w fun v s1 d x ρ1 hp1 H1 N1 p1 t1 rv ru q => ?_)
  obtain ⟨k, e, q⟩ := ws_iff.mp q
  refine PyProof.Rows.not_of (L2.thn (tru_M (Q := fun b H2 => b = k ∧ H2 = H1) N1.I N1.hr rv ru e ⟨rfl, rfl⟩) fun b s2 ⟨H2, I2, e1, e2⟩ => ?_)
  subst e1 e2
  exact ⟨.bl (!b), H2, I2, rfl, q ρ1 H2 _ p1 t1 N1.hr (.bl _)⟩
theorem pe_andM {a b : Expr} {rest : List Expr} {ca cb : CE} {pos : PySem.Pos} (ha : L2.PE X a (RE X F E ca)) (hb : L2.PE X (.BoolOp .And (b :: rest) pos) (RE X F E cb)) : L2.PE X (.BoolOp .And (a :: b :: rest) pos) (RE X F E (.and ca cb)) := peI fun pins s σ H Q ρ env hp N w => by
  unfold wpE at w
  refine PyProof.Rows.BoolOp_and (ev hF ha N w fun v s1 d x ρ1 hp1 H1 N1 p1 t1 rv ru q => ?_)
  obtain ⟨k, e, q⟩ := ws_iff.mp q
  refine L2.thn (tru_M (Q := fun b H2 => b = k ∧ H2 = H1) N1.I N1.hr rv ru e ⟨rfl, rfl⟩) fun b s2 ⟨H2, I2, e1, e2⟩ => ?_
  subst e1 e2
  cases b with
  | true => exact hb.run pins s2 σ H2 Q I2 ⟨ρ1, env, hp1, N1.hr, N1.he, wpE_mono hF cb E env hp1 _ _ q fun d h q => PV.weak p1 t1 q⟩
  | false => exact ⟨x, H2, I2, ru, q ρ1 H2 x p1 t1 N1.hr rv⟩
theorem pe_orM {a b : Expr} {rest : List Expr} {ca cb : CE} {pos : PySem.Pos} (ha : L2.PE X a (RE X F E ca)) (hb : L2.PE X (.BoolOp .Or (b :: rest) pos) (RE X F E cb)) : L2.PE X (.BoolOp .Or (a :: b :: rest) pos) (RE X F E (.or ca cb)) := peI fun pins s σ H Q ρ env hp N w => by
  unfold wpE at w
  refine PyProof.Rows.BoolOp_or (ev hF ha N w fun v s1 d x ρ1 hp1 H1 N1 p1 t1 rv ru q => ?_)
  obtain ⟨k, e, q⟩ := ws_iff.mp q
  refine L2.thn (tru_M (Q := fun b H2 => b = k ∧ H2 = H1) N1.I N1.hr rv ru e ⟨rfl, rfl⟩) fun b s2 ⟨H2, I2, e1, e2⟩ => ?_
  subst e1 e2
  cases b with
  | false => exact hb.run pins s2 σ H2 Q I2 ⟨ρ1, env, hp1, N1.hr, N1.he, wpE_mono hF cb E env hp1 _ _ q fun d h q => PV.weak p1 t1 q⟩
  | true => exact ⟨x, H2, I2, ru, q ρ1 H2 x p1 t1 N1.hr rv⟩
theorem pe_ifM {c a b : Expr} {cc ca cb : CE} {pos : PySem.Pos} (hc : L2.PT X c (RT X F E cc)) (ha : L2.PE X a (RE X F E ca)) (hb : L2.PE X b (RE X F E cb)) : L2.PE X (.IfExp c a b pos) (RE X F E (.ife cc ca cb)) := peI fun pins s σ H Q ρ env hp N w => by
  unfold wpE at w
  refine PySem.wpAny_IfExp (evT hF hc N (R := fun k h1 => if k = true then wpE F E ca env h1 (PVX X ρ H Q) else wpE F E cb env h1 (PVX X ρ H Q)) w fun k s1 ρ1 hp1 H1 N1 p1 t1 q => ?_)
  cases k with
  | true => exact ha.run pins s1 σ H1 Q N1.I ⟨ρ1, env, hp1, N1.hr, N1.he, wpE_mono hF ca E env hp1 _ _ q fun d h q => PV.weak p1 t1 q⟩
  | false => exact hb.run pins s1 σ H1 Q N1.I ⟨ρ1, env, hp1, N1.hr, N1.he, wpE_mono hF cb E env hp1 _ _ q fun d h q => PV.weak p1 t1 q⟩
end
end M

end
section
set_option Elab.async false
set_option linter.all false
set_option autoImplicit false
set_option maxRecDepth 100000
set_option maxHeartbeats 4000000
/-! comparisons, tests, indexing, slices, calls of built-ins -/
namespace M
open PySem (Addr Obj Value Str PyData Heap NestedKey Expr)
section
variable {X : L2.Cx} {F : FnS} (hF : FMono F) {E : XP}
include hF
/-! ### comparisons -/
theorem pe_cmpM {a b : Expr} {ca cb : CE} {op : PySem.CmpOp} {o : Cop} {pos : PySem.Pos} (ho : L2.OpR X (PySem.compareOp op) (liftC X fun x y h => cmpS o x y h)) (hm : PySem.behindInMarks op b = false) (ha : L2.PE X a (RE X F E ca)) (hb : L2.PE X b (RE X F E cb)) : L2.PE X (.Compare a [op] [b] pos) (RE X F E (.cmp o ca cb)) :=
  PE.imp (L2.pe_cmpR ho ha hb hm) fun σ H Q h => rd_bin hF (S := fun x y h => (cmpS o x y h).map fun k => (.bl k, h)) (by
    obtain ⟨ρ, env, hp, hr, he, w⟩ := h
    unfold wpE at w
    refine ⟨ρ, env, hp, hr, he, wpE_mono hF ca E env hp _ _ w fun x h1 q => wpE_mono hF cb E env h1 _ _ q fun y h2 q => ?_⟩
    obtain ⟨k, e, q⟩ := ws_iff.mp q
    rw [e]
    exact q)
/-- a value that is a bool, as a test -/
theorem pt_of_bl {a b : Expr} {c : CE} {t : L2.TE} {e : Expr} (hp : L2.PT X e (L2.tTest t)) (h : ∀ σ H Q, RE X F E c σ H Q → t σ H Q) (hb : ∀ env hp Q, wpE F E c env hp Q → wpE F E c env hp fun d h1 => (∃ k, d = .bl k) ∧ Q d h1) : L2.PT X e (RT X F E c) :=
  PT.imp hp fun σ H Q ⟨ρ, env, hp, hr, he, w⟩ => h σ H _ ⟨ρ, env, hp, hr, he, wpE_mono hF c E env hp _ _ (hb env hp _ w) fun d h1 ⟨⟨k, e⟩, q⟩ ρ1 H1 v p1 t1 hr1 rv => by
    subst e
    cases rv
    exact ⟨k, rfl, q ρ1 H1 p1 t1 hr1⟩⟩
theorem pt_cmpM {a b : Expr} {ca cb : CE} {op : PySem.CmpOp} {o : Cop} {pos : PySem.Pos} (ho : L2.OpR X (PySem.compareOp op) (liftC X fun x y h => cmpS o x y h)) (hm : PySem.behindInMarks op b = false) (ha : L2.PE X a (RE X F E ca)) (hb : L2.PE X b (RE X F E cb)) : L2.PT X (.Compare a [op] [b] pos) (RT X F E (.cmp o ca cb)) :=
  pt_of_bl hF (a := a) (b := b) (L2.pt_cmpR ho ha hb hm) (fun σ H Q h => rd_bin hF (S := fun x y h => (cmpS o x y h).map fun k => (.bl k, h)) (by
    obtain ⟨ρ, env, hp, hr, he, w⟩ := h
    unfold wpE at w
    refine ⟨ρ, env, hp, hr, he, wpE_mono hF ca E env hp _ _ w fun x h1 q => wpE_mono hF cb E env h1 _ _ q fun y h2 q => ?_⟩
    obtain ⟨k, e, q⟩ := ws_iff.mp q
    rw [e]
    exact q)) fun env hp Q w => by
      unfold wpE at w ⊢
      exact wpE_mono hF ca E env hp _ _ w fun x h1 q => wpE_mono hF cb E env h1 _ _ q fun y h2 q => ws_mono q fun k q => ⟨⟨k, rfl⟩, q⟩
/-! ### chains -/
theorem rd_chain {o o' : Cop} {ca cb cc : CE} {σ : L2.St} {H : LHp} {Q : L2.VK} (h : RE X F E (.chn o o' ca cb cc) σ H Q) :
    L2.tChain (liftC X fun x y h => cmpS o x y h) (liftC X fun x y h => cmpS o' x y h) (RE X F E ca) (RE X F E cb) (RE X F E cc) σ H Q := by
  obtain ⟨ρ, env, hp, hr, he, w⟩ := h
  unfold wpE at w
  refine ⟨ρ, env, hp, hr, he, wpE_mono hF ca E env hp _ _ w fun x h1 q ρ1 H1 v p1 t1 hr1 rv1 => ?_⟩
  refine ⟨ρ1, env, h1, hr1, he.mono p1 t1, wpE_mono hF cb E env h1 _ _ q fun y h2 q ρ2 H2 u p2 t2 hr2 rv2 => ?_⟩
  obtain ⟨k, e, q⟩ := ws_iff.mp q
  refine ⟨ρ2, h2, x, y, (.bl k, h2), hr2, rv1.mono p2 t2, rv2, by show Option.map _ (cmpS o x y h2) = _; rw [e]; rfl, fun ρ3 H3 z p3 t3 hr3 rv3 => ?_⟩
  cases rv3
  refine ⟨k, rfl, ?_⟩
  cases k with
  | false => exact q ρ3 H3 _ (p1.trans (p2.trans p3)) (t1.trans (t2.trans t3)) hr3 (.bl _)
  | true =>
    refine ⟨ρ3, env, h2, hr3, he.mono (p1.trans (p2.trans p3)) (t1.trans (t2.trans t3)), wpE_mono hF cc E env h2 _ _ q fun z h3 q ρ4 H4 v4 p4 t4 hr4 rv4 => ?_⟩
    obtain ⟨k', e', q⟩ := ws_iff.mp q
    exact ⟨ρ4, h3, y, z, (.bl k', h3), hr4, rv2.mono (p3.trans p4) (t3.trans t4), rv4, by show Option.map _ (cmpS o' y z h3) = _; rw [e']; rfl, PV.weak (p1.trans (p2.trans (p3.trans p4))) (t1.trans (t2.trans (t3.trans t4))) q⟩
theorem pe_chnM {a b c : Expr} {ca cb cc : CE} {op op' : PySem.CmpOp} {o o' : Cop} {pos : PySem.Pos} (ho : L2.OpR X (PySem.compareOp op) (liftC X fun x y h => cmpS o x y h)) (ho' : L2.OpR X (PySem.compareOp op') (liftC X fun x y h => cmpS o' x y h)) (hm : PySem.lastMarks [op, op'] [b, c] = false)
    (ha : L2.PE X a (RE X F E ca)) (hb : L2.PE X b (RE X F E cb)) (hc : L2.PE X c (RE X F E cc)) : L2.PE X (.Compare a [op, op'] [b, c] pos) (RE X F E (.chn o o' ca cb cc)) :=
  PE.imp (L2.pe_chain ho ho' ha hb hc hm) fun σ H Q h => rd_chain hF h
theorem pt_chnM {a b c : Expr} {ca cb cc : CE} {op op' : PySem.CmpOp} {o o' : Cop} {pos : PySem.Pos} (ho : L2.OpR X (PySem.compareOp op) (liftC X fun x y h => cmpS o x y h)) (ho' : L2.OpR X (PySem.compareOp op') (liftC X fun x y h => cmpS o' x y h)) (hm : PySem.lastMarks [op, op'] [b, c] = false)
    (ha : L2.PE X a (RE X F E ca)) (hb : L2.PE X b (RE X F E cb)) (hc : L2.PE X c (RE X F E cc)) : L2.PT X (.Compare a [op, op'] [b, c] pos) (RT X F E (.chn o o' ca cb cc)) :=
  pt_of_bl hF (a := a) (b := b) (L2.pt_chain ho ho' ha hb hc hm) (fun σ H Q h => rd_chain hF h) fun env hp Q w => by
    unfold wpE at w ⊢
    exact wpE_mono hF ca E env hp _ _ w fun x h1 q => wpE_mono hF cb E env h1 _ _ q fun y h2 q => ws_mono q fun k q => by
      cases k with
      | false => exact ⟨⟨false, rfl⟩, q⟩
      | true => exact wpE_mono hF cc E env h2 _ _ q fun z h3 q => ws_mono q fun k' q => ⟨⟨k', rfl⟩, q⟩
/-! ### tests -/
theorem pt_valM {e : Expr} {c : CE} (h : L2.PE X e (RE X F E c)) (he : ∀ whole, PySem.isTrue e X.env whole = (do let v ← whole; PySem.standAt e.pos; PySem.holding [v] (PySem.truthy v))) : L2.PT X e (RT X F E c) := ptI fun pins s σ H Q ρ env hp N w => by
  refine PyProof.Rows.isTrue_plain (ev hF h N w fun v s1 d x ρ1 hp1 H1 N1 p1 t1 rv ru q => ?_) (he _)
  obtain ⟨k, e, q⟩ := ws_iff.mp q
  exact tru_M N1.I N1.hr rv ru e (q ρ1 H1 p1 t1 N1.hr)
theorem pt_notM {a : Expr} {ca : CE} {pos : PySem.Pos} (ha : L2.PT X a (RT X F E ca)) : L2.PT X (.UnaryOp .Not a pos) (RT X F E (.not ca)) :=
  PT.imp (L2.pt_not ha) fun σ H Q ⟨ρ, env, hp, hr, he, w⟩ => by
    unfold wpE at w
    exact ⟨ρ, env, hp, hr, he, wpE_mono hF ca E env hp _ _ w fun d h1 q => ws_mono q fun k q => q⟩
theorem pt_ifM {c a b : Expr} {cc ca cb : CE} {pos : PySem.Pos} (hc : L2.PT X c (RT X F E cc)) (ha : L2.PT X a (RT X F E ca)) (hb : L2.PT X b (RT X F E cb)) : L2.PT X (.IfExp c a b pos) (RT X F E (.ife cc ca cb)) := ptI fun pins s σ H Q ρ env hp N w => by
  unfold wpE at w
  show PySem.wpAny _ _ (do if ← PySem.isTrue c X.env (PySem.eval c X.env) then PySem.isTrue a X.env (PySem.eval a X.env) else PySem.isTrue b X.env (PySem.eval b X.env)) _ _ s
  refine PySem.wpAny_bind (evT hF hc N (R := fun k h1 => if k = true then wpE F E ca env h1 (PB X.prog X.w X.K ρ H Q) else wpE F E cb env h1 (PB X.prog X.w X.K ρ H Q)) w fun k s1 ρ1 hp1 H1 N1 p1 t1 q => ?_)
  have weak : ∀ d h, PB X.prog X.w X.K ρ H Q d h → PB X.prog X.w X.K ρ1 H1 Q d h := fun d h q => ws_mono q fun b q ρ2 H2 p2 t2 hr2 => q ρ2 H2 (p1.trans p2) (t1.trans t2) hr2
  cases k with
  | true => exact ha.run pins s1 σ H1 Q N1.I ⟨ρ1, env, hp1, N1.hr, N1.he, wpE_mono hF ca E env hp1 _ _ q weak⟩
  | false => exact hb.run pins s1 σ H1 Q N1.I ⟨ρ1, env, hp1, N1.hr, N1.he, wpE_mono hF cb E env hp1 _ _ q weak⟩
abbrev PWM (X : L2.Cx) (F : FnS) (E : XP) (e : Expr) (c : CE) : Prop := L2.PW X e (RT X F E c)
omit hF in
theorem PW.imp {e : Expr} {t t' : L2.TT} (h : L2.PW X e t) (k : ∀ σ H Q, t' σ H Q → t σ H Q) : L2.PW X e t' := ⟨fun wh pins s σ H Q I q => h.run wh pins s σ H Q I (k σ H Q q)⟩
theorem pw_andM {a b : Expr} {rest : List Expr} {ca cb : CE} {pos : PySem.Pos} (ha : L2.PT X a (RT X F E ca)) (hb : PWM X F E (.BoolOp .And (b :: rest) pos) cb) : PWM X F E (.BoolOp .And (a :: b :: rest) pos) (.and ca cb) :=
  PW.imp (L2.pw_and ha hb) fun σ H Q ⟨ρ, env, hp, hr, he, w⟩ => by
    unfold wpE at w
    refine ⟨ρ, env, hp, hr, he, wpE_mono hF ca E env hp _ _ w fun d h1 q => ?_⟩
    obtain ⟨k, e, q⟩ := ws_iff.mp q
    unfold PB
    rw [e]
    intro ρ1 H1 p1 t1 hr1
    cases k with
    | true => exact ⟨ρ1, env, h1, hr1, he.mono p1 t1, wpE_mono hF cb E env h1 _ _ q fun d h2 q => ws_mono q fun b q ρ2 H2 p2 t2 hr2 => q ρ2 H2 (p1.trans p2) (t1.trans t2) hr2⟩
    | false =>
      simp only [Bool.false_eq_true, if_false] at q
      unfold PB at q
      rw [e] at q
      exact q ρ1 H1 p1 t1 hr1
theorem pw_orM {a b : Expr} {rest : List Expr} {ca cb : CE} {pos : PySem.Pos} (ha : L2.PT X a (RT X F E ca)) (hb : PWM X F E (.BoolOp .Or (b :: rest) pos) cb) : PWM X F E (.BoolOp .Or (a :: b :: rest) pos) (.or ca cb) :=
  PW.imp (L2.pw_or ha hb) fun σ H Q ⟨ρ, env, hp, hr, he, w⟩ => by
    unfold wpE at w
    refine ⟨ρ, env, hp, hr, he, wpE_mono hF ca E env hp _ _ w fun d h1 q => ?_⟩
    obtain ⟨k, e, q⟩ := ws_iff.mp q
    unfold PB
    rw [e]
    intro ρ1 H1 p1 t1 hr1
    cases k with
    | false => exact ⟨ρ1, env, h1, hr1, he.mono p1 t1, wpE_mono hF cb E env h1 _ _ q fun d h2 q => ws_mono q fun b q ρ2 H2 p2 t2 hr2 => q ρ2 H2 (p1.trans p2) (t1.trans t2) hr2⟩
    | true =>
      simp only [if_true] at q
      unfold PB at q
      rw [e] at q
      exact q ρ1 H1 p1 t1 hr1
omit hF in
theorem pw_and1M {a : Expr} {ca : CE} {pos : PySem.Pos} (ha : L2.PT X a (RT X F E ca)) : PWM X F E (.BoolOp .And [a] pos) ca := L2.pw_and1 ha
omit hF in
theorem pw_or1M {a : Expr} {ca : CE} {pos : PySem.Pos} (ha : L2.PT X a (RT X F E ca)) : PWM X F E (.BoolOp .Or [a] pos) ca := L2.pw_or1 ha

/-! ### indexing -/
theorem pe_idxM (hu : X.A.units + 80 < PySem.cLine) {a b : Expr} {ca cb : CE} {pos : PySem.Pos} (hs : L2.PlainIx b) (ha : L2.PE X a (RE X F E ca)) (hb : L2.PE X b (RE X F E cb)) : L2.PE X (.Subscript a b pos) (RE X F E (.idx ca cb)) :=
  PE.imp (L2.pe_ix (ix_M hu) ha hb hs) fun σ H Q h => rd_idx hF (S := fun x y h => idxS x y h) (by
    obtain ⟨ρ, env, hp, hr, he, w⟩ := h
    unfold wpE at w
    exact ⟨ρ, env, hp, hr, he, w⟩)
/-- a slice's bound -/
abbrev TPo : Type := Option Expr
def PoM (X : L2.Cx) (F : FnS) (E : XP) (e : Option Expr) (c : CE) : Prop :=
  (e = none ∧ c = .lit .non) ∨ ∃ x, e = some x ∧ L2.PE X x (RE X F E c)
theorem evPo {e : Option Expr} {c : CE} (h : PoM X F E e c) {pins : List (Addr × Obj)} {σ : L2.St} {env : Env} {ρ : List Addr} {hp : Hm} {H : LHp} {s : PySem.Shared} (N : Now X pins σ env ρ hp H s) {Q' : Option Int → Hm → Prop} (w : wpE F E c env hp fun d h1 => ws (optI d) fun o => Q' o h1) {Q : Value → PySem.Shared → Prop}
    (k : ∀ v s' o ρ' hp' H', Now X pins σ env ρ' hp' H' s' → ρ <+: ρ' → TK H H' → PySem.IsPart v o → Q' o hp' → Q v s') : WA X (PySem.evalPart e X.env) Q s := by
  rcases h with ⟨rfl, rfl⟩ | ⟨x, rfl, h⟩
  · rw [PySem.evalPart_none]
    unfold wpE at w
    exact PySem.wpAny_pure (k _ s none ρ hp H N (List.prefix_refl _) (TK.refl _) .none w)
  · rw [PySem.evalPart_some]
    refine ev hF h N w fun v s1 d x ρ1 hp1 H1 N1 p1 t1 rv ru q => ?_
    obtain ⟨o, e, q⟩ := ws_iff.mp q
    cases d <;> simp only [optI] at e <;> first | (cases e; done) | skip
    · cases e
      cases rv
      cases ru
      exact k _ s1 none ρ1 hp1 H1 N1 p1 t1 .none q
    · cases e
      obtain rfl := rv.int_inv
      obtain ⟨t, rfl⟩ := ru
      exact k _ s1 _ ρ1 hp1 H1 N1 p1 t1 (.int _ t) q
theorem pe_slcM {a : Expr} {lo hi : Option Expr} {ca cl ch : CE} {p2 pos : PySem.Pos} (ha : L2.PE X a (RE X F E ca)) (hl : PoM X F E lo cl) (hh : PoM X F E hi ch) : L2.PE X (.Subscript a (.Slice lo hi none p2) pos) (RE X F E (.slc ca cl ch)) := peI fun pins s σ H Q ρ env hp N w => by
  unfold wpE at w
  refine PyProof.Rows.Subscript_ (ev hF ha N w fun v s1 d x ρ1 hp1 H1 N1 p1 t1 rv ru q => ?_)
  refine PySem.wpAny_Slice (evPo hF hl N1 (Q' := fun o h2 => wpE F E ch env h2 fun z h3 => ws (optI z) fun o' => ws (slcS d o o' h3) fun r => PVX X ρ H Q r.1 r.2) q fun vl s2 o ρ2 hp2 H2 N2 p2' t2 pl q2 => ?_)
  refine evPo hF hh N2 (Q' := fun o' h3 => ws (slcS d o o' h3) fun r => PVX X ρ H Q r.1 r.2) q2 fun vu s3 o' ρ3 hp3 H3 N3 p3 t3 pu q3 => ?_
  rw [PySem.evalPart_none]
  refine PySem.wpAny_pure ?_
  have I4 : L2.Inv X pins σ H3 { s3 with heap := s3.heap.push { cls := .type "slice", data := .fields #[vl, vu, .none] } } := N3.I.kept (t' := s3.toks) fun b ob q => PySem.Heap.get?_push_of_some _ q
  obtain ⟨r, e, q⟩ := ws_iff.mp q3
  obtain ⟨T, id, hT, ht, hg⟩ := sl_M pins { s3 with heap := s3.heap.push { cls := .type "slice", data := .fields #[vl, vu, .none] } } σ H3 x v vl vu o o' s3.heap.objs.size Q I4 ru (PySem.Heap.IsSliceOf.new ..) pl pu
    ⟨ρ3, hp3, d, r, N3.hr, rv.mono (p2'.trans p3) (t2.trans t3), by cases d <;> exact e, PV.weak (p1.trans (p2'.trans p3)) (t1.trans (t2.trans t3)) q⟩
  show PySem.wpAny (PySem.model X.prog X.w) X.A (PyProof.Rows.subscriptTail a (.Slice lo hi none p2) v (.ref s3.heap.objs.size)) (L2.EP X pins σ Q) X.xe { s3 with heap := s3.heap.push { cls := .type "slice", data := .fields #[vl, vu, .none] } }
  exact PyProof.Rows.tail_any (ops := [.ref s3.heap.objs.size, v]) ht hT hg (by with_unfolding_all rfl)
end
end M

end
section
set_option Elab.async false
set_option linter.all false
set_option autoImplicit false
set_option maxRecDepth 100000
set_option maxHeartbeats 4000000
/-! calls of built-ins, is -/
namespace M
open PySem (Addr Obj Value Str PyData Heap NestedKey Expr)
section
variable {X : L2.Cx} {F : FnS} (hF : FMono F) {E : XP}
include hF
/-- a built-in function, a built-in type -/
theorem pe_bltM {x : Str} {u : Value} {b : Blt} {e : Expr} {es : List Expr} {cs : List CE} {p pos : PySem.Pos} (hu : (∃ id, u = .builtin id) ∨ ∃ T, u = .type T) (hc : L2.CallR X u (liftA X (bltS b))) (hg : L2.Gl X x) (hm : X.mg x = none) (hv : PySem.bootBuiltins x = some u)
    (hn : x ≠ PySem.Str.ofString "__name__") (hdb : (x == PySem.Str.ofString "__debug__") = false) (ha : L2.PA X (e :: es) (RA X F E cs)) (hp : (e :: es).all plainE = true) : L2.PE X (.Call (.Name x p) (e :: es) [] pos) (RE X F E (.blt b cs)) := by
  have h1 : plainE e = true ∧ es.all plainE = true := by rw [List.all_cons, Bool.and_eq_true] at hp; exact hp
  have k : ∀ σ H Q, RE X F E (.blt b cs) σ H Q → L2.tCB (liftA X (bltS b)) (RA X F E cs) σ H Q := fun σ H Q h => rd_blt hF (S := bltS b) (by
    obtain ⟨ρ, env, hp, hr, he, w⟩ := h
    unfold wpE at w
    exact ⟨ρ, env, hp, hr, he, w⟩)
  rcases hu with ⟨id, rfl⟩ | ⟨T, rfl⟩
  · exact PE.imp (L2.pe_callB hc hg hm hv ha hn hdb (star_plain h1.1) (any_plain h1.2)) k
  · exact PE.imp (L2.pe_callTy hc hg hm hv ha hn hdb (star_plain h1.1) (any_plain h1.2)) k
/-- isinstance(e, T) -/
theorem pe_isiM {t : Ty} {e : Expr} {c : CE} {p p2 pos : PySem.Pos} {x : Str} (hx : x = PySem.Str.ofString "isinstance") {y : Str} (hg : L2.Gl X x) (hm : X.mg x = none) (hv : PySem.bootBuiltins x = some (.builtin "isinstance")) (hg2 : L2.Gl X y) (hm2 : X.mg y = none) (hv2 : PySem.bootBuiltins y = some (.type (tyName t)))
    (hn : y ≠ PySem.Str.ofString "__name__") (hdb : (y == PySem.Str.ofString "__debug__") = false) (he : L2.PE X e (RE X F E c)) (hp : plainE e = true) : L2.PE X (.Call (.Name x p) [e, .Name y p2] [] pos) (RE X F E (.blt (.isi t) [c])) := by
  subst hx
  have hc : L2.CallR X (.builtin "isinstance") (fun vs H Q => ∃ v, vs = [v, .ty (tyName t)] ∧ liftA X (bltS (.isi t)) [v] H Q) := by
    intro pins s σ H xs us Q I rx ⟨v, e1, ρ, hp0, ds, r, hr, rv, e2, q⟩
    subst e1
    cases rx with
    | cons r1 r2 =>
      cases r2 with
      | cons r2 r3 =>
        cases r3
        rcases ds with _ | ⟨d, _ | ⟨d2, ds⟩⟩ <;> try (cases rv; done)
        · obtain ⟨v', ev', rd⟩ := rv.one_inv
          cases ev'
          simp only [bltS, Option.map_eq_some_iff] at e2
          obtain ⟨k, e2, rfl⟩ := e2
          exact isi_run I hr rd r1 r2 e2 (PV.here q hr (.bl k))
        · cases rv with | cons a b => cases b
  refine PE.imp (L2.pe_callB (p := p) (pos := pos) hc hg hm hv (L2.pa_cons he (L2.pa_cons (L2.pe_bltn (v := .ty (tyName t)) (pos := p2) hg2 hm2 hv2 rfl hn hdb) L2.pa_nil (by rfl)) (star_plain hp)) (by decide) (by decide) (star_plain hp) (by rfl)) fun σ H Q ⟨ρ, env, hp0, hr, he0, w⟩ => ?_
  unfold wpE wpEs wpEs at w
  refine ⟨ρ, env, hp0, hr, he0, wpE_mono hF c E env hp0 _ _ w fun d h1 q ρ1 H1 v p1 t1 hr1 rv1 => ⟨v, rfl, ?_⟩⟩
  obtain ⟨r, e, q⟩ := ws_iff.mp q
  exact ⟨ρ1, h1, [d], r, hr1, .cons rv1 .nil, e, PV.weak p1 t1 q⟩
omit hF in
theorem op_isM : L2.OpR X (PySem.compareOp .Is) (liftC X fun x y h => cmpS .is x y h) ∧ L2.OpR X (PySem.compareOp .IsNot) (liftC X fun x y h => cmpS .isnt x y h) := by
  have key : ∀ {ρ : List Addr} {H : LHp} {x y : D} {v u : LV} {v' u' : Value} {k : Bool}, RV X.K ρ H x v → RV X.K ρ H y u → L2.RelV v v' → L2.RelV u u' → isS x y = some k → ((∀ z, v' ≠ .builtin z) ∧ (u' = .none ∨ ∃ b, u' = .bool b)) ∧ (v' == u') = k := by
    intro ρ H x y v u v' u' k rx ry rv ru e
    have nb : ∀ z, v' ≠ .builtin z := fun z h => by
      subst h
      cases rx <;> first | (cases rv; done) | (obtain ⟨t, e⟩ := rv; cases e; done)
    cases y <;> simp only [isS] at e <;> first | (cases e; done) | skip
    · cases ry; cases ru; cases e
      refine ⟨⟨nb, .inl rfl⟩, ?_⟩
      cases rx <;> first | (cases rv; rfl) | (obtain ⟨t, rfl⟩ := rv; rfl)
    · cases ry; cases ru; cases e
      refine ⟨⟨nb, .inr ⟨_, rfl⟩⟩, ?_⟩
      rename_i b
      cases rx <;> first | (cases rv; rfl) | (obtain ⟨t, rfl⟩ := rv; rfl) | skip
      cases rv
      rename_i c
      show (Value.bool c == Value.bool b) = (b == c)
      cases b <;> cases c <;> rfl
  have run : ∀ {s : PySem.Shared} {v' u' : Value} {Q : Value → PySem.Shared → Prop}, ((∀ z, v' ≠ .builtin z) ∧ (u' = .none ∨ ∃ b, u' = .bool b)) → (Q (.bool (v' == u')) s → PySem.wpAny (PySem.model X.prog X.w) X.A (PySem.compareOp .Is v' u') Q X.xe s) ∧ (Q (.bool !(v' == u')) s → PySem.wpAny (PySem.model X.prog X.w) X.A (PySem.compareOp .IsNot v' u') Q X.xe s) := by
    intro s v' u' Q ⟨nb, hu⟩
    rcases hu with rfl | ⟨b, rfl⟩
    · exact ⟨fun q => by cases v' <;> exact PySem.wpAny_pure q, fun q => by cases v' <;> exact PySem.wpAny_pure q⟩
    · exact ⟨fun q => by cases v' <;> first | exact PySem.wpAny_pure q | exact absurd rfl (nb _), fun q => by cases v' <;> first | exact PySem.wpAny_pure q | exact absurd rfl (nb _)⟩
  refine ⟨?_, ?_⟩
  · intro pins s σ H v u v' u' Q I rv ru ⟨ρ, hp, x, y, r, hr, rx, ry, e, q⟩
    obtain ⟨k, e2, rfl⟩ := Option.map_eq_some_iff.mp e
    obtain ⟨h1, h2⟩ := key rx ry rv ru e2
    exact (run h1).1 ⟨.bl k, H, I, congrArg Value.bool h2, PV.here q hr (.bl k)⟩
  · intro pins s σ H v u v' u' Q I rv ru ⟨ρ, hp, x, y, r, hr, rx, ry, e, q⟩
    obtain ⟨k, e2, rfl⟩ := Option.map_eq_some_iff.mp e
    have e3 : (isS x y).map not = some k := e2
    obtain ⟨k', e4, hk⟩ := Option.map_eq_some_iff.mp e3
    subst hk
    obtain ⟨h1, h2⟩ := key rx ry rv ru e4
    exact (run h1).2 ⟨.bl (!k'), H, I, congrArg (fun z => Value.bool !z) h2, PV.here q hr (.bl _)⟩
end
end M

end
section
set_option Elab.async false
set_option linter.all false
set_option autoImplicit false
set_option maxRecDepth 100000
set_option maxHeartbeats 4000000
/-! walks, targets -/
namespace M
open PySem (Addr Obj Value Str PyData Heap NestedKey Expr)
/-! ### targets -/
/-- all but these slots stay -/
def SetsOnly (is : List Nat) (σ σ' : L2.St) : Prop := σ'.length = σ.length ∧ ∀ i, i ∉ is → σ'[i]? = σ[i]?
theorem SetsOnly.refl {is : List Nat} (σ : L2.St) : SetsOnly is σ σ := ⟨rfl, fun _ _ => rfl⟩
theorem SetsOnly.trans {is js : List Nat} {σ σ1 σ2 : L2.St} (a : SetsOnly is σ σ1) (b : SetsOnly js σ1 σ2) : SetsOnly (is ++ js) σ σ2 :=
  ⟨b.1.trans a.1, fun i h => by
    rw [List.mem_append, not_or] at h
    exact (b.2 i h.2).trans (a.2 i h.1)⟩
theorem wipe_get (σ : L2.St) : ∀ (vs : List Nat) (i : Nat), (L2.wipe σ vs)[i]? = if i ∈ vs ∧ i < σ.length then some none else σ[i]?
  | [], i => by simp [L2.wipe]
  | v :: vs, i => by
    unfold L2.wipe
    by_cases h : v = i
    · subst h
      by_cases hl : v < σ.length
      · rw [List.getElem?_set_self (by rw [L2.wipe_length]; exact hl), if_pos ⟨List.mem_cons_self, hl⟩]
      · rw [List.getElem?_eq_none (by rw [List.length_set, L2.wipe_length]; omega), if_neg (fun z => hl z.2), List.getElem?_eq_none (by omega)]
    · rw [List.getElem?_set_ne h, wipe_get σ vs i]
      by_cases hm : i ∈ vs ∧ i < σ.length
      · rw [if_pos hm, if_pos ⟨List.mem_cons_of_mem _ hm.1, hm.2⟩]
      · rw [if_neg hm, if_neg (fun z => hm ⟨(List.mem_cons.mp z.1).resolve_left (fun e => h e.symm), z.2⟩)]
theorem SetsOnly.wipe {is vs : List Nat} {σ σ' : L2.St} (a : SetsOnly is σ σ') (h : ∀ i ∈ is, i ∈ vs) : L2.wipe σ' vs = L2.wipe σ vs := by
  refine List.ext_getElem? fun i => ?_
  rw [wipe_get, wipe_get, a.1]
  by_cases hm : i ∈ vs ∧ i < σ.length
  · rw [if_pos hm, if_pos hm]
  · rw [if_neg hm, if_neg hm]
    by_cases hi : i ∈ vs
    · have hl : ¬ i < σ.length := fun z => hm ⟨hi, z⟩
      rw [List.getElem?_eq_none (by rw [a.1]; omega), List.getElem?_eq_none (by omega)]
    · exact a.2 i fun z => hi (h i z)
theorem wipe_wipe (σ : L2.St) (vs : List Nat) : L2.wipe (L2.wipe σ vs) vs = L2.wipe σ vs := by
  refine List.ext_getElem? fun i => ?_
  rw [wipe_get, wipe_get, L2.wipe_length]
  by_cases hm : i ∈ vs ∧ i < σ.length
  · rw [if_pos hm, if_pos hm]
  · rw [if_neg hm]
section
variable {X : L2.Cx}
/-- a target's reading -/
def gM (X : L2.Cx) (p : Pat) : L2.TG := fun v σ H Q => ∃ ρ env d, EnvR X.K ρ H env σ ∧ RV X.K ρ H d v ∧ wpP p d env fun e2 => ∀ σ2, EnvR X.K ρ H e2 σ2 → SetsOnly (slotsP p) σ σ2 → Q σ2 H
def gsM (X : L2.Cx) (ps : List Pat) : L2.TGs := fun vs σ H Q => ∃ ρ env ds, EnvR X.K ρ H env σ ∧ RVs X.K ρ H ds vs ∧ wpPs ps ds env fun e2 => ∀ σ2, EnvR X.K ρ H e2 σ2 → SetsOnly (slotsPs ps) σ σ2 → Q σ2 H
theorem PG.imp {e : Expr} {t t' : L2.TG} (h : L2.PG X e t) (k : ∀ v σ H Q, t' v σ H Q → t v σ H Q) : L2.PG X e t' := ⟨fun pins s σ H v u Q I r q => h.run pins s σ H v u Q I r (k v σ H Q q)⟩
theorem PGs.imp {e : List Expr} {t t' : L2.TGs} (h : L2.PGs X e t) (k : ∀ v σ H Q, t' v σ H Q → t v σ H Q) : L2.PGs X e t' := ⟨fun pins s σ H v u Q I r q => h.run pins s σ H v u Q I r (k v σ H Q q)⟩
theorem pg_slotM {i : Nat} {x : Str} {pos : PySem.Pos} (hN : X.N.Nodup) (hi : X.N[i]? = some x) (hx : L2.Loc X.env.scope x) (hf : X.fn x = true ∨ X.env.scope.names.lookup x = some .local) : L2.PG X (.Name x pos) (gM X (.slot i)) :=
  PG.imp (L2.pg_name hN hi hx hf) fun v σ H Q ⟨ρ, env, d, he, rv, w⟩ => by
    unfold wpP at w
    exact w.2 _ (he.set rv) ⟨by simp, fun j hj => by
      have : i ≠ j := fun e => hj (by rw [e]; simp [slotsP])
      exact List.getElem?_set_ne this⟩
theorem pgs_nilM : L2.PGs X [] (gsM X []) := PGs.imp L2.pgs_nil fun v σ H Q ⟨ρ, env, ds, he, rv, w⟩ => by
  cases ds with
  | nil =>
    unfold wpPs at w
    cases rv
    exact ⟨rfl, w σ he (SetsOnly.refl _)⟩
  | cons d ds => unfold wpPs at w; exact w.elim
theorem each_plain {e : Expr} {es : List Expr} {env : PySem.Env} (h : plainE e = true) : PySem.assignEach (e :: es) env = (false, PySem.assign e env) :: PySem.assignEach es env := by
  cases e <;> first | rfl | exact Bool.noConfusion h
theorem pgs_consM {e : Expr} {es : List Expr} {p : Pat} {ps : List Pat} (h1 : L2.PG X e (gM X p)) (h2 : L2.PGs X es (gsM X ps)) (hp : plainE e = true) : L2.PGs X (e :: es) (gsM X (p :: ps)) :=
  PGs.imp (L2.pgs_cons h1 h2 (by rw [each_plain hp]; rfl)) fun v σ H Q ⟨ρ, env, ds, he, rv, w⟩ => by
    cases rv with
    | nil => unfold wpPs at w; exact w.elim
    | cons r1 r2 =>
      unfold wpPs at w
      refine ⟨_, _, rfl, ρ, env, _, he, r1, wpP_mono _ _ _ _ _ w fun e1 w σ1 he1 s1 => ⟨ρ, e1, _, he1, r2, wpPs_mono _ _ _ _ _ w fun e2 w σ2 he2 s2 => w σ2 he2 (by
        unfold slotsPs
        exact s1.trans s2)⟩⟩
theorem each_len {es : List Expr} {env : PySem.Env} (h : es.all plainE = true) : PySem.assignEach es env = es.map fun e => (false, PySem.assign e env) := by
  induction es with
  | nil => rfl
  | cons e es ih =>
    rw [List.all_cons, Bool.and_eq_true] at h
    rw [each_plain h.1, ih h.2, List.map_cons]
theorem wpPs_len : ∀ (ps : List Pat) (ds : List D) (env : Env) (Q : Env → Prop), wpPs ps ds env Q → ds.length = ps.length
  | [], [], _, _, _ => rfl
  | [], _ :: _, _, _, h => by unfold wpPs at h; exact h.elim
  | _ :: _, [], _, _, h => by unfold wpPs at h; exact h.elim
  | p :: ps, d :: ds, env, Q, h => by
    unfold wpPs at h
    have key : ∀ (p : Pat) (v : D) (env : Env) (Q : Env → Prop), wpP p v env Q → ∃ e, Q e := fun p v env Q => wpP_some p v env Q
    obtain ⟨e, h⟩ := key _ _ _ _ h
    rw [List.length_cons, List.length_cons, wpPs_len ps ds e Q h]
where
  wpP_some : ∀ (p : Pat) (v : D) (env : Env) (Q : Env → Prop), wpP p v env Q → ∃ e, Q e
  | .slot i, v, env, Q, h => by unfold wpP at h; exact ⟨_, h.2⟩
  | .tup ps, v, env, Q, h => by
    unfold wpP at h
    cases v with
    | tup xs => exact wpPs_some ps xs env Q h
    | _ => exact h.elim
  wpPs_some : ∀ (ps : List Pat) (v : List D) (env : Env) (Q : Env → Prop), wpPs ps v env Q → ∃ e, Q e
  | [], [], env, Q, h => by unfold wpPs at h; exact ⟨_, h⟩
  | [], _ :: _, _, _, h => by unfold wpPs at h; exact h.elim
  | _ :: _, [], _, _, h => by unfold wpPs at h; exact h.elim
  | p :: ps, d :: ds, env, Q, h => by
    unfold wpPs at h
    obtain ⟨e, h⟩ := wpP_some p d env _ h
    exact wpPs_some ps ds e Q h
theorem pg_tupM {es : List Expr} {k : Nat} {pos : PySem.Pos} {ps : List Pat} (hc : X.calm = true) (h : L2.PGs X es (gsM X ps)) (hp : es.all plainE = true) (hl : es.length = ps.length) : L2.PG X (.Tuple es k pos) (gM X (.tup ps)) :=
  PG.imp (L2.pg_tup (n := ps.length) hc h (by rw [each_len hp, List.length_map, hl]) (by
    rw [each_len hp]
    induction es with
    | nil => rfl
    | cons e es ih => simp)) fun v σ H Q ⟨ρ, env, d, he, rv, w⟩ => by
    unfold wpP at w
    cases d <;> first | exact w.elim | skip
    rename_i xs
    obtain ⟨a, ys, rfl, sq, r⟩ := rv.tup_inv
    have hlen := wpPs_len ps xs env _ w
    exact ⟨a, ys, rfl, sq, by rw [← r.length, hlen], ρ, env, xs, he, r, by unfold slotsP at w; exact w⟩
end
end M

end
section
set_option Elab.async false
set_option linter.all false
set_option autoImplicit false
set_option maxRecDepth 100000
set_option maxHeartbeats 4000000
/-! zip of lists and tuples, mixed -/
namespace M
open PySem (Addr Obj Value Str Heap Expr)
def IsIt (k : Bool) (h : Heap) (it a : Addr) (i : Nat) : Prop := if k = true then h.IsListIter it a i else h.IsTupleIter it a i
def IsSq (k : Bool) (h : Heap) (a : Addr) (xs : Array Value) : Prop := if k = true then h.IsList a xs else h.IsTuple a xs
def itN (k : Bool) : String := if k = true then "list_iterator" else "tuple_iterator"
theorem IsSq.keep {k : Bool} {h h' : Heap} {a : Addr} {xs : Array Value} (s : IsSq k h a xs) (kp : ∀ o, h.get? a = some o → h'.get? a = some o) : IsSq k h' a xs := by
  cases k
  · obtain ⟨o, e, r⟩ := s
    exact ⟨o, kp o e, r⟩
  · exact PySem.Heap.IsList.at (show h.IsList a xs from s) kp
theorem IsIt.keep {k : Bool} {h h' : Heap} {it a : Addr} {i : Nat} (s : IsIt k h it a i) (kp : ∀ o, h.get? it = some o → h'.get? it = some o) : IsIt k h' it a i := by
  cases k
  · exact PySem.Heap.IsTupleIter.at (show h.IsTupleIter it a i from s) kp
  · exact PySem.Heap.IsListIter.at (show h.IsListIter it a i from s) kp
theorem draws_sq {prog : PySem.Program} {w : PySem.World} {A : PySem.Around} (k : Bool) (hh : A.handled = none) (it l : Addr) (hne : l ≠ it) (items : Array Value) :
    PySem.Draws prog w A it [it, l] items.size (fun i v => items[i]? = some v) (fun i h => IsIt k h it l i ∧ IsSq k h l items) where
  live := fun _ _ st => by
    cases k
    · obtain ⟨o, ho, _⟩ := (show Heap.IsTupleIter _ it l _ from st.1); exact ⟨o, ho⟩
    · obtain ⟨o, ho, _⟩ := (show Heap.IsListIter _ it l _ from st.1); exact ⟨o, ho⟩
  frame := fun _ _ _ st hk => ⟨st.1.keep fun o e => hk it (by simp) o e, st.2.keep fun o e => hk l (by simp) o e⟩
  item := fun i s Q E hi st hQ => by
    cases k
    · refine RZ.nextOf_tuple_item (show s.heap.IsTupleIter it l i from st.1) (show s.heap.IsTuple l items from st.2) (x := items[i]) (by simp [hi]) fun h' hit' hs' => ?_
      exact hQ _ h' s.toks (by simp [hi]) ⟨hit', st.2.keep fun o e => (hs'.2 l hne).trans e⟩ hs'
    · refine PySem.wpAny_nextOf_list_item (show s.heap.IsListIter it l i from st.1) (show s.heap.IsList l items from st.2) (x := items[i]) (by simp [hi]) fun h' hit' hs' => ?_
      exact hQ _ h' s.toks (by simp [hi]) ⟨hit', st.2.keep fun o e => (hs'.2 l hne).trans e⟩ hs'
  done := fun s Q E st hE => by
    cases k
    · exact RZ.nextOf_tuple_end hh (show s.heap.IsTupleIter it l _ from st.1) (show s.heap.IsTuple l items from st.2) (by simp) hE
    · exact PySem.wpAny_nextOf_list_end hh (show s.heap.IsListIter it l _ from st.1) (show s.heap.IsList l items from st.2) (by simp) hE
abbrev zH1 (k : Bool) (h : Heap) (l1 : Addr) : Heap := h.push { cls := .type (itN k), data := .fields #[.ref l1, .int 0 0] }
abbrev zH2 (k k' : Bool) (h : Heap) (l1 l2 : Addr) : Heap := (zH1 k h l1).push { cls := .type (itN k'), data := .fields #[.ref l2, .int 0 0] }
abbrev zH3 (k k' : Bool) (h : Heap) (l1 l2 : Addr) : Heap := (zH2 k k' h l1 l2).push { cls := .type "tuple", data := .seq #[.ref h.objs.size, .ref (zH1 k h l1).objs.size] }
abbrev zH4 (k k' : Bool) (h : Heap) (l1 l2 : Addr) : Heap := (zH3 k k' h l1 l2).push { cls := .type "tuple", data := .seq #[.none, .none] }
abbrev zH5 (k k' : Bool) (h : Heap) (l1 l2 : Addr) : Heap := (zH4 k k' h l1 l2).push { cls := .type "zip", data := .fields #[.none, .bool false, .bool false, .ref (zH2 k k' h l1 l2).objs.size, .ref (zH3 k k' h l1 l2).objs.size] }
end M
namespace PySem
open M
open Sem (wp)
theorem meets_zipM_new (k k' : Bool) (l1 l2 : Addr) (xs ys : Array Value) :
    Meets (Builtin.«zip.__new__» ⟨[.type "zip", .ref l1, .ref l2], []⟩) (fun _ R s => IsSq k s.heap l1 xs ∧ IsSq k' s.heap l2 ys ∧
      R (.ok (.ret (.ref (zH4 k k' s.heap l1 l2).objs.size))) { s with heap := zH5 k k' s.heap l1 l2 }) :=
  .of_wp fun prog w A R s h => by
    obtain ⟨hp, g, d, tk, os⟩ := s; obtain ⟨hl1, hl2, h⟩ := h
    have hsub := sub_zip
    cases k <;> cases k'
    · have hL1 : Heap.IsTuple (Shared.heap ⟨hp, g, d, tk, os⟩) l1 xs := hl1
      have hL2 : Heap.IsTuple (Shared.heap ⟨hp.push { cls := .type "tuple_iterator", data := .fields #[.ref l1, .int 0 0] }, g, d, tk, os⟩) l2 ys := Heap.IsTuple.push hl2 _
      wp_walk using wpAny_pyIter_tuple hL1, wpAny_pyIter_tuple hL2
      exact ⟨_, rfl, h⟩
    · have hL1 : Heap.IsTuple (Shared.heap ⟨hp, g, d, tk, os⟩) l1 xs := hl1
      have hL2 : Heap.IsList (Shared.heap ⟨hp.push { cls := .type "tuple_iterator", data := .fields #[.ref l1, .int 0 0] }, g, d, tk, os⟩) l2 ys := Heap.IsList.at (show hp.IsList l2 ys from hl2) fun o e => Heap.get?_push_of_some _ e
      wp_walk using wpAny_pyIter_tuple hL1, wpAny_pyIter_list hL2
      exact ⟨_, rfl, h⟩
    · have hL1 : Heap.IsList (Shared.heap ⟨hp, g, d, tk, os⟩) l1 xs := hl1
      have hL2 : Heap.IsTuple (Shared.heap ⟨hp.push { cls := .type "list_iterator", data := .fields #[.ref l1, .int 0 0] }, g, d, tk, os⟩) l2 ys := Heap.IsTuple.push hl2 _
      wp_walk using wpAny_pyIter_list hL1, wpAny_pyIter_tuple hL2
      exact ⟨_, rfl, h⟩
    · have hL1 : Heap.IsList (Shared.heap ⟨hp, g, d, tk, os⟩) l1 xs := hl1
      have hL2 : Heap.IsList (Shared.heap ⟨hp.push { cls := .type "list_iterator", data := .fields #[.ref l1, .int 0 0] }, g, d, tk, os⟩) l2 ys := Heap.IsList.at (show hp.IsList l2 ys from hl2) fun o e => Heap.get?_push_of_some _ e
      wp_walk using wpAny_pyIter_list hL1, wpAny_pyIter_list hL2
      exact ⟨_, rfl, h⟩
end PySem
namespace M
open PySem (Addr Obj Value Str Heap Expr)
section
variable {prog : PySem.Program} {w : PySem.World} {A : PySem.Around} {E : Value → PySem.Shared → Prop} {s : PySem.Shared}
theorem call_zipM (k k' : Bool) {l1 l2 : Addr} {xs ys : Array Value} {Q : Value → PySem.Shared → Prop} (hl1 : IsSq k s.heap l1 xs) (hl2 : IsSq k' s.heap l2 ys)
    (h : ∀ h', PySem.IsZip h' (s.heap.objs.size + 4) (s.heap.objs.size + 2) (s.heap.objs.size + 3) .none → PySem.IsTupOf2 h' (s.heap.objs.size + 2) (.ref s.heap.objs.size) (.ref (s.heap.objs.size + 1)) →
      PySem.IsTupOf2 h' (s.heap.objs.size + 3) .none .none → IsIt k h' s.heap.objs.size l1 0 → IsIt k' h' (s.heap.objs.size + 1) l2 0 →
      (∀ c o, s.heap.get? c = some o → h'.get? c = some o) → Q (.ref (s.heap.objs.size + 4)) { s with heap := h' }) :
    PySem.wpAny (PySem.model prog w) A (PySem.call (.type "zip") [.ref l1, .ref l2]) Q E s := by
  refine PySem.callType_new PySem.F.called_zip (by decide) (PySem.F.typeCall_zip_2 _ _) (PySem.F.newCall_zip_2 _ _) (fun obj => PySem.F.args_object_init_3 obj _ _) PySem.F.entry_zip_new
    (PySem.meets_zipM_new k k' l1 l2 xs ys) ⟨hl1, hl2, ?_⟩
  have z1 : (zH1 k s.heap l1).objs.size = s.heap.objs.size + 1 := PySem.Heap.size_push ..
  have z2 : (zH2 k k' s.heap l1 l2).objs.size = s.heap.objs.size + 2 := by rw [PySem.Heap.size_push, z1]
  have z3 : (zH3 k k' s.heap l1 l2).objs.size = s.heap.objs.size + 3 := by rw [PySem.Heap.size_push, z2]
  have z4 : (zH4 k k' s.heap l1 l2).objs.size = s.heap.objs.size + 4 := by rw [PySem.Heap.size_push, z3]
  have g5 : (zH5 k k' s.heap l1 l2).get? (zH4 k k' s.heap l1 l2).objs.size = some _ := PySem.Heap.get?_push_size _ rfl
  have g4 : (zH5 k k' s.heap l1 l2).get? (zH3 k k' s.heap l1 l2).objs.size = some _ := PySem.Heap.get?_push_of_some _ (PySem.Heap.get?_push_size _ rfl)
  have g3 : (zH5 k k' s.heap l1 l2).get? (zH2 k k' s.heap l1 l2).objs.size = some _ := PySem.Heap.get?_push_of_some _ (PySem.Heap.get?_push_of_some _ (PySem.Heap.get?_push_size _ rfl))
  have g2 : (zH5 k k' s.heap l1 l2).get? (zH1 k s.heap l1).objs.size = some _ := PySem.Heap.get?_push_of_some _ (PySem.Heap.get?_push_of_some _ (PySem.Heap.get?_push_of_some _ (PySem.Heap.get?_push_size _ rfl)))
  have g1 : (zH5 k k' s.heap l1 l2).get? s.heap.objs.size = some _ := PySem.Heap.get?_push_of_some _ (PySem.Heap.get?_push_of_some _ (PySem.Heap.get?_push_of_some _ (PySem.Heap.get?_push_of_some _ (PySem.Heap.get?_push_size _ rfl))))
  show _ ∧ _
  rw [z2, z3, z4] at g5
  rw [z1, z2] at g3
  rw [z3] at g4
  rw [z1] at g2
  rw [z4]
  refine ⟨⟨_, g5, rfl⟩, h _ g5 g3 g4 ?_ ?_ fun c o x =>
    PySem.Heap.get?_push_of_some _ (PySem.Heap.get?_push_of_some _ (PySem.Heap.get?_push_of_some _ (PySem.Heap.get?_push_of_some _ (PySem.Heap.get?_push_of_some _ x))))⟩
  · cases k <;> exact ⟨_, g1, rfl, rfl⟩
  · cases k' <;> exact ⟨_, g2, rfl, rfl⟩
end
/-- a list or a tuple, in the layer's words -/
def SqK (k : Bool) (K : PySem.W.Frag) (H : LHp) (a : Addr) (xs : List LV) : Prop := if k = true then L2.SqL K H a xs else L2.SqT K H a xs
theorem SqK.at {X : L2.Cx} {pins : List (Addr × Obj)} {σ : L2.St} {H : LHp} {s : PySem.Shared} (I : L2.Inv X pins σ H s) {k : Bool} {a : Addr} {xs : List LV} (h : SqK k X.K H a xs) : ∃ its : List Value, L2.Vals xs its ∧ IsSq k s.heap a its.toArray := by
  cases k
  · obtain ⟨its, rv, p, _⟩ := I.tuple (show L2.SqT X.K H a xs from h)
    exact ⟨its, rv, (show s.heap.IsTuple a its.toArray from p)⟩
  · obtain ⟨its, rv, p, _⟩ := I.list (show L2.SqL X.K H a xs from h)
    exact ⟨its, rv, p.isList⟩
theorem SqK.inj {X : L2.Cx} {pins : List (Addr × Obj)} {σ : L2.St} {H : LHp} {s : PySem.Shared} (I : L2.Inv X pins σ H s) {k : Bool} {a : Addr} {xs ys : List LV} (h : SqK k X.K H a xs) (h' : SqK k X.K H a ys) : xs = ys := by
  cases k
  · exact I.tuple_inj (show L2.SqT X.K H a xs from h) h'
  · exact I.list_inj (show L2.SqL X.K H a xs from h) h'
def Itm (k k' : Bool) (K : PySem.W.Frag) (a b : Addr) : L2.It :=
  ⟨fun i H => ∃ (xs ys : List LV) (x y : LV), SqK k K H a xs ∧ SqK k' K H b ys ∧ xs[i]? = some x ∧ ys[i]? = some y,
    fun i H v H' => ∃ T x y, v = .ref T ∧ H T = none ∧ H' = L2.upd H T (.tup [x, y]) ∧ (∀ xs, SqK k K H a xs → xs[i]? = some x) ∧ ∀ ys, SqK k' K H b ys → ys[i]? = some y,
    fun i H => ∃ xs ys : List LV, SqK k K H a xs ∧ SqK k' K H b ys ∧ i ≤ xs.length ∧ i ≤ ys.length ∧ (i = xs.length ∨ i = ys.length)⟩
theorem turn_zipM {P : PySem.Program} {w : PySem.World} {K : PySem.W.Frag} (k k' : Bool) {elts : List Expr} {kk : Nat} {tpos : PySem.Pos} {a b z TI TO i1 i2 : Addr} (D : PySem.ZipSep2 z TI TO i1 i2 [i1, a] [i2, b]) (hai : a ≠ i1) (hbi : b ≠ i2) :
    L2.Turn P w K (.Tuple elts kk tpos) (Itm k k' K a b) [z, TI, TO, i1, i2] z (fun i h => PySem.IsZip h z TI TO .none ∧ PySem.IsTupOf2 h TI (.ref i1) (.ref i2) ∧ (∃ x y, PySem.IsTupOf2 h TO x y) ∧ IsIt k h i1 a i ∧ IsIt k' h i2 b i) where
  mem := by simp
  obj := fun i h st c hc => by
    obtain ⟨hz, hTI, ⟨x, y, hTO⟩, h1, h2⟩ := st
    have e' : c = z ∨ c = TI ∨ c = TO ∨ c = i1 ∨ c = i2 := by simpa using hc
    rcases e' with q | q | q | q | q
    · rw [q]; exact ⟨_, hz, fun v q => nomatch q⟩
    · rw [q]; exact ⟨_, hTI, fun v q => nomatch q⟩
    · rw [q]; exact ⟨_, hTO, fun v q => nomatch q⟩
    · rw [q]
      cases k
      · obtain ⟨o, e, _, d⟩ := (show h.IsTupleIter i1 a i from h1); exact ⟨o, e, fun v q => by rw [d] at q; cases q⟩
      · obtain ⟨o, e, _, d⟩ := (show h.IsListIter i1 a i from h1); exact ⟨o, e, fun v q => by rw [d] at q; cases q⟩
    · rw [q]
      cases k'
      · obtain ⟨o, e, _, d⟩ := (show h.IsTupleIter i2 b i from h2); exact ⟨o, e, fun v q => by rw [d] at q; cases q⟩
      · obtain ⟨o, e, _, d⟩ := (show h.IsListIter i2 b i from h2); exact ⟨o, e, fun v q => by rw [d] at q; cases q⟩
  keep := fun i h h' st kp => by
    obtain ⟨hz, hTI, ⟨x, y, hTO⟩, h1, h2⟩ := st
    exact ⟨kp z (by simp) _ hz, kp TI (by simp) _ hTI, ⟨x, y, kp TO (by simp) _ hTO⟩, h1.keep fun o q => kp i1 (by simp) o q, h2.keep fun o q => kp i2 (by simp) o q⟩
  item := by
    intro X hP hw hK hc i pins s σ H E I hf st hg
    subst hP hw hK
    obtain ⟨hz, hTI, ⟨x0, y0, hTO⟩, h1, h2⟩ := st
    obtain ⟨xs, ys, x, y, hqx, hqy, hx, hy⟩ := hg
    obtain ⟨its, rv, p⟩ := SqK.at I hqx
    obtain ⟨its2, rv2, p2⟩ := SqK.at I hqy
    obtain ⟨u, hu, ru⟩ := rv.get hx
    obtain ⟨u2, hu2, ru2⟩ := rv2.get hy
    have hzl : z < s.heap.objs.size := PySem.Heap.lt_size hz
    have l1 : i < its.toArray.size := by have := (List.getElem?_eq_some_iff.mp hu).1; simpa using this
    have l2 : i < its2.toArray.size := by have := (List.getElem?_eq_some_iff.mp hu2).1; simpa using this
    refine PySem.wpAny_pyNext_zipD2_item D (draws_sq k (A := X.A.in1) (I.ok.hd hc) i1 a hai its.toArray) (draws_sq k' (A := X.A.in1) (I.ok.hd hc) i2 b hbi its2.toArray) hz hTI hTO ⟨h1, p⟩ ⟨h2, p2⟩ l1 l2 fun v1 v2 h' tk e1 e2 z' TO' h1' h2' hT hsz hk => ?_
    have q1 : v1 = u := by
      have : its[i]? = some v1 := by simpa using e1
      rw [hu] at this; exact (Option.some.inj this).symm
    have q2 : v2 = u2 := by
      have : its2[i]? = some v2 := by simpa using e2
      rw [hu2] at this; exact (Option.some.inj this).symm
    subst q1 q2
    refine ⟨_, rfl, PySem.wpAny_letOwnedTupleGo_zip (s := { s with heap := h', toks := tk }) z' fun h'' z'' sb => ?_⟩
    have hT2 : h''.get? s.heap.objs.size = some { cls := .type "tuple", data := .seq #[v1, v2] } := (sb.2 _ (Nat.ne_of_gt hzl)).trans hT
    have new : L2.ObjOk X.prog X.w (L2.upd H s.heap.objs.size (.tup [x, y])) h'' s.heap.objs.size (.tup [x, y]) :=
      ⟨by show 2 ≤ PySem.sizeLine; decide, [v1, v2], .cons ru (.cons ru2 .nil), ⟨_, hT2, rfl, _, rfl⟩⟩
    have I1 : L2.Inv X pins σ (L2.upd H s.heap.objs.size (.tup [x, y])) { s with heap := h'', toks := tk } :=
      I.turnedNew (t' := tk) (ch := [z, TI, TO, i1, i2]) (fun c o hb q => (sb.2 c (fun q' => hb (by simp [q']))).trans (hk c o (fun q' => hb (by simp [q'])) (fun q' => hb (by simp [q'])) (fun q' => hb (by simp [q'])) (fun q' => hb (by simp [q'])) q)) hf (Nat.le_refl _) new
    refine ⟨.ref s.heap.objs.size, _, I1, rfl, ⟨_, x, y, rfl, I.hok.fresh (Nat.le_refl _), rfl, fun l hl => by rw [SqK.inj I hl hqx]; exact hx, fun l hl => by rw [SqK.inj I hl hqy]; exact hy⟩, ⟨z'', ?_, ⟨v1, v2, ?_⟩, ?_, ?_⟩, fun c hcm => ?_⟩
    · exact (sb.2 _ D.TIz).trans (hk _ _ D.TIz D.TITO D.TIi1 D.TIi2 hTI)
    · exact (sb.2 _ D.TOz).trans TO'
    · exact h1'.1.keep fun o q => (sb.2 _ D.zi1.symm).trans q
    · exact h2'.1.keep fun o q => (sb.2 _ D.zi2.symm).trans q
    · have hlt : c < s.heap.objs.size := by
        have e' : c = z ∨ c = TI ∨ c = TO ∨ c = i1 ∨ c = i2 := by simpa using hcm
        rcases e' with q | q | q | q | q
        · rw [q]; exact hzl
        · rw [q]; exact PySem.Heap.lt_size hTI
        · rw [q]; exact PySem.Heap.lt_size hTO
        · rw [q]
          cases k
          · obtain ⟨_, e, _⟩ := (show s.heap.IsTupleIter i1 a i from h1); exact PySem.Heap.lt_size e
          · obtain ⟨_, e, _⟩ := (show s.heap.IsListIter i1 a i from h1); exact PySem.Heap.lt_size e
        · rw [q]
          cases k'
          · obtain ⟨_, e, _⟩ := (show s.heap.IsTupleIter i2 b i from h2); exact PySem.Heap.lt_size e
          · obtain ⟨_, e, _⟩ := (show s.heap.IsListIter i2 b i from h2); exact PySem.Heap.lt_size e
      rw [L2.upd_ne (Nat.ne_of_lt hlt)]
      exact (hf c hcm).1
  done := by
    intro X hP hw hK hc i pins s σ H E I hf st hg
    subst hP hw hK
    obtain ⟨hz, hTI, ⟨x0, y0, hTO⟩, h1, h2⟩ := st
    obtain ⟨xs, ys, hqx, hqy, le1, le2, hend⟩ := hg
    obtain ⟨its, rv, p⟩ := SqK.at I hqx
    obtain ⟨its2, rv2, p2⟩ := SqK.at I hqy
    have l1 := rv.length
    have l2 := rv2.length
    refine PySem.wpAny_pyNext_zipD2_end D (draws_sq k (A := X.A.in1) (I.ok.hd hc) i1 a hai its.toArray) (draws_sq k' (A := X.A.in1) (I.ok.hd hc) i2 b hbi its2.toArray) hz hTI hTO ⟨h1, p⟩ ⟨h2, p2⟩ (by simp; omega) (by simp; omega) (by simp; omega) fun h' tk hk => ⟨rfl, ?_⟩
    exact I.turnedL (t' := tk) (ch := [z, TI, TO, i1, i2]) (fun c o hb q => hk c o (fun q' => hb (by simp [q'])) (fun q' => hb (by simp [q'])) (fun q' => hb (by simp [q'])) (fun q' => hb (by simp [q'])) q) hf
  self := fun A i s Q E st h => PySem.wpAny_pyIter_zip st.1 h
theorem sep_of (n a b : Nat) (la : a < n) (lb : b < n) : PySem.ZipSep2 (n + 4) (n + 2) (n + 3) n (n + 1) [n, a] [n + 1, b] := by
  have f : ∀ (x y u : Nat), x ≠ y → x ≠ u → x ∉ ([y, u] : List Nat) := fun x y u h1 h2 h => by
    rcases List.mem_cons.mp h with e | e
    · exact h1 e
    · exact h2 (List.mem_singleton.mp e)
  have e1 : n + 2 ≠ n + 4 := by omega
  have e2 : n + 3 ≠ n + 4 := by omega
  have e3 : n + 2 ≠ n + 3 := by omega
  have e4 : n + 2 ≠ n := by omega
  have e5 : n + 2 ≠ n + 1 := by omega
  exact ⟨e1, e2, e3, e4, List.mem_cons_self, f _ _ _ (by omega) (by omega), f _ _ _ (by omega) (by omega), e5, List.mem_cons_self, f _ _ _ (by omega) (by omega), f _ _ _ (by omega) (by omega), f _ _ _ (by omega) (by omega), f _ _ _ (by omega) (by omega)⟩
theorem five_le (n c : Nat) (h : c = n + 4 ∨ c = n + 2 ∨ c = n + 3 ∨ c = n ∨ c = n + 1) : n ≤ c := by omega
theorem ne_one (n b : Nat) (h : b < n) : b ≠ n + 1 := by omega
def iZipM (K : PySem.W.Frag) (ta : L2.TA) : L2.TI := fun σ H R => ta σ H fun vs H1 => ∃ k k' a b xs ys, vs = [.ref a, .ref b] ∧ SqK k K H1 a xs ∧ SqK k' K H1 b ys ∧ R (Itm k k' K a b) H1
theorem pi_zipMx {X : L2.Cx} {e e2 : Expr} {ta : L2.TA} {p pos tpos : PySem.Pos} {elts : List Expr} {kk : Nat} (hg : L2.Gl X (PySem.Str.ofString "zip")) (hm : X.mg (PySem.Str.ofString "zip") = none) (ha : L2.PA X [e, e2] ta)
    (hs : PySem.starEach [e, e2] X.env = (false, PySem.eval e X.env) :: PySem.starEach [e2] X.env) (hpl : (PySem.backTo pos (PySem.starEach [e2] X.env)).any (·.1) = false) :
    L2.PI X (.Tuple elts kk tpos) (.Call (.Name (PySem.Str.ofString "zip") p) [e, e2] [] pos) (iZipM X.K ta) := by
  refine ⟨fun pins s σ H R I h => ?_⟩
  refine PyProof.Rows.Call_ (L2.ld_blt I hg hm PyProof.Rows.boot_zip (PyProof.Rows.callWith_type1 (L2.thn (ha.run pos pins s σ H _ I h) fun us s1 ⟨vs, H1, I1, r1, q1⟩ => ?_) hs hpl))
  obtain ⟨k, k', a, b, xs, ys, ex, hqx, hqy, q⟩ := q1
  subst ex
  cases r1 with
  | cons r rr =>
    cases rr with
    | cons r' rr =>
      cases rr
      cases r
      cases r'
      obtain ⟨its, rv, p1⟩ := SqK.at I1 hqx
      obtain ⟨its2, rv2, p2⟩ := SqK.at I1 hqy
      have lt : ∀ {k : Bool} {a : Addr} {xs : Array Value}, IsSq k s1.heap a xs → a < s1.heap.objs.size := fun {k a xs} h => by
        cases k
        · obtain ⟨o, e, _⟩ := (show s1.heap.IsTuple a xs from h); exact PySem.Heap.lt_size e
        · obtain ⟨o, e, _⟩ := (show s1.heap.IsList a xs from h); exact PySem.Heap.lt_size e
      have la := lt p1
      have lb := lt p2
      refine call_zipM k k' p1 p2 fun h' hz hTI hTO h1 h2 hk => PySem.wpAny_pyIter_zip hz ?_
      have I2 : L2.Inv X pins σ H1 { s1 with heap := h' } := I1.kept (t' := s1.toks) hk
      refine ⟨s1.heap.objs.size + 4, [s1.heap.objs.size + 4, s1.heap.objs.size + 2, s1.heap.objs.size + 3, s1.heap.objs.size, s1.heap.objs.size + 1], _, _, H1, rfl, I2, turn_zipM k k' (TI := s1.heap.objs.size + 2) (TO := s1.heap.objs.size + 3) (i1 := s1.heap.objs.size) (i2 := s1.heap.objs.size + 1) (sep_of _ _ _ la lb) (Nat.ne_of_lt la) (ne_one _ _ lb), ⟨hz, hTI, ⟨_, _, hTO⟩, h1, h2⟩, fun c hcm => ?_, q⟩
      · have e' : c = s1.heap.objs.size + 4 ∨ c = s1.heap.objs.size + 2 ∨ c = s1.heap.objs.size + 3 ∨ c = s1.heap.objs.size ∨ c = s1.heap.objs.size + 1 := by simpa using hcm
        have hle : s1.heap.objs.size ≤ c := five_le _ _ e'
        exact I1.fpOk hle (I1.hok.fresh hle)
end M

end
section
set_option Elab.async false
set_option linter.all false
set_option autoImplicit false
set_option maxRecDepth 100000
set_option maxHeartbeats 4000000
/-! what a loop walks -/
namespace M
open PySem (Addr Obj Value Str PyData Heap NestedKey Expr)
/-- the iterator yields these items, as long as the cells stay -/
structure Walk (X : L2.Cx) (ρ0 : List Addr) (H0 : LHp) (J : L2.It) (xs : List D) (l : List (Nat × Cell)) : Prop where
  go : ∀ (ρ : List Addr) (hp : Hm) (H : LHp) (i : Nat) (d : D), ρ0 <+: ρ → TK H0 H → HRX X ρ hp H → still l hp → xs[i]? = some d → J.go i H ∧ ∀ x H', J.yld i H x H' → RV X.K ρ H' d x ∧ TK H H' ∧ HRX X ρ hp H'
  stop : ∀ (ρ : List Addr) (hp : Hm) (H : LHp) (i : Nat), ρ0 <+: ρ → TK H0 H → HRX X ρ hp H → still l hp → xs.length = i → J.stop i H
section
variable {X : L2.Cx} {F : FnS} (hF : FMono F) {E : XP}
/-- a source's reading -/
def iM (X : L2.Cx) (F : FnS) (E : XP) (k : IK) (it : List CE) : L2.TI := fun σ H R => ∃ ρ env hp, HRX X ρ hp H ∧ EnvR X.K ρ H env σ ∧
  wpEs F E it env hp fun ds h1 => ws (iterS k ds h1) fun I => ∀ ρ1 H1 J, ρ <+: ρ1 → TK H H1 → HRX X ρ1 h1 H1 → Walk X ρ1 H1 J I.1 I.2 → R J H1
theorem PI.imp {tg e : Expr} {t t' : L2.TI} (h : L2.PI X tg e t) (k : ∀ σ H R, t' σ H R → t σ H R) : L2.PI X tg e t' := ⟨fun pins s σ H R I q => h.run pins s σ H R I (k σ H R q)⟩
theorem get_pre {ρ0 ρ : List Addr} {i : Nat} {a : Addr} (p : ρ0 <+: ρ) (h : ρ0[i]? = some a) : ρ[i]? = some a := pre_get p h
theorem getL_of {hp : Hm} {i : Nat} {c : Cell} {ds : List D} (h : hp[i]? = some c) (e : c = .lst ds ∨ c = .ro ds) : getL hp i = some ds := by
  unfold getL
  rcases e with rfl | rfl <;> rw [h]
theorem getL_cell {hp : Hm} {i : Nat} {ds : List D} (h : getL hp i = some ds) : ∃ c, hp[i]? = some c ∧ (c = .lst ds ∨ c = .ro ds) := by
  unfold getL at h
  split at h
  · rename_i e; cases h; exact ⟨_, e, .inl rfl⟩
  · rename_i e; cases h; exact ⟨_, e, .inr rfl⟩
  · cases h
/-- the list at a cell, wherever it stays -/
theorem still_list {ρ0 ρ : List Addr} {hp0 hp : Hm} {H : LHp} {i : Nat} {a : Addr} {c : Cell} {ds : List D} (ha : ρ0[i]? = some a) (p : ρ0 <+: ρ) (hc : c = .lst ds ∨ c = .ro ds) (st : hp[i]? = some c) (hr : HRX X ρ hp H) : ∃ ys, L2.SqL X.K H a ys ∧ RVs X.K ρ H ds ys := by
  obtain ⟨a', ys, ha', sq, r⟩ := hr.getL (getL_of st hc)
  have := pre_get p ha
  rw [this] at ha'
  cases ha'
  exact ⟨ys, sq, r⟩
theorem walk_list {ρ0 : List Addr} {H0 : LHp} {i : Nat} {a : Addr} {c : Cell} {ds : List D} (ha : ρ0[i]? = some a) (hc : c = .lst ds ∨ c = .ro ds) : Walk X ρ0 H0 (L2.Itl X.K a) ds [(i, c)] where
  go ρ hp H k d p t hr st hk := by
    obtain ⟨ys, sq, r⟩ := still_list (hp0 := hp) ha p hc (st _ (List.mem_singleton_self _)) hr
    obtain ⟨v, hv, rv⟩ := r.get hk
    refine ⟨⟨ys, v, sq, hv⟩, fun x H' ⟨e, q⟩ => ?_⟩
    subst e
    have := q ys sq
    rw [hv] at this
    cases this
    exact ⟨rv, TK.refl _, hr⟩
  stop ρ hp H k p t hr st hk := by
    have hk := Nat.le_of_eq hk
    obtain ⟨ys, sq, r⟩ := still_list (hp0 := hp) ha p hc (st _ (List.mem_singleton_self _)) hr
    exact ⟨ys, sq, by rw [← r.length]; exact hk⟩
theorem walk_tup {ρ0 : List Addr} {H0 : LHp} {a : Addr} {ys : List LV} {ds : List D} (sq : L2.SqT X.K H0 a ys) (r : RVs X.K ρ0 H0 ds ys) : Walk X ρ0 H0 (L2.Itt X.K a) ds [] where
  go ρ hp H k d p t hr st hk := by
    have sq' := t.sqT sq
    obtain ⟨v, hv, rv⟩ := r.get hk
    refine ⟨⟨ys, v, sq', hv⟩, fun x H' ⟨e, q⟩ => ?_⟩
    subst e
    have := q ys sq'
    rw [hv] at this
    cases this
    exact ⟨rv.mono p t, TK.refl _, hr⟩
  stop ρ hp H k p t hr st hk := ⟨ys, t.sqT sq, by rw [← r.length]; exact Nat.le_of_eq hk⟩
theorem rng_get {lo : Int} {n i : Nat} {d : D} (h : (rngD lo n)[i]? = some d) : i < n ∧ d = .int (lo + i) := by
  unfold rngD at h
  rw [List.getElem?_map, Option.map_eq_some_iff] at h
  obtain ⟨j, h1, h2⟩ := h
  rw [List.getElem?_eq_some_iff] at h1
  obtain ⟨h1, h3⟩ := h1
  simp at h1 h3
  subst h3
  exact ⟨h1, h2.symm⟩
theorem walk_rng {ρ0 : List Addr} {H0 : LHp} (lo : Int) (n : Nat) : Walk X ρ0 H0 (L2.Itr lo n) (rngD lo n) [] where
  go ρ hp H k d p t hr st hk := by
    obtain ⟨h1, rfl⟩ := rng_get hk
    refine ⟨h1, fun x H' ⟨e, q⟩ => ?_⟩
    subst e q
    exact ⟨.int _, TK.refl _, hr⟩
  stop ρ hp H k p t hr st hk := by
    have hk := Nat.le_of_eq hk
    have : (rngD lo n).length = n := by simp [rngD]
    rw [this] at hk
    exact hk
include hF
/-- a list or a tuple -/
theorem pi_valM {tg e : Expr} {c : CE} (h : L2.PE X e (RE X F E c)) : L2.PI X tg e (iM X F E .val [c]) := by
  refine ⟨fun pins s σ H R I ⟨ρ, env, hp, hr, he, w⟩ => ?_⟩
  unfold wpEs at w
  refine ev hF h ⟨I, hr, he⟩ w fun v s1 d x ρ1 hp1 H1 N1 p1 t1 rv ru q => ?_
  unfold wpEs at q
  obtain ⟨J, e, q⟩ := ws_iff.mp q
  simp only [iterS, Option.bind_eq_some_iff, Option.map_eq_some_iff] at e
  obtain ⟨xs, e1, l, e2, rfl⟩ := e
  cases d <;> simp only [seqOf] at e1 <;> first | (cases e1; done) | skip
  · obtain ⟨a, ys, rfl, sq, r⟩ := rv.tup_inv
    cases e1
    simp only [leanOn] at e2
    cases e2
    cases ru
    obtain ⟨its, rv', pl, hz⟩ := N1.I.tuple sq
    refine PySem.wpAny_pyIter_tuple (show s1.heap.IsTuple a its.toArray from pl) ?_
    refine L2.pi_one (tk := s1.toks) N1.I _ (L2.turn_tuple a _) ⟨_, PySem.Heap.get?_push_size _ rfl, rfl, rfl⟩ (q ρ1 H1 _ p1 t1 N1.hr (walk_tup sq r))
  · obtain ⟨a, rfl, ha⟩ := rv.ref_inv
    cases ru
    obtain ⟨a', ys, ha', sq, r⟩ := N1.hr.getL e1
    obtain rfl := ref_eq ha ha'
    obtain ⟨c', hc', cc⟩ := getL_cell e1
    simp only [leanOn, hc', Option.map_some] at e2
    cases e2
    obtain ⟨its, rv', pl, hz⟩ := N1.I.list sq
    refine PySem.wpAny_pyIter_list pl.isList ?_
    exact L2.pi_one (tk := s1.toks) N1.I _ (L2.turn_list a _) ⟨_, PySem.Heap.get?_push_size _ rfl, rfl, rfl⟩ (q ρ1 H1 _ p1 t1 N1.hr (walk_list ha cc))

omit hF in
theorem one_plain {a : Expr} {env : PySem.Env} (h : plainE a = true) : PySem.starEach [a] env = [(false, PySem.eval a env)] := star_plain h
/-- range(a), range(a, b) -/
theorem pi_rng1M {tg a : Expr} {c : CE} {p pos : PySem.Pos} {x : Str} (hx : x = PySem.Str.ofString "range") (hg : L2.Gl X x) (hm : X.mg x = none) (ha : L2.PA X [a] (RA X F E [c])) (hp : plainE a = true) : L2.PI X tg (.Call (.Name x p) [a] [] pos) (iM X F E .range [c]) := by
  subst hx
  refine PI.imp (L2.pi_range1 hg hm ha (one_plain hp)) fun σ H R ⟨ρ, env, hp, hr, he, w⟩ => ⟨ρ, env, hp, hr, he, wpEs_mono hF [c] E env hp _ _ (wpEs_len hF [c] env hp _ w) fun ds h1 ⟨hl, q⟩ ρ1 H1 vs p1 t1 hr1 rv1 => ?_⟩
  obtain ⟨I, e, q⟩ := ws_iff.mp q
  rcases ds with _ | ⟨d, _ | ⟨d2, ds⟩⟩ <;> try (simp at hl; done)
  cases d <;> try (simp [iterS] at e; done)
  obtain ⟨v, rfl, rv⟩ := rv1.one_inv
  obtain rfl := rv.int_inv
  simp only [iterS] at e
  split at e
  · rename_i hs
    cases e
    have := small_le hs
    exact ⟨_, rfl, by omega, by omega, q ρ1 H1 _ p1 t1 hr1 (walk_rng 0 _)⟩
  · cases e
theorem pi_rng2M {tg a b : Expr} {c c' : CE} {p pos : PySem.Pos} {x : Str} (hx : x = PySem.Str.ofString "range") (hg : L2.Gl X x) (hm : X.mg x = none) (ha : L2.PA X [a, b] (RA X F E [c, c'])) (hp : plainE a = true) (hp' : plainE b = true) : L2.PI X tg (.Call (.Name x p) [a, b] [] pos) (iM X F E .range [c, c']) := by
  subst hx
  refine PI.imp (L2.pi_range2 hg hm ha (by rw [star_plain hp, one_plain hp']) (one_plain hp')) fun σ H R ⟨ρ, env, hp, hr, he, w⟩ => ⟨ρ, env, hp, hr, he, wpEs_mono hF [c, c'] E env hp _ _ (wpEs_len hF [c, c'] env hp _ w) fun ds h1 ⟨hl, q⟩ ρ1 H1 vs p1 t1 hr1 rv1 => ?_⟩
  obtain ⟨I, e, q⟩ := ws_iff.mp q
  rcases ds with _ | ⟨d, _ | ⟨d2, _ | ⟨d3, ds⟩⟩⟩ <;> try (simp at hl; done)
  cases d <;> cases d2 <;> try (simp [iterS] at e; done)
  obtain ⟨v, u, rfl, rv, ru⟩ := rv1.two_inv
  obtain rfl := rv.int_inv
  obtain rfl := ru.int_inv
  simp only [iterS] at e
  split at e
  · rename_i hs
    cases e
    rw [Bool.and_eq_true] at hs
    have := small_le hs.1
    have := small_le hs.2
    exact ⟨_, _, rfl, ⟨by omega, by omega, by omega, by omega⟩, q ρ1 H1 _ p1 t1 hr1 (walk_rng _ _)⟩
  · cases e
omit hF in
theorem zip_get {xs ys : List D} {i : Nat} {d : D} (h : (zipD xs ys)[i]? = some d) : ∃ x y, xs[i]? = some x ∧ ys[i]? = some y ∧ d = .tup [x, y] := by
  unfold zipD at h
  rw [List.getElem?_zipWith] at h
  split at h
  · rename_i x y h1 h2
    cases h
    exact ⟨x, y, h1, h2, rfl⟩
  · cases h
omit hF in
theorem zip_end {xs ys : List D} {i : Nat} (h : (zipD xs ys).length ≤ i) : xs.length ≤ i ∨ ys.length ≤ i := by
  unfold zipD at h
  rw [List.length_zipWith] at h
  omega
omit hF in
theorem new_pair {ρ : List Addr} {hp : Hm} {H : LHp} {T : Addr} {d e : D} {x y : LV} (hr : HRX X ρ hp H) (hn : H T = none) (r1 : RV X.K ρ H d x) (r2 : RV X.K ρ H e y) :
    RV X.K ρ (L2.upd H T (.tup [x, y])) (.tup [d, e]) (.ref T) ∧ TK H (L2.upd H T (.tup [x, y])) ∧ HRX X ρ hp (L2.upd H T (.tup [x, y])) := by
  have t : TK H (L2.upd H T (.tup [x, y])) := TK.new hn
  exact ⟨.tup (L2.SqT.of L2.upd_same) (.cons (r1.mono (List.prefix_refl _) t) (.cons (r2.mono (List.prefix_refl _) t) .nil)), t, hr.new hn⟩
omit hF in
/-- a list or a tuple that stays -/
theorem seq_stay {ρ0 : List Addr} {hp0 : Hm} {H0 : LHp} {d : D} {v : LV} {xs : List D} {l : List (Nat × Cell)} (hr0 : HRX X ρ0 hp0 H0) (rv : RV X.K ρ0 H0 d v) (e1 : seqOf hp0 d = some xs) (e2 : leanOn hp0 d = some l) :
    ∃ k a, v = .ref a ∧ (∃ ys, SqK k X.K H0 a ys) ∧ ∀ (ρ : List Addr) (hp : Hm) (H : LHp), ρ0 <+: ρ → TK H0 H → HRX X ρ hp H → still l hp → ∃ ys, SqK k X.K H a ys ∧ RVs X.K ρ H xs ys := by
  cases d <;> simp only [seqOf] at e1 <;> first | (cases e1; done) | skip
  · obtain ⟨a, ys, rfl, sq, r⟩ := rv.tup_inv
    cases e1
    exact ⟨false, a, rfl, ⟨ys, sq⟩, fun ρ hp H p t hr st => ⟨ys, t.sqT sq, r.mono p t⟩⟩
  · obtain ⟨a, rfl, ha⟩ := rv.ref_inv
    obtain ⟨c1, h1c, cc1⟩ := getL_cell e1
    simp only [leanOn, h1c, Option.map_some] at e2
    cases e2
    obtain ⟨a', zs, ha', sq, r⟩ := hr0.getL e1
    obtain rfl := ref_eq ha ha'
    exact ⟨true, a, rfl, ⟨zs, sq⟩, fun ρ hp H p t hr st => still_list (hp0 := hp) ha p cc1 (st _ (List.mem_singleton_self _)) hr⟩
theorem pi_zipM {a b : Expr} {elts : List Expr} {kk : Nat} {c c' : CE} {p pos tpos : PySem.Pos} {x : Str} (hx : x = PySem.Str.ofString "zip") (hg : L2.Gl X x) (hm : X.mg x = none) (ha : L2.PA X [a, b] (RA X F E [c, c'])) (hp : plainE a = true) (hp' : plainE b = true) : L2.PI X (.Tuple elts kk tpos) (.Call (.Name x p) [a, b] [] pos) (iM X F E .zip [c, c']) := by
  subst hx
  refine PI.imp (pi_zipMx hg hm ha (star_plain hp) (any_plain (by simp [hp']))) fun σ H R ⟨ρ, env, hp, hr, he, w⟩ => ⟨ρ, env, hp, hr, he, wpEs_mono hF [c, c'] E env hp _ _ (wpEs_len hF [c, c'] env hp _ w) fun ds h1 ⟨hl, q⟩ ρ1 H1 vs p1 t1 hr1 rv1 => ?_⟩
  obtain ⟨I, e, q⟩ := ws_iff.mp q
  rcases ds with _ | ⟨d, _ | ⟨d2, _ | ⟨d3, ds⟩⟩⟩ <;> try (simp at hl; done)
  obtain ⟨v, u, rfl, rv, ru⟩ := rv1.two_inv
  simp only [iterS, Option.bind_eq_some_iff, Option.map_eq_some_iff] at e
  obtain ⟨xs, e1, ys, e2, l, e3, m, e4, rfl⟩ := e
  obtain ⟨k, a1, rfl, ⟨q1, s1⟩, stay1⟩ := seq_stay hr1 rv e1 e3
  obtain ⟨k', b1, rfl, ⟨q2, s2⟩, stay2⟩ := seq_stay hr1 ru e2 e4
  refine ⟨k, k', a1, b1, q1, q2, rfl, s1, s2, q ρ1 H1 _ p1 t1 hr1 ⟨fun ρ hp H i d p t hr st hk => ?_, fun ρ hp H i p t hr st hk => ?_⟩⟩
  · obtain ⟨zs, sq, r⟩ := stay1 ρ hp H p t hr fun x hx => st x (List.mem_append_left _ hx)
    obtain ⟨ws, sq', r'⟩ := stay2 ρ hp H p t hr fun x hx => st x (List.mem_append_right _ hx)
    obtain ⟨x, y, h1, h2, rfl⟩ := zip_get hk
    obtain ⟨v, hv, rv⟩ := r.get h1
    obtain ⟨u, hu, ru⟩ := r'.get h2
    refine ⟨⟨zs, ws, v, u, sq, sq', hv, hu⟩, fun z H' ⟨T, x', y', e1, hn, e2, q1, q2⟩ => ?_⟩
    subst e1 e2
    have := q1 zs sq; rw [hv] at this; cases this
    have := q2 ws sq'; rw [hu] at this; cases this
    exact new_pair hr hn rv ru
  · obtain ⟨zs, sq, r⟩ := stay1 ρ hp H p t hr fun x hx => st x (List.mem_append_left _ hx)
    obtain ⟨ws, sq', r'⟩ := stay2 ρ hp H p t hr fun x hx => st x (List.mem_append_right _ hx)
    have l1 := r.length
    have l2 := r'.length
    have hz : (zipD xs ys).length = min xs.length ys.length := by unfold zipD; rw [List.length_zipWith]
    have hk : (zipD xs ys).length = i := hk
    exact ⟨zs, ws, sq, sq', by omega, by omega, by omega⟩
omit hF in
theorem enum_get {xs : List D} {i : Nat} {d : D} (h : (enumD xs)[i]? = some d) : ∃ x, xs[i]? = some x ∧ d = .tup [.int i, x] := by
  unfold enumD at h
  rw [List.getElem?_map, Option.map_eq_some_iff] at h
  obtain ⟨⟨x, j⟩, h1, h2⟩ := h
  rw [List.getElem?_zipIdx, Option.map_eq_some_iff] at h1
  obtain ⟨y, h3, h4⟩ := h1
  cases h4
  exact ⟨x, h3, by rw [← h2]; simp⟩
omit hF in
theorem walk_enumL {ρ0 : List Addr} {H0 : LHp} {i : Nat} {a : Addr} {c : Cell} {ds : List D} (ha : ρ0[i]? = some a) (hc : c = .lst ds ∨ c = .ro ds) : Walk X ρ0 H0 (L2.Ite X.K a) (enumD ds) [(i, c)] where
  go ρ hp H k d p t hr st hk := by
    obtain ⟨ys, sq, r⟩ := still_list (hp0 := hp) ha p hc (st (i, c) (by simp)) hr
    obtain ⟨x, h1, rfl⟩ := enum_get hk
    obtain ⟨v, hv, rv⟩ := r.get h1
    refine ⟨⟨ys, v, sq, hv⟩, fun z H' ⟨T, x', e1, hn, e2, q1⟩ => ?_⟩
    subst e1 e2
    have := q1 ys sq; rw [hv] at this; cases this
    exact new_pair hr hn (.int _) rv
  stop ρ hp H k p t hr st hk := by
    have hk := Nat.le_of_eq hk
    obtain ⟨ys, sq, r⟩ := still_list (hp0 := hp) ha p hc (st (i, c) (by simp)) hr
    exact ⟨ys, sq, by rw [← r.length]; simpa [enumD] using hk⟩
theorem pi_enumM {a : Expr} {elts : List Expr} {kk : Nat} {c : CE} {p pos tpos : PySem.Pos} {x : Str} (hx : x = PySem.Str.ofString "enumerate") (hg : L2.Gl X x) (hm : X.mg x = none) (ha : L2.PA X [a] (RA X F E [c])) (hp : plainE a = true) : L2.PI X (.Tuple elts kk tpos) (.Call (.Name x p) [a] [] pos) (iM X F E .enum [c]) := by
  subst hx
  refine PI.imp (L2.pi_enum hg hm ha (one_plain hp)) fun σ H R ⟨ρ, env, hp, hr, he, w⟩ => ⟨ρ, env, hp, hr, he, wpEs_mono hF [c] E env hp _ _ (wpEs_len hF [c] env hp _ w) fun ds h1 ⟨hl, q⟩ ρ1 H1 vs p1 t1 hr1 rv1 => ?_⟩
  obtain ⟨I, e, q⟩ := ws_iff.mp q
  rcases ds with _ | ⟨d, _ | ⟨d2, ds⟩⟩ <;> try (simp at hl; done)
  obtain ⟨v, rfl, rv⟩ := rv1.one_inv
  cases d <;> try (simp [iterS] at e; done)
  obtain ⟨a1, rfl, ha1⟩ := rv.ref_inv
  simp only [iterS, Option.bind_eq_some_iff, Option.map_eq_some_iff] at e
  obtain ⟨xs, e1, l, e3, rfl⟩ := e
  obtain ⟨c1, h1c, cc1⟩ := getL_cell e1
  simp only [leanOn, h1c, Option.map_some] at e3
  cases e3
  obtain ⟨a', zs, ha', sq, r⟩ := hr1.getL e1
  obtain rfl := ref_eq ha1 ha'
  exact ⟨a1, zs, rfl, sq, q ρ1 H1 _ p1 t1 hr1 (walk_enumL ha1 cc1)⟩
end
end M

end
section
set_option Elab.async false
set_option linter.all false
set_option autoImplicit false
set_option maxRecDepth 100000
set_option maxHeartbeats 4000000
/-! dict comprehensions, keys of any kind -/
namespace M
open PySem (Addr Obj Value Str PyData Heap NestedKey Expr Shared wpAny model dictSet)
/-- what a turn's store at D asks: of whoever holds the invariant -/
def DSet (P : PySem.Program) (w : PySem.World) (K : PySem.W.Frag) (A : PySem.Around) (D : Addr) (y z : LV) (H : LHp) (Nx : LHp → Prop) : Prop :=
  ∀ (X : L2.Cx) (pins : List (Addr × Obj)) (σ : L2.St) (s : Shared) (u r : Value) (Q : Unit → Shared → Prop) (E : Value → Shared → Prop), X.prog = P → X.w = w → X.K = K → X.A = A → L2.Inv X pins σ H s → L2.RelV y u → L2.RelV z r →
    (∀ H' s', L2.Inv X pins σ H' s' → Nx H' → Q () s') → wpAny (model P w) A (dictSet D u r) Q E s
def tDX (X : L2.Cx) (wi : L2.TI) (g : L2.TG) (tt : L2.TT) (tk tv : L2.TE) (vs : List Nat) : L2.TE := fun σ H Q => wi σ H fun J H1 => ∀ D, H1 D = none → ∃ W : Nat → Nat → LHp → Prop, (∃ m, W 0 m (L2.upd H1 D (.dK []))) ∧ ∀ i m H, W i m H →
  (J.stop i H ∧ Q (.ref D) H) ∨ (J.go i H ∧ ∃ Nx : LHp → Prop, (∀ H', Nx H' → ∃ m', m' < m ∧ W (i + 1) m' H') ∧ ∀ x H', J.yld i H x H' → g x (L2.wipe σ vs) H' fun σ2 H2 => L2.wipe σ2 vs = L2.wipe σ vs ∧ tt σ2 H2 fun b H3 =>
    if b = true then tk σ2 H3 fun y H4 => tv σ2 H4 fun z H5 => DSet X.prog X.w X.K X.A D y z H5 Nx else Nx H3)
section
variable {X : L2.Cx}
open L2 PySem PySem.Spec PyProof.Rows in
theorem pe_dcX {kx vx tg iter : Expr} {ifs : List Expr} {scope : PySem.Scope} {own : List (Str × Nat)} {pos : PySem.Pos} {wi : L2.TI} {g : L2.TG} {tt : L2.TT} {tk tv : L2.TE} (hc : X.calm = true) (hN : X.N.Nodup) (hi : L2.PI X tg iter wi) (ok : L2.BlkOk X.N X.env.scope scope own)
    (hg : ∀ (s : Shared) (H : LHp) (C : Addr) (cl : List (Str × Addr)) (fp : List Addr), L2.PG (X.blk s H scope (PySem.compEnvC scope cl C X.env) fp) tg g) (ht : ∀ (s : Shared) (H : LHp) (C : Addr) (cl : List (Str × Addr)) (fp : List Addr), L2.PTs (X.blk s H scope (PySem.compEnvC scope cl C X.env) fp) ifs tt)
    (hk : ∀ (s : Shared) (H : LHp) (C : Addr) (cl : List (Str × Addr)) (fp : List Addr), L2.PE (X.blk s H scope (PySem.compEnvC scope cl C X.env) fp) kx tk)
    (he : ∀ (s : Shared) (H : LHp) (C : Addr) (cl : List (Str × Addr)) (fp : List Addr), L2.PE (X.blk s H scope (PySem.compEnvC scope cl C X.env) fp) vx tv) (hs : ∀ x, PySem.foldedSetIterable iter X.env x = pure x) :
    L2.PE X (.DictComp kx vx [⟨tg, iter, ifs, 0⟩] scope pos) (tDX X wi g tt tk tv (own.map (·.2))) := by
  refine ⟨fun pins s σ H Q I h => ?_⟩
  rw [arm_eval_DictComp]
  have hfree : ∀ y ∈ scope.names, y.2 = .free → ∃ c, X.env.cells.lookup y.1 = some c := fun y hy e => by
    rcases ok.free y hy e with k | k
    · exact I.ok.has _ (.inl k)
    · exact I.ok.has _ (.inr k)
  refine wpAny_comprehension_free (use := none) rfl hs (closure_ok hfree) ok.kind (fun y hy e => by rw [ok.uniq y hy, e])
    (thn (hi.run pins s σ H _ I h) fun xv s1 hx => thn hx fun itv s2 h2 => ?_)
  obtain ⟨it, fp, tn, J, H2, e, I2, T, st2, f2, q⟩ := h2
  subst e
  refine wpAny_newObj_type (newEnv_comp ?_)
  generalize hD : s2.heap.objs.size = D
  have hDn : H2 D = none := I2.hok.fresh (Nat.le_of_eq hD)
  obtain ⟨W, ⟨m0, w0⟩, turn⟩ := q D hDn
  generalize hs3 : ({ s2 with heap := s2.heap.push { cls := .type "dict", data := .dict #[] } } : Shared) = s3
  have I3 : Inv X pins σ (upd H2 D (.dK [])) s3 := by
    rw [← hs3]
    refine I2.laid (t' := s2.toks) (fun b o e => Heap.get?_push_of_some _ e) (Nat.le_of_eq hD) ?_
    rw [← hD]
    exact dk_empty s2.heap I2.big
  have h3 : s3.heap = s2.heap.push { cls := .type "dict", data := .dict #[] } := by rw [← hs3]
  have sz : ∀ b ∈ fp, b < s2.heap.objs.size := fun b hb => by
    obtain ⟨o, e, _⟩ := T.obj _ _ st2 b hb
    exact Heap.lt_size e
  have f3 : ∀ b ∈ fp, FpOk X pins (upd H2 D (.dK [])) b ∧ b < s3.heap.objs.size := fun b hb => by
    have hlt := sz b hb
    refine ⟨⟨?_, (f2 b hb).2⟩, by rw [h3, Heap.size_push]; exact Nat.lt_succ_of_lt hlt⟩
    rw [upd_ne (by rw [← hD]; exact Nat.ne_of_lt hlt)]
    exact (f2 b hb).1
  have st3 : tn 0 s3.heap := T.keep _ _ _ st2 fun b _ o e => by rw [h3]; exact Heap.get?_push_of_some _ e
  have I4 := block_start I3 ok hN f3
  have pg := hg s3 (upd H2 D (.dK [])) s3.heap.objs.size (cellsFrom (s3.heap.objs.size + 1) scope.names (cloFrom X.env.cells scope.names [])) fp
  have pt := ht s3 (upd H2 D (.dK [])) s3.heap.objs.size (cellsFrom (s3.heap.objs.size + 1) scope.names (cloFrom X.env.cells scope.names [])) fp
  have pk := hk s3 (upd H2 D (.dK [])) s3.heap.objs.size (cellsFrom (s3.heap.objs.size + 1) scope.names (cloFrom X.env.cells scope.names [])) fp
  have pe := he s3 (upd H2 D (.dK [])) s3.heap.objs.size (cellsFrom (s3.heap.objs.size + 1) scope.names (cloFrom X.env.cells scope.names [])) fp
  show codeAny _ _ (.compStart (.DictComp kx vx [⟨tg, iter, ifs, 0⟩] scope pos) 0 (.ref it) (.ref D) (compEnvC scope (cellsFrom (s3.heap.objs.size + 1) scope.names (cloFrom X.env.cells scope.names [])) s3.heap.objs.size X.env)) (compPost (model X.prog X.w) X.A X.xe none (EP X pins σ Q) (.ref D) s3.heap.objs.size) { s3 with heap := pushCells (s3.heap.push { cls := .type "dict", data := .dict #[] }) scope.names }
  have nfp : ∀ b ∈ fp, (upd H2 D (.dK [])) b = none := fun b hb => (f3 b hb).1.1
  generalize hce : compEnvC scope (cellsFrom (s3.heap.objs.size + 1) scope.names (cloFrom X.env.cells scope.names [])) s3.heap.objs.size X.env = ce at I4 pg pt pk pe ⊢
  have cL : ce.locals = s3.heap.objs.size := by subst hce; rfl
  generalize hH3 : upd H2 D (.dK []) = H3 at I3 I4 pg pt pk pe w0 nfp f3
  generalize hs4 : ({ s3 with heap := pushCells (s3.heap.push { cls := .type "dict", data := .dict #[] }) scope.names } : Shared) = s4 at I4 ⊢
  have st4 : tn 0 s4.heap := T.keep _ _ _ st3 fun b _ o e => by rw [← hs4]; exact pushCells_keeps _ _ _ _ (Heap.get?_push_of_some _ e)
  have stat : ∀ {σ' : L2.St} {H' : Hp} {s' : Shared}, Inv (X.blk s3 H3 scope ce fp) [] σ' H' s' → (∀ b ∈ fp, H' b = none) → ∀ b ∈ fp, FpOk (X.blk s3 H3 scope ce fp) [] H' b := fun {σ' H' s'} I' hn b hb =>
    ⟨hn b hb, (I'.ok.exf b hb).1, I'.ok.exfs b hb, .inl hb, fun x c e => (I'.ok.exf b hb).2 x c e, fun p hp => absurd (show p ∈ ([] : List (Addr × Obj)) ++ [] from hp) (by simp)⟩
  have loop : codeAny (model X.prog X.w) X.A (.compLoop (.DictComp kx vx [⟨tg, iter, ifs, 0⟩] scope pos) 0 (.ref it) (.ref D) ce) (compPost (model X.prog X.w) X.A X.xe none (EP X pins σ Q) (.ref D) s3.heap.objs.size) s4 := by
    refine compLoop_anyD (fun n s' => ∃ i H', Inv (X.blk s3 H3 scope ce fp) [] (wipe σ (own.map (·.2))) H' s' ∧ tn i s'.heap ∧ (∀ b ∈ fp, H' b = none) ∧ W i n H') ?_ m0 ⟨0, H3, I4, st4, nfp, w0⟩
    rintro n s5 ⟨i, H5, I5, st5, n5, w5⟩
    rcases turn i n H5 w5 with ⟨stop, qq⟩ | ⟨go, Nx, hNx, step⟩
    · have td := T.done (X.blk s3 H3 scope ce fp) rfl rfl rfl hc i [] s5 _ H5 (fun _ _ => False) I5 (stat I5 n5) st5 stop
      refine thnF td fun r s6 ⟨hr, I6⟩ => ?_
      subst hr
      have I7 : Inv X pins σ H5 s6 := I3.call' (ch := fp) I6.os I6.base I6.hok I6.bare fun b hb => ⟨(f3 b hb).1.2.2.2.1, (f3 b hb).1.2.1, (f3 b hb).1.2.2.2.2.1, (f3 b hb).1.2.2.2.2.2⟩
      have nC : H5 s3.heap.objs.size = none := by
        have z : H5 ce.locals = none := I6.free
        rw [cL] at z
        exact z
      obtain ⟨m, hn, _⟩ := I6.loc
      have hn : s6.heap.Ns ce.locals m := hn
      rw [cL] at hn
      have f := I3.fpOk (Nat.le_refl _) nC
      refine ⟨m, hn, fun h'' sb => ?_⟩
      obtain ⟨f0, f1, f2, f3, f4, f5⟩ := f
      exact ⟨.ref D, H5, I7.turned (t' := s6.toks) (fun b o hb e => (sb.2 b hb).trans e) f0 f1 f3 f4 f5, rfl, qq⟩
    · have ti := T.item (X.blk s3 H3 scope ce fp) rfl rfl rfl hc i [] s5 _ H5 (fun _ _ => False) I5 (stat I5 n5) st5 go
      refine thnF ti fun r s6 ⟨u, hr, h6⟩ => ?_
      subst hr
      refine thnF h6 fun _ s7 ⟨x, H7, I7, r7, y7, st7, n7⟩ => ?_
      have I7' := I7.pinned (stat I7 n7) (T.obj _ _ st7)
      refine thnF (pg.run _ s7 _ H7 x u _ I7' r7 (step x H7 y7)) fun _ s8 ⟨σ8, H8, I8, hw8, q8⟩ => ?_
      refine thnF (pt.run _ s8 σ8 H8 _ I8 q8) fun b s9 ⟨H9, I9, q9⟩ => ?_
      have fin : ∀ {s' : Shared} {H' : Hp}, Inv (X.blk s3 H3 scope ce fp) ([] ++ pinsAt fp s7.heap) σ8 H' s' → Nx H' → ∃ m, m < n ∧ ∃ i H', Inv (X.blk s3 H3 scope ce fp) [] (wipe σ (own.map (·.2))) H' s' ∧ tn i s'.heap ∧ (∀ b ∈ fp, H' b = none) ∧ W i m H' := fun {s' H'} I' nx => by
        obtain ⟨m', hm, w'⟩ := hNx H' nx
        have pin' : ∀ b ∈ fp, ∀ o, s7.heap.get? b = some o → s'.heap.get? b = some o ∧ H' b = none := fun b hb o e =>
          let z := I'.pin (b, o) (List.mem_append_right _ (List.mem_append_right _ (mem_pinsAt hb e)))
          ⟨z.1, z.2.1⟩
        have hl : (wipe σ (own.map (·.2))).length = σ8.length := by rw [← hw8, wipe_length]
        refine ⟨m', hm, i + 1, H', (I'.unpinned (pins := [])).weak hl (fun j v e => ?_), T.keep _ _ _ st7 fun b hb o e => (pin' b hb o e).1, fun b hb => ?_, w'⟩
        · rw [← hw8] at e
          exact (wipe_some e).1
        · obtain ⟨o, e, _⟩ := T.obj _ _ st7 b hb
          exact (pin' b hb o e).2
      cases b with
      | false =>
        simp only [Bool.false_eq_true, if_false] at q9 ⊢
        exact fin I9 q9
      | true =>
        simp only [if_true] at q9 ⊢
        refine thnF (pk.run _ s9 σ8 H9 _ I9 q9) fun z s10 ⟨yk, H10, I10, r10, q10⟩ => ?_
        refine thnF (pe.run _ s10 σ8 H10 _ I10 q10) fun z2 s11 ⟨yv, H11, I11, r11, ds⟩ => ?_
        exact ds (X.blk s3 H3 scope ce fp) _ σ8 s11 _ _ _ _ rfl rfl rfl rfl I11 r10 r11 fun H12 s12 I12 nx => fin I12 nx
  exact codeAny_compStart_dict loop (T.self X.A 0 _ _ _ st4 loop)
/-- the store of a comprehension's turn -/
theorem d_dset {pins : List (Addr × Obj)} {s : Shared} {σ : L2.St} {H : LHp} {ρ : List Addr} {E : Value → Shared → Prop} {a : Addr} {kvs : List (D × D)} (hu : X.A.units + 9 < PySem.cLine) (I : L2.Inv X pins σ H s) (hc : CellX X ρ H a (.dct kvs)) {k d : D} {kv dv : LV} {u r : Value} (hk : keyIn kvs k = true) (rk : RV X.K ρ H k kv) (ru : L2.RelV kv u) (rd : RV X.K ρ H d dv) (rr : L2.RelV dv r) (hl : kvs.length < LIM) {Q : Unit → Shared → Prop}
    (h : ∀ s' o' u', H a = some u' → Chg u' → L2.Inv X pins σ (L2.upd H a o') s' → CellX X ρ (L2.upd H a o') a (.dct (dput kvs k d)) → Q () s') : wpAny (model X.prog X.w) X.A (dictSet a u r) Q E s := by
  obtain ⟨_, u', hu', cu'⟩ := cell_mut hc
  rcases isTup_cases k with ht | ⟨ks, rfl⟩
  · obtain ⟨kvs', kk, e, rel, lk, z⟩ := leaf_of hc hk ht
    obtain rfl := leaf_rv lk rk
    have hl' : kvs'.length < PySem.sizeLine := by rw [lim_eq, ← rel.length]; exact hl
    refine L2.d_dictSet I e hl' ru rr fun s' I' => h s' _ u' hu' cu' I' (.inl ⟨_, L2.upd_same, (rel.put lk rk rd).mono (List.prefix_refl _) (TK.put e trivial), ?_⟩)
    have := dput_length kvs k d
    omega
  · obtain ⟨xs, hm, rel, hs, hz⟩ := keyed_of I hc hk
    have hk' : keyOK (.tup ks) = true := by unfold keyIn at hk; exact (Bool.and_eq_true_iff.mp hk).1
    obtain ⟨b, ys, rfl, _, _⟩ := rk.tup_inv
    cases ru
    have rm : (PySem.nestedKind X.prog X.w).room X.A := by
      show X.A.units + 8 < PySem.cLine
      omega
    refine PySem.wpAny_dictSet_heap (hsz := hz) rm (key_at I hk' rk) hm (fun h' dd sb => ?_)
    obtain ⟨o', I', c'⟩ := stored_cell I hc hk' rk rd rr rel hs hl dd sb
    exact h _ o' u' hu' cu' I' c'
end
end M

end
section
set_option Elab.async false
set_option linter.all false
set_option autoImplicit false
set_option maxRecDepth 100000
set_option maxHeartbeats 4000000
/-! comprehensions -/
namespace M
open PySem (Addr Obj Value Str PyData Heap NestedKey Expr)
section
variable {X : L2.Cx} {F : FnS} (hF : FMono F) {E : XP}
/-- a clause's tests -/
def tsM (X : L2.Cx) (F : FnS) (cs : List CE) : L2.TT := fun σ H Q => ∃ ρ env hp, HRX X ρ hp H ∧ EnvR X.K ρ H env σ ∧ wpCs F cs env hp fun b hp' => ∀ ρ' H', ρ <+: ρ' → TK H H' → HRX X ρ' hp' H' → Q b H'
theorem PTs.imp {es : List Expr} {t t' : L2.TT} (h : L2.PTs X es t) (k : ∀ σ H Q, t' σ H Q → t σ H Q) : L2.PTs X es t' := ⟨fun pins s σ H Q I q => h.run pins s σ H Q I (k σ H Q q)⟩
theorem pts_nilM : L2.PTs X [] (tsM X F []) := PTs.imp L2.pts_nil fun σ H Q ⟨ρ, env, hp, hr, he, w⟩ => by
  unfold wpCs at w
  exact w ρ H (List.prefix_refl _) (TK.refl _) hr
include hF in
theorem pts_oneM {e : Expr} {c : CE} (h : L2.PT X e (RT X F (fun _ _ _ => False) c)) : L2.PTs X [e] (tsM X F [c]) := PTs.imp (L2.pts_one h) fun σ H Q ⟨ρ, env, hp, hr, he, w⟩ => by
  unfold wpCs at w
  refine ⟨ρ, env, hp, hr, he, wpE_mono hF c _ env hp _ _ w fun d h1 q => ws_mono q fun b q ρ' H' p t hr' => ?_⟩
  cases b with
  | true => unfold wpCs at q; exact q ρ' H' p t hr'
  | false => exact q ρ' H' p t hr'
theorem EnvR.wiped {K : PySem.W.Frag} {ρ : List Addr} {H : LHp} {env : Env} {σ σ' : L2.St} {vs : List Nat} (h : EnvR K ρ H env σ) (e : L2.wipe σ' vs = L2.wipe σ vs) (hl : σ'.length = σ.length) : EnvR K ρ H (wipeE env vs) σ' := by
  have a := h.wipe vs
  rw [← e] at a
  refine ⟨by rw [← a.1, L2.wipe_length], fun i d hd => ?_⟩
  obtain ⟨v, h1, h2⟩ := a.2 i d hd
  exact ⟨v, (L2.wipe_some h1).1, h2⟩
theorem drop_cons {α : Type} {xs : List α} {i : Nat} {x : α} {r : List α} (h : xs.drop i = x :: r) : xs[i]? = some x ∧ xs.drop (i + 1) = r := by
  have h1 : i < xs.length := by
    apply Classical.byContradiction
    intro z
    rw [List.drop_eq_nil_of_le (by omega)] at h
    cases h
  rw [List.drop_eq_getElem_cons h1] at h
  injection h with h2 h3
  exact ⟨by rw [List.getElem?_eq_getElem h1, h2], h3⟩
theorem drop_nil {α : Type} {xs : List α} {i : Nat} (h : xs.drop i = []) : xs.length ≤ i := by simpa using h
theorem getM_of {hp : Hm} {i : Nat} {ds : List D} (h : hp[i]? = some (.lst ds)) : getM hp i = some ds := by
  unfold getM; rw [h]
include hF
/-- the turns of a list comprehension -/
theorem lc_turns {k : IK} {it cs : List CE} {p : Pat} {elt : CE} {own : List Nat} (hs : ∀ i ∈ slotsP p, i ∈ own) {σ : L2.St} {H : LHp} {Q : L2.VK} (h : RE X F E (.comp own p k it cs elt) σ H Q) :
    L2.tLc (iM X F E k it) (gM X p) (tsM X F cs) (RE X F (fun _ _ _ => False) elt) own σ H Q := by
  obtain ⟨ρ, env, hp, hr, he, w⟩ := h
  unfold wpE at w
  refine ⟨ρ, env, hp, hr, he, wpEs_mono hF it E env hp _ _ w fun ds h1 q => ws_mono q fun I q ρ1 H1 J p1 t1 hr1 W => ?_⟩
  intro A hA
  -- the new list
  have c0 : CellX X (ρ1 ++ [A]) (L2.upd H1 A (.lst [])) A (.lst []) := ⟨[], L2.upd_same, .nil⟩
  have hr0 := hr1.alloc hA c0 fun _ z => nomatch z
  have t0 : TK H1 (L2.upd H1 A (.lst [])) := TK.new hA
  have hAi : (ρ1 ++ [A])[h1.length]? = some A := by rw [← hr1.len]; simp
  have he1 := he.mono p1 t1
  refine ⟨fun i m H2 => m = I.1.length - i ∧ i ≤ I.1.length ∧ ∃ ρ2 hp2, ρ1 ++ [A] <+: ρ2 ∧ TK (L2.upd H1 A (.lst [])) H2 ∧ HRX X ρ2 hp2 H2 ∧ compL I.2 h1.length (fun x h2 R => wpP p x (wipeE env own) fun e2 => wpCs F cs e2 h2 fun k h3 => if k = true then wpE F (fun _ _ _ => False) elt e2 h3 fun y h4 => R (some y) h4 else R none h3) (fun h5 => PVX X ρ H Q (.ref h1.length) h5) (I.1.drop i) hp2,
    ⟨_, rfl, Nat.zero_le _, ρ1 ++ [A], h1 ++ [.lst []], List.prefix_refl _, TK.refl _, hr0, by rw [List.drop_zero]; exact q⟩, ?_⟩
  rintro i m H2 ⟨rfl, hi, ρ2, hp2, p2, t2, hr2, w2⟩
  have p12 : ρ1 <+: ρ2 := (pre_snoc _ _).trans p2
  have t12 : TK H1 H2 := t0.trans t2
  cases hd : I.1.drop i with
  | nil =>
    rw [hd] at w2
    refine .inl ⟨W.stop ρ2 hp2 H2 i p12 t12 hr2 w2.1 (Nat.le_antisymm (drop_nil hd) hi), ?_⟩
    exact w2.2 ρ2 H2 _ (p1.trans p12) (t1.trans t12) hr2 (.ref (pre_get p2 hAi))
  | cons x r =>
    rw [hd] at w2
    obtain ⟨hx, hr'⟩ := drop_cons hd
    have hlt : i < I.1.length := (List.getElem?_eq_some_iff.mp hx).1
    obtain ⟨go, yl⟩ := W.go ρ2 hp2 H2 i x p12 t12 hr2 w2.1 hx
    refine .inr ⟨go, fun H3 => ∃ ρ3 hp3, ρ1 ++ [A] <+: ρ3 ∧ TK (L2.upd H1 A (.lst [])) H3 ∧ HRX X ρ3 hp3 H3 ∧ compL I.2 h1.length (fun x h2 R => wpP p x (wipeE env own) fun e2 => wpCs F cs e2 h2 fun k h3 => if k = true then wpE F (fun _ _ _ => False) elt e2 h3 fun y h4 => R (some y) h4 else R none h3) (fun h5 => PVX X ρ H Q (.ref h1.length) h5) r hp3, ?_, ?_⟩
    · rintro H3 ⟨ρ3, hp3, q1, q2, q3, q4⟩
      exact ⟨I.1.length - (i + 1), by omega, rfl, hlt, ρ3, hp3, q1, q2, q3, by rw [hr']; exact q4⟩
    · intro y H3 hy
      obtain ⟨rv, t3, hr3⟩ := yl y H3 hy
      have he3 : EnvR X.K ρ2 H3 (wipeE env own) (L2.wipe σ own) := (he1.mono p12 (t12.trans t3)).wipe own
      refine ⟨ρ2, wipeE env own, x, he3, rv, wpP_mono _ _ _ _ _ w2.2 fun e2 w4 σ2 he2 so => ⟨?_, ?_⟩⟩
      · rw [so.wipe hs, wipe_wipe]
      refine ⟨ρ2, e2, hp2, hr3, he2, wpCs_mono hF cs e2 hp2 _ _ w4 fun b h5 w5 ρ5 H5 p5 t5 hr5 => ?_⟩
      cases b with
      | false => exact ⟨ρ5, h5, p2.trans p5, t2.trans (t3.trans t5), hr5, w5⟩
      | true =>
        refine ⟨ρ5, e2, h5, hr5, he2.mono p5 t5, wpE_mono hF elt _ e2 h5 _ _ w5 fun d h6 w6 ρ6 H6 v p6 t6 hr6 rv6 => ?_⟩
        obtain ⟨acc, ea, w7⟩ := ws_iff.mp w6
        obtain ⟨a', ys, ha', hc', h1', h2'⟩ := hr6.getM ea
        have hA6 := pre_get (p2.trans (p5.trans p6)) hAi
        rw [hA6] at ha'
        cases ha'
        refine ⟨ys, h1', by rw [lim_eq, ← h2'.length]; exact w7.1, ρ6, _, p2.trans (p5.trans p6), ?_, ?_, w7.2⟩
        · exact t2.trans (t3.trans (t5.trans (t6.trans (TK.put h1' trivial))))
        · have t7 : TK H6 (L2.upd H6 A (.lst (ys ++ [v]))) := TK.put h1' trivial
          exact hr6.put hA6 hc' (fun _ z => nomatch z) h1' trivial (fun _ z => nomatch z) ⟨_, L2.upd_same, (h2'.append (.cons rv6 .nil)).mono (List.prefix_refl _) t7⟩
theorem pe_compM {elt tg iter : Expr} {ifs : List Expr} {scope : PySem.Scope} {own : List (Str × Nat)} {pos : PySem.Pos} {k : IK} {it cs : List CE} {p : Pat} {ce : CE} (hs : ∀ i ∈ slotsP p, i ∈ own.map (·.2)) (hc : X.calm = true) (hN : X.N.Nodup) (hi : L2.PI X tg iter (iM X F E k it)) (ok : L2.BlkOk X.N X.env.scope scope own)
    (hg : ∀ (s : PySem.Shared) (H : LHp) (C : Addr) (cl : List (Str × Addr)) (fp : List Addr), L2.PG (X.blk s H scope (PySem.compEnvC scope cl C X.env) fp) tg (gM X p)) (ht : ∀ (s : PySem.Shared) (H : LHp) (C : Addr) (cl : List (Str × Addr)) (fp : List Addr), L2.PTs (X.blk s H scope (PySem.compEnvC scope cl C X.env) fp) ifs (tsM X F cs))
    (he : ∀ (s : PySem.Shared) (H : LHp) (C : Addr) (cl : List (Str × Addr)) (fp : List Addr), L2.PE (X.blk s H scope (PySem.compEnvC scope cl C X.env) fp) elt (RE X F (fun _ _ _ => False) ce)) (hsi : ∀ x, PySem.foldedSetIterable iter X.env x = pure x) :
    L2.PE X (.ListComp elt [⟨tg, iter, ifs, 0⟩] scope pos) (RE X F E (.comp (own.map (·.2)) p k it cs ce)) :=
  PE.imp (L2.pe_lc hc hN hi ok hg ht he hsi) fun σ H Q h => lc_turns hF hs h
theorem ps_compM {i : Nat} {y : Str} {py : PySem.Pos} {elt tg iter : Expr} {ifs : List Expr} {scope : PySem.Scope} {own : List (Str × Nat)} {pos spos : PySem.Pos} {k : IK} {it cs : List CE} {p : Pat} {ce : CE} (hs : ∀ i ∈ slotsP p, i ∈ own.map (·.2)) (hc : X.calm = true) (hN : X.N.Nodup) (hy : X.N[i]? = some y) (hyl : X.env.scope.names.lookup y = some .local)
    (hsw : PySem.swapsWith (.ListComp elt [⟨tg, iter, ifs, 0⟩] scope pos) (some (.Name y py)) spos.line X.env = pure true) (hi : L2.PI X tg iter (iM X F E k it)) (ok : L2.BlkOk X.N X.env.scope scope own)
    (hg : ∀ (s : PySem.Shared) (H : LHp) (C : Addr) (cl : List (Str × Addr)) (fp : List Addr), L2.PG (X.blk s H scope (PySem.compEnvC scope cl C X.env) fp) tg (gM X p)) (ht : ∀ (s : PySem.Shared) (H : LHp) (C : Addr) (cl : List (Str × Addr)) (fp : List Addr), L2.PTs (X.blk s H scope (PySem.compEnvC scope cl C X.env) fp) ifs (tsM X F cs))
    (he : ∀ (s : PySem.Shared) (H : LHp) (C : Addr) (cl : List (Str × Addr)) (fp : List Addr), L2.PE (X.blk s H scope (PySem.compEnvC scope cl C X.env) fp) elt (RE X F (fun _ _ _ => False) ce)) (hsi : ∀ x, PySem.foldedSetIterable iter X.env x = pure x) :
    L2.PS X (.Assign [.Name y py] (.ListComp elt [⟨tg, iter, ifs, 0⟩] scope pos) spos) (L2.tAsg (RE X F E (.comp (own.map (·.2)) p k it cs ce)) (L2.gName i)) :=
  PS.imp (L2.ps_setLc hc hN hy hyl hsw hi ok hg ht he hsi) fun D σ H h => lc_turns hF hs h
/-- the turns of a dict comprehension -/
theorem dc_turns (hu : X.A.units + 9 < PySem.cLine) {k : IK} {it cs : List CE} {p : Pat} {ke va : CE} {own : List Nat} (hs : ∀ i ∈ slotsP p, i ∈ own) {σ : L2.St} {H : LHp} {Q : L2.VK} (h : RE X F E (.dcomp own p k it cs ke va) σ H Q) :
    tDX X (iM X F E k it) (gM X p) (tsM X F cs) (RE X F (fun _ _ _ => False) ke) (RE X F (fun _ _ _ => False) va) own σ H Q := by
  obtain ⟨ρ, env, hp, hr, he, w⟩ := h
  unfold wpE at w
  refine ⟨ρ, env, hp, hr, he, wpEs_mono hF it E env hp _ _ w fun ds h1 q => ws_mono q fun I q ρ1 H1 J p1 t1 hr1 W => ?_⟩
  intro A hA
  have c0 : CellX X (ρ1 ++ [A]) (L2.upd H1 A (.dK [])) A (.dct []) := .inl ⟨[], L2.upd_same, .nil, Nat.zero_le _⟩
  have hr0 := hr1.alloc hA c0 fun _ z => nomatch z
  have t0 : TK H1 (L2.upd H1 A (.dK [])) := TK.new hA
  have hAi : (ρ1 ++ [A])[h1.length]? = some A := by rw [← hr1.len]; simp
  have he1 := he.mono p1 t1
  refine ⟨fun i m H2 => m = I.1.length - i ∧ i ≤ I.1.length ∧ ∃ ρ2 hp2, ρ1 ++ [A] <+: ρ2 ∧ TK (L2.upd H1 A (.dK [])) H2 ∧ HRX X ρ2 hp2 H2 ∧ dcompL I.2 h1.length (fun x h2 R => wpP p x (wipeE env own) fun e2 => wpCs F cs e2 h2 fun k h3 => if k = true then wpE F (fun _ _ _ => False) ke e2 h3 fun y h4 => wpE F (fun _ _ _ => False) va e2 h4 fun z h5 => R (some (y, z)) h5 else R none h3) (fun h5 => PVX X ρ H Q (.ref h1.length) h5) (I.1.drop i) hp2,
    ⟨_, rfl, Nat.zero_le _, ρ1 ++ [A], h1 ++ [.dct []], List.prefix_refl _, TK.refl _, hr0, by rw [List.drop_zero]; exact q⟩, ?_⟩
  rintro i m H2 ⟨rfl, hi, ρ2, hp2, p2, t2, hr2, w2⟩
  have p12 : ρ1 <+: ρ2 := (pre_snoc _ _).trans p2
  have t12 : TK H1 H2 := t0.trans t2
  cases hd : I.1.drop i with
  | nil =>
    rw [hd] at w2
    refine .inl ⟨W.stop ρ2 hp2 H2 i p12 t12 hr2 w2.1 (Nat.le_antisymm (drop_nil hd) hi), ?_⟩
    exact w2.2 ρ2 H2 _ (p1.trans p12) (t1.trans t12) hr2 (.ref (pre_get p2 hAi))
  | cons x r =>
    rw [hd] at w2
    obtain ⟨hx, hr'⟩ := drop_cons hd
    have hlt : i < I.1.length := (List.getElem?_eq_some_iff.mp hx).1
    obtain ⟨go, yl⟩ := W.go ρ2 hp2 H2 i x p12 t12 hr2 w2.1 hx
    refine .inr ⟨go, fun H3 => ∃ ρ3 hp3, ρ1 ++ [A] <+: ρ3 ∧ TK (L2.upd H1 A (.dK [])) H3 ∧ HRX X ρ3 hp3 H3 ∧ dcompL I.2 h1.length (fun x h2 R => wpP p x (wipeE env own) fun e2 => wpCs F cs e2 h2 fun k h3 => if k = true then wpE F (fun _ _ _ => False) ke e2 h3 fun y h4 => wpE F (fun _ _ _ => False) va e2 h4 fun z h5 => R (some (y, z)) h5 else R none h3) (fun h5 => PVX X ρ H Q (.ref h1.length) h5) r hp3, ?_, ?_⟩
    · rintro H3 ⟨ρ3, hp3, q1, q2, q3, q4⟩
      exact ⟨I.1.length - (i + 1), by omega, rfl, hlt, ρ3, hp3, q1, q2, q3, by rw [hr']; exact q4⟩
    · intro y H3 hy
      obtain ⟨rv, t3, hr3⟩ := yl y H3 hy
      have he3 : EnvR X.K ρ2 H3 (wipeE env own) (L2.wipe σ own) := (he1.mono p12 (t12.trans t3)).wipe own
      refine ⟨ρ2, wipeE env own, x, he3, rv, wpP_mono _ _ _ _ _ w2.2 fun e2 w4 σ2 he2 so => ⟨?_, ?_⟩⟩
      · rw [so.wipe hs, wipe_wipe]
      refine ⟨ρ2, e2, hp2, hr3, he2, wpCs_mono hF cs e2 hp2 _ _ w4 fun b h5 w5 ρ5 H5 p5 t5 hr5 => ?_⟩
      cases b with
      | false => exact ⟨ρ5, h5, p2.trans p5, t2.trans (t3.trans t5), hr5, w5⟩
      | true =>
        refine ⟨ρ5, e2, h5, hr5, he2.mono p5 t5, wpE_mono hF ke _ e2 h5 _ _ w5 fun d h6 w6 ρ6 H6 v p6 t6 hr6 rv6 => ?_⟩
        refine ⟨ρ6, e2, h6, hr6, he2.mono (p5.trans p6) (t5.trans t6), wpE_mono hF va _ e2 h6 _ _ w6 fun d7 h7 w7 ρ7 H7 v7 p7 t7 hr7 rv7 => ?_⟩
        obtain ⟨acc, ea, w8⟩ := ws_iff.mp w7
        have hA7 := pre_get (p2.trans (p5.trans (p6.trans p7))) hAi
        have hx7 := getK_at ea
        have hc7 := hr7.ok _ A _ hA7 hx7
        have rk := rv6.mono p7 t7
        intro X' pins' σ' s' u r Q' E' ep ew eK eA I' ru rr done
        have hcx : CellX X' = CellX X := by show CellOk X'.prog X'.w X'.K = CellOk X.prog X.w X.K; rw [ep, ew, eK]
        rw [← ep, ← ew, ← eA]
        refine d_dset (X := X') (ρ := ρ7) (kvs := acc) (k := d) (d := d7) (by rw [eA]; exact hu) I' (by rw [hcx]; exact hc7) w8.1 (by rw [eK]; exact rk) ru (by rw [eK]; exact rv7) rr w8.2.1 fun s2 o2 u2 e7 cu I2 c2 => done _ _ I2 ?_
        rw [hcx] at c2
        exact ⟨ρ7, _, p2.trans (p5.trans (p6.trans p7)), t2.trans (t3.trans (t5.trans (t6.trans (t7.trans (TK.put e7 cu))))), hr7.put hA7 hx7 (by intro _ z; cases z) e7 cu (by intro _ z; cases z) c2, w8.2.2⟩
theorem pe_dcompM {kx vx tg iter : Expr} {ifs : List Expr} {scope : PySem.Scope} {own : List (Str × Nat)} {pos : PySem.Pos} {k : IK} {it cs : List CE} {p : Pat} {ck cv : CE} (hs : ∀ i ∈ slotsP p, i ∈ own.map (·.2)) (hc : X.calm = true) (hN : X.N.Nodup) (hi : L2.PI X tg iter (iM X F E k it)) (ok : L2.BlkOk X.N X.env.scope scope own)
    (hg : ∀ (s : PySem.Shared) (H : LHp) (C : Addr) (cl : List (Str × Addr)) (fp : List Addr), L2.PG (X.blk s H scope (PySem.compEnvC scope cl C X.env) fp) tg (gM X p)) (ht : ∀ (s : PySem.Shared) (H : LHp) (C : Addr) (cl : List (Str × Addr)) (fp : List Addr), L2.PTs (X.blk s H scope (PySem.compEnvC scope cl C X.env) fp) ifs (tsM X F cs))
    (hu : X.A.units + 9 < PySem.cLine) (hk : ∀ (s : PySem.Shared) (H : LHp) (C : Addr) (cl : List (Str × Addr)) (fp : List Addr), L2.PE (X.blk s H scope (PySem.compEnvC scope cl C X.env) fp) kx (RE X F (fun _ _ _ => False) ck))
    (he : ∀ (s : PySem.Shared) (H : LHp) (C : Addr) (cl : List (Str × Addr)) (fp : List Addr), L2.PE (X.blk s H scope (PySem.compEnvC scope cl C X.env) fp) vx (RE X F (fun _ _ _ => False) cv)) (hsi : ∀ x, PySem.foldedSetIterable iter X.env x = pure x) :
    L2.PE X (.DictComp kx vx [⟨tg, iter, ifs, 0⟩] scope pos) (RE X F E (.dcomp (own.map (·.2)) p k it cs ck cv)) :=
  PE.imp (pe_dcX hc hN hi ok hg ht hk he hsi) fun σ H Q h => dc_turns hF hu hs h
end
end M

end
section
set_option Elab.async false
set_option linter.all false
set_option autoImplicit false
set_option maxRecDepth 100000
set_option maxHeartbeats 4000000
/-! statements -/
namespace M
open PySem (Addr Obj Value Str PyData Heap NestedKey Expr Stmt)
/-- mini's ends ask for the layer's -/
structure EndsR (X : L2.Cx) (ρ : List Addr) (H : LHp) (Z : Ends) (D : L2.Ends) : Prop where
  nx : ∀ e' h' ρ' H' σ', Z.nx e' h' → ρ <+: ρ' → TK H H' → HRX X ρ' h' H' → EnvR X.K ρ' H' e' σ' → D.nx σ' H'
  rt : ∀ d h', Z.rt d h' → PVX X ρ H D.rt d h'
  bk : ∀ e' h' ρ' H' σ', Z.bk e' h' → ρ <+: ρ' → TK H H' → HRX X ρ' h' H' → EnvR X.K ρ' H' e' σ' → D.bk σ' H'
  ct : ∀ e' h' ρ' H' σ', Z.ct e' h' → ρ <+: ρ' → TK H H' → HRX X ρ' h' H' → EnvR X.K ρ' H' e' σ' → D.ct σ' H'
theorem EndsR.weak {X : L2.Cx} {ρ ρ1 : List Addr} {H H1 : LHp} {Z : Ends} {D : L2.Ends} (h : EndsR X ρ H Z D) (p : ρ <+: ρ1) (t : TK H H1) : EndsR X ρ1 H1 Z D :=
  ⟨fun e' h' ρ' H' σ' z p' t' => h.nx e' h' ρ' H' σ' z (p.trans p') (t.trans t'), fun d h' z => PV.weak p t (h.rt d h' z), fun e' h' ρ' H' σ' z p' t' => h.bk e' h' ρ' H' σ' z (p.trans p') (t.trans t'), fun e' h' ρ' H' σ' z p' t' => h.ct e' h' ρ' H' σ' z (p.trans p') (t.trans t')⟩
/-- a statement's reading -/
def rS (X : L2.Cx) (W : Env → Hm → Ends → Prop) : L2.TS := fun D σ H => ∃ ρ env hp Z, HRX X ρ hp H ∧ EnvR X.K ρ H env σ ∧ W env hp Z ∧ EndsR X ρ H Z D
section
variable {X : L2.Cx} {F : FnS} (hF : FMono F) {E : XP}
abbrev RS (X : L2.Cx) (F : FnS) (E : XP) (c : CS) : L2.TS := rS X (wpS F E c)
abbrev RSs (X : L2.Cx) (F : FnS) (E : XP) (cs : List CS) : L2.TS := rS X (wpSs F E cs)
theorem pss_nilM : L2.PSs X [] (RSs X F E []) := PSs.imp L2.pss_nil fun D σ H ⟨ρ, env, hp, Z, hr, he, w, z⟩ => by
  unfold wpSs at w
  exact z.nx _ _ ρ H σ w (List.prefix_refl _) (TK.refl _) hr he
theorem pss_consM {st : Stmt} {rest : List Stmt} {c : CS} {cs : List CS} (h1 : L2.PS X st (RS X F E c)) (h2 : L2.PSs X rest (RSs X F E cs)) : L2.PSs X (st :: rest) (RSs X F E (c :: cs)) :=
  PSs.imp (L2.pss_cons h1 h2) fun D σ H ⟨ρ, env, hp, Z, hr, he, w, z⟩ => by
    unfold wpSs at w
    refine ⟨ρ, env, hp, _, hr, he, w, ⟨fun e' h' ρ' H' σ' q p t hr' he' => ?_, z.rt, z.bk, z.ct⟩⟩
    exact ⟨ρ', e', h', Z, hr', he', q, z.weak p t⟩
/-- a docstring, or any text that stands alone -/
theorem pss_docM {x : Str} {j : Nat} {pos pos' : PySem.Pos} {rest : List Stmt} {cs : List CS} (h2 : L2.PSs X rest (RSs X F E cs)) : L2.PSs X (.Expr (.Constant (.str x) j pos) pos' :: rest) (RSs X F E cs) :=
  PSs.imp (L2.pss_cons L2.ps_doc h2) fun D σ H h => h
theorem ps_passM {pos : PySem.Pos} : L2.PS X (.Pass pos) (RS X F E .pass) := PS.imp L2.ps_pass fun D σ H ⟨ρ, env, hp, Z, hr, he, w, z⟩ => by
  unfold wpS at w
  exact z.nx _ _ ρ H σ w (List.prefix_refl _) (TK.refl _) hr he
theorem ps_brkM {pos : PySem.Pos} : L2.PS X (.Break pos) (RS X F E .brk) := PS.imp L2.ps_break fun D σ H ⟨ρ, env, hp, Z, hr, he, w, z⟩ => by
  unfold wpS at w
  exact z.bk _ _ ρ H σ w (List.prefix_refl _) (TK.refl _) hr he
theorem ps_contM {pos : PySem.Pos} : L2.PS X (.Continue pos) (RS X F E .cont) := PS.imp L2.ps_continue fun D σ H ⟨ρ, env, hp, Z, hr, he, w, z⟩ => by
  unfold wpS at w
  exact z.ct _ _ ρ H σ w (List.prefix_refl _) (TK.refl _) hr he
/-- no comprehension -/
def noComp : Expr → Bool
  | .ListComp _ _ _ _ => false
  | .SetComp _ _ _ _ => false
  | .DictComp _ _ _ _ _ => false
  | _ => true
theorem swap_no {e : Expr} {t : Option Expr} {l : Nat} {env : PySem.Env} (h : noComp e = true) : PySem.swapsWith e t l env = pure false := by
  cases e <;> first | rfl | exact Bool.noConfusion h
theorem swaps_no {e t : Expr} {l : Nat} {env : PySem.Env} (h : noComp e = true) : PySem.swapsWithSole [t] e l env = pure false := swap_no h
include hF
theorem ps_exprM {e : Expr} {c : CE} {pos : PySem.Pos} (h : L2.PE X e (RE X F E c)) (hn : noComp e = true) : L2.PS X (.Expr e pos) (RS X F E (.expr c)) := PS.imp (L2.ps_expr h (swap_no hn)) fun D σ H ⟨ρ, env, hp, Z, hr, he, w, z⟩ => by
  unfold wpS at w
  exact ⟨ρ, env, hp, hr, he, wpE_mono hF c E env hp _ _ w fun d h1 q ρ1 H1 v p t hr1 rv => z.nx _ _ ρ1 H1 σ q p t hr1 (he.mono p t)⟩
theorem ps_retM {e : Expr} {c : CE} {pos : PySem.Pos} (h : L2.PE X e (RE X F E c)) : L2.PS X (.Return (some e) pos) (RS X F E (.ret c)) := PS.imp (L2.ps_ret h) fun D σ H ⟨ρ, env, hp, Z, hr, he, w, z⟩ => by
  unfold wpS at w
  exact ⟨ρ, env, hp, hr, he, wpE_mono hF c E env hp _ _ w fun d h1 q => z.rt d h1 q⟩
omit hF in
theorem ps_retNM {pos : PySem.Pos} : L2.PS X (.Return none pos) (RS X F E (.ret (.lit .non))) := PS.imp L2.ps_retN fun D σ H ⟨ρ, env, hp, Z, hr, he, w, z⟩ => by
  unfold wpS wpE at w
  exact PV.here (z.rt _ _ w) hr .non
theorem ps_ifM {c : Expr} {a b : List Stmt} {cc : CE} {ca cb : List CS} {pos : PySem.Pos} (hc : L2.PT X c (RT X F E cc)) (ha : L2.PSs X a (RSs X F E ca)) (hb : L2.PSs X b (RSs X F E cb)) : L2.PS X (.If c a b pos) (RS X F E (.ite cc ca cb)) :=
  PS.imp (L2.ps_if hc ha hb) fun D σ H ⟨ρ, env, hp, Z, hr, he, w, z⟩ => by
    unfold wpS at w
    refine ⟨ρ, env, hp, hr, he, wpE_mono hF cc E env hp _ _ w fun d h1 q => ws_mono q fun k q ρ1 H1 p t hr1 => ?_⟩
    cases k with
    | true => exact ⟨ρ1, env, h1, Z, hr1, he.mono p t, q, z.weak p t⟩
    | false => exact ⟨ρ1, env, h1, Z, hr1, he.mono p t, q, z.weak p t⟩
theorem rd_asg {p : Pat} {c : CE} {D : L2.Ends} {σ : L2.St} {H : LHp} (h : RS X F E (.asg p c) D σ H) : L2.tAsg (RE X F E c) (gM X p) D σ H := by
  obtain ⟨ρ, env, hp, Z, hr, he, w, z⟩ := h
  unfold wpS at w
  refine ⟨ρ, env, hp, hr, he, wpE_mono hF c E env hp _ _ w fun d h1 q ρ1 H1 v p t hr1 rv => ?_⟩
  exact ⟨ρ1, env, d, he.mono p t, rv, wpP_mono _ _ _ _ _ q fun e2 q σ2 he2 _ => z.nx _ _ ρ1 H1 σ2 q p t hr1 he2⟩
omit hF in
theorem asg_one {t : Expr} {env : PySem.Env} (h : plainE t = true) : (PySem.assignEach [t] env).map (·.2) = [PySem.assign t env] := by rw [each_plain h]; rfl
/-- target = value, stored in the common way -/
theorem ps_asgM {tg e : Expr} {p : Pat} {c : CE} {pos : PySem.Pos} (he : L2.PE X e (RE X F E c)) (hg : L2.PG X tg (gM X p)) (hp : plainE tg = true) (hs : PySem.swapsWithSole [tg] e pos.line X.env = pure false) (hw : PySem.swappedStores [tg] e X.env = pure none) : L2.PS X (.Assign [tg] e pos) (RS X F E (.asg p c)) :=
  PS.imp (L2.ps_asg he hg hs hw (asg_one hp)) fun D σ H h => rd_asg hF h
/-- x = [..], on one line -/
theorem ps_asgcM {i : Nat} {y : Str} {py spos : PySem.Pos} {e : Expr} {c : CE} (h : L2.PS X (.Assign [.Name y py] e spos) (L2.tAsg (RE X F E c) (L2.gName i))) : L2.PS X (.Assign [.Name y py] e spos) (RS X F E (.asg (.slot i) c)) :=
  PS.imp h fun D σ H ⟨ρ, env, hp, Z, hr, he, w, z⟩ => by
    unfold wpS at w
    refine ⟨ρ, env, hp, hr, he, wpE_mono hF c E env hp _ _ w fun d h1 q ρ1 H1 v p t hr1 rv => ?_⟩
    unfold wpP at q
    exact z.nx _ _ ρ1 H1 _ q.2 p t hr1 ((he.mono p t).set rv)
/-- a, b = x, y -/
theorem ps_parM {i j : Nat} {x y : Str} {a b : Expr} {ca cb : CE} {px py pt pos : PySem.Pos} {kt k2 : Nat} {pt2 : PySem.Pos} (hc : X.calm = true) (hN : X.N.Nodup) (hi : X.N[i]? = some x) (hj : X.N[j]? = some y) (hij : i ≠ j)
    (hx : X.env.scope.names.lookup x = some .local) (hy : X.env.scope.names.lookup y = some .local) (ha : L2.PA X [a, b] (RA X F E [ca, cb]))
    (hw : PySem.swappedStores [.Tuple [.Name x px, .Name y py] kt pt] (.Tuple [a, b] k2 pt2) X.env = pure (some [x, y])) :
    L2.PS X (.Assign [.Tuple [.Name x px, .Name y py] kt pt] (.Tuple [a, b] k2 pt2) pos) (RS X F E (.asg (.tup [.slot i, .slot j]) (.tup [ca, cb]))) :=
  PS.imp (L2.ps_par hc hN hi hj hij hx hy ha hw rfl) fun D σ H ⟨ρ, env, hp, Z, hr, he, w, z⟩ => by
    unfold wpS wpE at w
    refine ⟨ρ, env, hp, hr, he, wpEs_mono hF [ca, cb] E env hp _ _ w fun ds h1 q ρ1 H1 vs p t hr1 rv => ?_⟩
    unfold wpP at q
    have hl := wpPs_len _ _ _ _ q
    rcases ds with _ | ⟨d, _ | ⟨d2, _ | ⟨d3, ds⟩⟩⟩ <;> try (simp at hl; done)
    obtain ⟨v, u, rfl, rv, ru⟩ := rv.two_inv
    unfold wpPs wpP wpPs wpP wpPs at q
    exact ⟨v, u, rfl, z.nx _ _ ρ1 H1 _ q.2.2 p t hr1 (((he.mono p t).set rv).set ru)⟩
/-- o[i] = e -/
theorem ps_subM (hu : X.A.units + 80 < PySem.cLine) {o i e : Expr} {co ci c : CE} {pos tpos : PySem.Pos} (ho : L2.PE X o (RE X F E co)) (hi : L2.PE X i (RE X F E ci)) (he : L2.PE X e (RE X F E c)) (hn : noComp e = true) (hw : PySem.swappedStores [.Subscript o i tpos] e X.env = pure none)
    (ha : ∀ v, PySem.assign (.Subscript o i tpos) X.env v = (do
      let ov ← PySem.holding [v] (PySem.eval o X.env)
      let iv ← PySem.holding [v, ov] (PySem.eval i X.env)
      PySem.standAt tpos
      PySem.holding [v, ov, iv] (PySem.setItem ov iv v)
      PySem.release [v, ov, iv] [])) : L2.PS X (.Assign [.Subscript o i tpos] e pos) (RS X F E (.set co ci c)) :=
  PS.imp (L2.ps_asg he (L2.pg_sub ho hi (set_M hu) ha) (swaps_no hn) hw rfl) fun D σ H ⟨ρ, env, hp, Z, hr, he, w, z⟩ => by
    unfold wpS at w
    refine ⟨ρ, env, hp, hr, he, wpE_mono hF c E env hp _ _ w fun d h1 q ρ1 H1 v p1 t1 hr1 rv => ?_⟩
    refine ⟨ρ1, env, h1, hr1, he.mono p1 t1, wpE_mono hF co E env h1 _ _ q fun d2 h2 q ρ2 H2 v2 p2 t2 hr2 rv2 => ?_⟩
    refine ⟨ρ2, env, h2, hr2, he.mono (p1.trans p2) (t1.trans t2), wpE_mono hF ci E env h2 _ _ q fun d3 h3 q ρ3 H3 v3 p3 t3 hr3 rv3 => ?_⟩
    obtain ⟨h4, e4, q⟩ := ws_iff.mp q
    refine ⟨ρ3, h3, d2, d3, d, h4, hr3, rv2.mono p3 t3, rv3, rv.mono (p2.trans p3) (t2.trans t3), e4, fun H4 t4 hr4 => ?_⟩
    exact z.nx _ _ ρ3 H4 σ q (p1.trans (p2.trans p3)) (t1.trans (t2.trans (t3.trans t4))) hr4 (he.mono (p1.trans (p2.trans p3)) (t1.trans (t2.trans (t3.trans t4))))
end
end M

end
section
set_option Elab.async false
set_option linter.all false
set_option autoImplicit false
set_option maxRecDepth 100000
set_option maxHeartbeats 4000000
/-! op=, loops -/
namespace M
open PySem (Addr Obj Value Str PyData Heap NestedKey Expr Stmt)
section
variable {X : L2.Cx} {F : FnS} (hF : FMono F) {E : XP}
/-- op= by values -/
def bopK : Bop → Option PySem.Operator
  | .add => some .Add
  | .sub => some .Sub
  | .mul => some .Mult
  | _ => none
theorem PIp.imp {op : PySem.Operator} {t t' : L2.TIp} (h : L2.PIp X op t) (k : ∀ x y H Q, t' x y H Q → t x y H Q) : L2.PIp X op t' := fun pins s σ H x y v u Q I rx ry q => h pins s σ H x y v u Q I rx ry (k _ _ _ _ q)
theorem PIp.of {op : PySem.Operator} {r : L2.R2} (h : L2.OpR X (PySem.inplaceOp op) r) : L2.PIp X op r := h
theorem ip_augM {b : Bop} {op : PySem.Operator} (h : bopK b = some op) : L2.PIp X op (liftR X (augS b)) := by
  cases b <;> simp only [bopK] at h <;> first | (cases h; done) | skip
  · cases h
    refine PIp.imp (PIp.of (L2.iop_add.or L2.iop_add_str)) fun v u H Q ⟨ρ, hp, x, y, r, hr, rx, ry, e, q⟩ => ?_
    cases x <;> cases y <;> simp only [augS] at e <;> first | (cases e; done) | skip
    · cases e
      obtain rfl := rx.int_inv; obtain rfl := ry.int_inv
      exact .inl ⟨_, _, rfl, rfl, PV.here q hr (.int _)⟩
    · split at e
      · rename_i hl
        cases e
        obtain ⟨rfl, h1⟩ := rx.str_inv
        obtain ⟨rfl, h2⟩ := ry.str_inv
        refine .inr ⟨_, _, rfl, rfl, by rw [str_len, str_len, lim_eq]; exact hl, ?_⟩
        rw [str_app]
        exact PV.here q hr (.str _ (sOK_app h1 h2 hl))
      · cases e
  · cases h
    refine PIp.imp (PIp.of L2.iop_sub) fun v u H Q ⟨ρ, hp, x, y, r, hr, rx, ry, e, q⟩ => ?_
    cases x <;> cases y <;> simp only [augS] at e <;> first | (cases e; done) | skip
    cases e
    obtain rfl := rx.int_inv; obtain rfl := ry.int_inv
    exact ⟨_, _, rfl, rfl, PV.here q hr (.int _)⟩
  · cases h
    refine PIp.imp (PIp.of L2.iop_mul) fun v u H Q ⟨ρ, hp, x, y, r, hr, rx, ry, e, q⟩ => ?_
    cases x <;> cases y <;> simp only [augS] at e <;> first | (cases e; done) | skip
    split at e
    · rename_i c
      cases e
      obtain rfl := rx.int_inv; obtain rfl := ry.int_inv
      unfold LINT at c
      refine ⟨_, _, rfl, rfl, ?_, PV.here q hr (.int _)⟩
      rcases c with c | c
      · exact .inl ⟨by omega, by omega⟩
      · exact .inr ⟨by omega, by omega⟩
    · cases e
include hF
theorem ps_augM {i : Nat} {x : Str} {e : Expr} {c : CE} {b : Bop} {op : PySem.Operator} {pos' pos : PySem.Pos} (hb : bopK b = some op) (hN : X.N.Nodup) (hi : X.N[i]? = some x) (hx : L2.Loc X.env.scope x) (hf : X.fn x = true ∨ X.env.scope.names.lookup x = some .local) (he : L2.PE X e (RE X F E c)) : L2.PS X (.AugAssign (.Name x pos') op e pos) (RS X F E (.aug i b c)) :=
  PS.imp (L2.ps_aug hN hi hx he (ip_augM hb) hf) fun D σ H ⟨ρ, env, hp, Z, hr, he0, w, z⟩ => by
    unfold wpS at w
    cases ei : env[i]? with
    | none => rw [ei] at w; exact w.elim
    | some o =>
      rw [ei] at w
      cases o with
      | none => exact w.elim
      | some d =>
        obtain ⟨v, h1, h2⟩ := he0.2 i d ei
        have w : wpE F E c env hp fun y h1 => ws (augS b d y h1) fun r => Z.nx (env.set i (some r.1)) r.2 := w
        refine ⟨v, h1, ρ, env, hp, hr, he0, wpE_mono hF c E env hp _ _ w fun y h3 q ρ1 H1 u p1 t1 hr1 ru => ?_⟩
        obtain ⟨r, e, q⟩ := ws_iff.mp q
        exact ⟨ρ1, h3, d, y, r, hr1, h2.mono p1 t1, ru, e, fun ρ2 H2 v2 p2 t2 hr2 rv2 => z.nx _ _ ρ2 H2 _ q (p1.trans p2) (t1.trans t2) hr2 ((he0.mono (p1.trans p2) (t1.trans t2)).set rv2)⟩
omit hF in
/-- o[i], by values alone -/
theorem get_M (hu : X.A.units + 80 < PySem.cLine) : L2.PGet X (liftR X fun x y h => match x with
    | .ref _ => (idxS x y h).map fun d => (d, h)
    | _ => none) := by
  intro pins s σ H o i ov iv Q I ro ri h
  obtain ⟨ρ, hp, x, y, r, hr, rx, ry, e0, q⟩ := h
  cases x <;> simp only at e0 <;> first | (cases e0; done) | skip
  obtain ⟨d, e, hd⟩ := Option.map_eq_some_iff.mp e0
  subst hd
  simp only [idxS] at e
  obtain ⟨a, rfl, ha⟩ := rx.ref_inv
  have lst : ∀ {xs : List D} {k : Int} {ys : List LV}, L2.SqL X.K H a ys → RVs X.K ρ H xs ys → y = .int k → atI xs k = some d → PySem.wpAny (PySem.model X.prog X.w) X.A (PySem.getItem ov iv) (L2.EP X pins σ Q) X.xe s := by
    intro xs k ys sq r1 hy e5
    rw [hy] at ry
    obtain rfl := ry.int_inv
    obtain ⟨w, e2, rw'⟩ := at_get r1 e5
    cases ro
    obtain ⟨t, rfl⟩ := ri
    obtain ⟨its, r, pl, hz⟩ := I.list sq
    obtain ⟨j, h1, h2, h3, h4, h5⟩ := L2.atI_get e2
    obtain ⟨u, ew, ru⟩ := r.get h2
    have hl := r.length
    have hn := L2.line63
    have fin : L2.EP X pins σ Q u s := ⟨w, H, I, ru, PV.here q hr rw'⟩
    by_cases h0 : 0 ≤ k
    · have hj : k.toNat = j := by
        rw [PySem.seqIndex_of h0 h5] at h1
        exact Option.some.inj h1
      exact PySem.wpAny_getItem_list pl.isList h0 (by omega) (by rw [hj]; simpa using ew) fin
    · have hj : (k + (its.toArray.size : Int)).toNat = j := by
        rw [PySem.seqIndex_neg (by omega) h4] at h1
        rw [List.size_toArray, ← hl]
        exact Option.some.inj h1
      exact PySem.wpAny_getItem_list_neg pl.isList (by omega) (by rw [List.size_toArray] <;> omega) (by omega) (by rw [hj]; simpa using ew) fin
  split at e
  · rename_i xs k hx
    obtain ⟨ys, e1, r1⟩ := hr.ok _ a _ ha hx
    exact lst (.inl (.inl e1)) r1 rfl e
  · rename_i xs k hx
    obtain ⟨ys, e1, r1⟩ := hr.ok _ a _ ha hx
    have sq : L2.SqL X.K H a ys := by
      rcases e1 with ⟨ob, e1⟩ | e1
      · exact .inl (.inr ⟨ob, e1⟩)
      · exact .inr e1
    exact lst sq r1 rfl e
  · rename_i kvs k hx
    split at e
    · rename_i hk
      cases ro
      have hc := hr.ok _ a _ ha hx
      exact (d_look (A := X.A) (E := X.xe) (by omega) I hc hk ry ri).1 d _ e fun vv w' s' I' rr rw' => ⟨vv, H, I', rw', PV.here q hr rr⟩
    · cases e
  · cases e
/-- o[i] op= e -/
theorem ps_augsM (hu : X.A.units + 80 < PySem.cLine) {o i e : Expr} {co ci c : CE} {b : Bop} {op : PySem.Operator} {tpos pos : PySem.Pos} (hb : bopK b = some op) (ho : L2.PE X o (RE X F E co)) (hi : L2.PE X i (RE X F E ci)) (he : L2.PE X e (RE X F E c))
    (ha : ∀ ov iv new, PySem.augStore i ov iv new = (do PySem.holding [new, ov, iv] (PySem.setItem ov iv new); PySem.release [new, ov, iv] []; pure .next)) : L2.PS X (.AugAssign (.Subscript o i tpos) op e pos) (RS X F E (.augs co ci b c)) :=
  PS.imp (L2.ps_augS ho hi (get_M hu) he (ip_augM hb) (set_M hu) ha) fun D σ H ⟨ρ, env, hp, Z, hr, he0, w, z⟩ => by
    unfold wpS at w
    refine ⟨ρ, env, hp, hr, he0, wpE_mono hF co E env hp _ _ w fun x h1 q ρ1 H1 v1 p1 t1 hr1 rv1 => ?_⟩
    refine ⟨ρ1, env, h1, hr1, he0.mono p1 t1, wpE_mono hF ci E env h1 _ _ q fun y h2 q ρ2 H2 v2 p2 t2 hr2 rv2 => ?_⟩
    obtain ⟨d, e3, q⟩ := ws_iff.mp q
    have q : wpE F E c env h2 fun w h4 => ws (augS b d w h4) fun r => ws (setS x y r.1 r.2) fun h6 => Z.nx env h6 := q
    have p12 := p1.trans p2
    have t12 := t1.trans t2
    -- only a list or a dict is stored to
    by_cases hx : ∃ a, x = .ref a
    · obtain ⟨a, rfl⟩ := hx
      refine ⟨ρ2, h2, .ref a, y, (d, h2), hr2, rv1.mono p2 t2, rv2, by have e4 : idxS (.ref a) y h2 = some d := e3; show Option.map _ (idxS (.ref a) y h2) = _; rw [e4]; rfl, fun ρ3 H3 v3 p3 t3 hr3 rv3 => ?_⟩
      have p13 := p12.trans p3
      have t13 := t12.trans t3
      refine ⟨ρ3, env, h2, hr3, he0.mono p13 t13, wpE_mono hF c E env h2 _ _ q fun w4 h4 q ρ4 H4 v4 p4 t4 hr4 rv4 => ?_⟩
      obtain ⟨r, e5, q⟩ := ws_iff.mp q
      refine ⟨ρ4, h4, d, w4, r, hr4, rv3.mono p4 t4, rv4, e5, fun ρ5 H5 v5 p5 t5 hr5 rv5 => ?_⟩
      obtain ⟨h6, e6, q⟩ := ws_iff.mp q
      have p25 := p3.trans (p4.trans p5)
      have t25 := t3.trans (t4.trans t5)
      refine ⟨ρ5, r.2, .ref a, y, r.1, h6, hr5, rv1.mono (p2.trans p25) (t2.trans t25), rv2.mono p25 t25, rv5, e6, fun H6 t6 hr6 => ?_⟩
      exact z.nx _ _ ρ5 H6 σ q (p12.trans p25) (t12.trans (t25.trans t6)) hr6 (he0.mono (p12.trans p25) (t12.trans (t25.trans t6)))
    · exfalso
      exact hx (by
        cases x with
        | ref a => exact ⟨a, rfl⟩
        | _ => simp [idxR] at e3)
theorem ps_whileM {c : Expr} {body : List Stmt} {cc : CE} {cb : List CS} {pos : PySem.Pos} (hp : PySem.PassesOwn (PySem.model X.prog X.w) X.A X.env X.xe) (hc : L2.PT X c (RT X F E cc)) (hb : L2.PSs X body (RSs X F E cb)) : L2.PS X (.While c body [] pos) (RS X F E (.whil cc cb)) :=
  PS.imp (L2.ps_while hp hc hb) fun D σ H ⟨ρ, env, hp, Z, hr, he0, w, z⟩ => by
    unfold wpS at w
    obtain ⟨W, ⟨m0, w0⟩, turn⟩ := w
    refine ⟨fun m σ1 H1 => ∃ ρ1 env1 hp1, ρ <+: ρ1 ∧ TK H H1 ∧ HRX X ρ1 hp1 H1 ∧ EnvR X.K ρ1 H1 env1 σ1 ∧ W m env1 hp1, ⟨m0, ρ, env, hp, List.prefix_refl _, TK.refl _, hr, he0, w0⟩, ?_⟩
    rintro m σ1 H1 ⟨ρ1, env1, hp1, p1, t1, hr1, he1, w1⟩
    refine ⟨ρ1, env1, hp1, hr1, he1, wpE_mono hF cc E env1 hp1 _ _ (turn m env1 hp1 w1) fun d h2 q => ws_mono q fun k q ρ2 H2 p2 t2 hr2 => ?_⟩
    cases k with
    | false => exact z.nx _ _ ρ2 H2 σ1 q (p1.trans p2) (t1.trans t2) hr2 (he1.mono p2 t2)
    | true =>
      refine ⟨fun σ3 H3 => ∃ m', m' < m ∧ ∃ ρ3 env3 hp3, ρ <+: ρ3 ∧ TK H H3 ∧ HRX X ρ3 hp3 H3 ∧ EnvR X.K ρ3 H3 env3 σ3 ∧ W m' env3 hp3, fun σ3 H3 q => q, ρ2, env1, h2, _, hr2, he1.mono p2 t2, q, ?_⟩
      have p12 := p1.trans p2
      have t12 := t1.trans t2
      have y := z.weak p12 t12
      exact ⟨fun e' h' ρ' H' σ' ⟨m', hm, q⟩ p' t' hr' he' => ⟨m', hm, ρ', e', h', p12.trans p', t12.trans t', hr', he', q⟩, y.rt, y.nx, fun e' h' ρ' H' σ' ⟨m', hm, q⟩ p' t' hr' he' => ⟨m', hm, ρ', e', h', p12.trans p', t12.trans t', hr', he', q⟩⟩
theorem ps_forM {tg iter : Expr} {body : List Stmt} {k : IK} {it : List CE} {p : Pat} {cb : List CS} {pos : PySem.Pos} (hp : PySem.PassesOwn (PySem.model X.prog X.w) X.A X.env X.xe) (hc : X.calm = true) (hi : L2.PI X tg iter (iM X F E k it)) (hg : L2.PG X tg (gM X p)) (hb : L2.PSs X body (RSs X F E cb)) (hsi : ∀ x, PySem.foldedSetIterable iter X.env x = pure x) :
    L2.PS X (.For tg iter body [] pos) (RS X F E (.for_ p k it cb)) :=
  PS.imp (L2.ps_for hp hc hi hg hb hsi) fun D σ H ⟨ρ, env, hp, Z, hr, he, w, z⟩ => by
    unfold wpS at w
    refine ⟨ρ, env, hp, hr, he, wpEs_mono hF it E env hp _ _ w fun ds h1 q => ws_mono q fun I q ρ1 H1 J p1 t1 hr1 Wk => ?_⟩
    have he1 := he.mono p1 t1
    refine ⟨fun i m σ2 H2 => m = I.1.length - i ∧ i ≤ I.1.length ∧ ∃ ρ2 env2 hp2, ρ1 <+: ρ2 ∧ TK H1 H2 ∧ HRX X ρ2 hp2 H2 ∧ EnvR X.K ρ2 H2 env2 σ2 ∧ forL I.2 (fun x env h R => wpP p x env fun env1 => wpSs F E cb env1 h { nx := R, ct := R, bk := Z.nx, rt := Z.rt }) Z.nx (I.1.drop i) env2 hp2,
      ⟨_, rfl, Nat.zero_le _, ρ1, env, h1, List.prefix_refl _, TK.refl _, hr1, he1, by rw [List.drop_zero]; exact q⟩, ?_⟩
    rintro i m σ2 H2 ⟨rfl, hi, ρ2, env2, hp2, p2, t2, hr2, he2, w2⟩
    have p12 := p1.trans p2
    have t12 := t1.trans t2
    cases hd : I.1.drop i with
    | nil =>
      rw [hd] at w2
      exact .inl ⟨Wk.stop ρ2 hp2 H2 i p2 t2 hr2 w2.1 (Nat.le_antisymm (drop_nil hd) hi), z.nx _ _ ρ2 H2 σ2 w2.2 p12 t12 hr2 he2⟩
    | cons x r =>
      rw [hd] at w2
      obtain ⟨hx, hr'⟩ := drop_cons hd
      have hlt : i < I.1.length := (List.getElem?_eq_some_iff.mp hx).1
      obtain ⟨go, yl⟩ := Wk.go ρ2 hp2 H2 i x p2 t2 hr2 w2.1 hx
      refine .inr ⟨go, fun σ3 H3 => ∃ ρ3 env3 hp3, ρ1 <+: ρ3 ∧ TK H1 H3 ∧ HRX X ρ3 hp3 H3 ∧ EnvR X.K ρ3 H3 env3 σ3 ∧ forL I.2 (fun x env h R => wpP p x env fun env1 => wpSs F E cb env1 h { nx := R, ct := R, bk := Z.nx, rt := Z.rt }) Z.nx r env3 hp3, ?_, ?_⟩
      · rintro σ3 H3 ⟨ρ3, env3, hp3, q1, q2, q3, q4, q5⟩
        exact ⟨I.1.length - (i + 1), by omega, rfl, hlt, ρ3, env3, hp3, q1, q2, q3, q4, by rw [hr']; exact q5⟩
      · intro y H3 hy
        obtain ⟨rv, t3, hr3⟩ := yl y H3 hy
        refine ⟨ρ2, env2, x, he2.mono (List.prefix_refl _) t3, rv, wpP_mono _ _ _ _ _ w2.2 fun e2 w4 σ4 he4 _ => ?_⟩
        have y := z.weak p12 (t12.trans t3)
        refine ⟨ρ2, e2, hp2, _, hr3, he4, w4, ⟨?_, y.rt, y.nx, ?_⟩⟩
        · exact fun e' h' ρ' H' σ' q p' t' hr' he' => ⟨ρ', e', h', p2.trans p', t2.trans (t3.trans t'), hr', he', q⟩
        · exact fun e' h' ρ' H' σ' q p' t' hr' he' => ⟨ρ', e', h', p2.trans p', t2.trans (t3.trans t'), hr', he', q⟩
end
end M

end
section
set_option Elab.async false
set_option linter.all false
set_option autoImplicit false
set_option maxRecDepth 100000
set_option maxHeartbeats 4000000
/-! dict displays, tuple(range), list(range), x[::-1] -/
namespace M
open PySem (Addr Obj Value Str PyData Heap NestedKey Expr)
section
variable {X : L2.Cx} {F : FnS} (hF : FMono F) {E : XP}
/-! ### displays -/
def PEL (X : L2.Cx) (F : FnS) (E : XP) : List Expr → List CE → Prop
  | [], [] => True
  | e :: es, c :: cs => L2.PE X e (RE X F E c) ∧ PEL X F E es cs
  | _, _ => False
def inter : List (Option Expr) → List Expr → List Expr
  | some k :: ks, v :: vs => k :: v :: inter ks vs
  | _, _ => []
def trsOf (X : L2.Cx) (F : FnS) (E : XP) : List CE → List (L2.TE × L2.TE)
  | k :: v :: r => (RE X F E k, RE X F E v) :: trsOf X F E r
  | _ => []
def prsV : List LV → List (LV × LV)
  | k :: v :: r => (k, v) :: prsV r
  | _ => []
theorem pps_of {pos : PySem.Pos} : ∀ {ks : List (Option Expr)} {vs : List Expr} {cs : List CE}, ks.all (·.isSome) = true → ks.length = vs.length → PEL X F E (inter ks vs) cs → L2.PPs X pos ks vs (trsOf X F E cs)
  | [], [], [], _, _, _ => L2.pps_nil
  | [], [], _ :: _, _, _, h => h.elim
  | [], _ :: _, _, _, h, _ => by cases h
  | _ :: _, [], _, _, h, _ => by cases h
  | none :: ks, _ :: _, _, h, _, _ => by simp at h
  | some k :: ks, v :: vs, cs, ha, hl, h => by
    match cs, h with
    | ck :: cv :: cs, ⟨h1, h2, h3⟩ =>
      refine L2.pps_cons h1 h2 (pps_of ?_ ?_ h3)
      · rw [List.all_cons, Bool.and_eq_true] at ha; exact ha.2
      · simpa using hl
    | [], h => exact h.elim
    | [_], ⟨_, h⟩ => exact h.elim
include hF in
theorem tPairs_of {σ : L2.St} {env : Env} : ∀ (cs : List CE) (H : LHp) (ρ : List Addr) (hp : Hm) (K' : List D → Hm → Prop) (R : List (LV × LV) → LHp → Prop), wpEs F E cs env hp K' → HRX X ρ hp H → EnvR X.K ρ H env σ →
    (∀ ds hp' ρ' H' vs, ρ <+: ρ' → TK H H' → HRX X ρ' hp' H' → RVs X.K ρ' H' ds vs → (evens ds).isSome = true → K' ds hp' → R (prsV vs) H') → (∀ ds hp', K' ds hp' → (evens ds).isSome = true) → cs.length % 2 = 0 → L2.tPairs (trsOf X F E cs) σ H R
  | [], H, ρ, hp, K', R, w, hr, he, k, hev, hl => by
    unfold wpEs at w
    exact k [] hp ρ H [] (List.prefix_refl _) (TK.refl _) hr .nil rfl w
  | [_], H, ρ, hp, K', R, w, hr, he, k, hev, hl => by simp at hl
  | ck :: cv :: cs, H, ρ, hp, K', R, w, hr, he, k, hev, hl => by
    unfold wpEs at w
    refine ⟨ρ, env, hp, hr, he, wpE_mono hF ck E env hp _ _ w fun d1 h1 q ρ1 H1 v1 p1 t1 hr1 rv1 => ?_⟩
    unfold wpEs at q
    refine ⟨ρ1, env, h1, hr1, he.mono p1 t1, wpE_mono hF cv E env h1 _ _ q fun d2 h2 q ρ2 H2 v2 p2 t2 hr2 rv2 => ?_⟩
    refine tPairs_of cs H2 ρ2 h2 (fun ds h3 => K' (d1 :: d2 :: ds) h3) _ q hr2 (he.mono (p1.trans p2) (t1.trans t2)) (fun ds hp' ρ' H' vs p t hr' rvs ev q => ?_) (fun ds hp' q => ?_) (by rw [List.length_cons, List.length_cons] at hl; omega)
    · have ee := hev _ _ q
      exact k (d1 :: d2 :: ds) hp' ρ' H' (v1 :: v2 :: vs) (p1.trans (p2.trans p)) (t1.trans (t2.trans t)) hr' (.cons (rv1.mono (p2.trans p) (t2.trans t)) (.cons (rv2.mono p t) rvs)) ee q
    · have := hev _ _ q
      simp only [evens, Option.isSome_map] at this
      exact this
theorem evens_inv {K : PySem.W.Frag} {ρ : List Addr} {H : LHp} : ∀ {ds : List D} {prs : List (D × D)} {vs : List LV}, evens ds = some prs → RVs K ρ H ds vs → (∀ p ∈ prs, ∃ kk, leafKey p.1 = some kk) →
    ∃ kvs : List (L2.Key × LV), prsV vs = kvs.map (fun kv => (L2.kV kv.1, kv.2)) ∧ LK K ρ H prs kvs ∧ kvs.length = prs.length
  | [], prs, vs, h, r, _ => by
    cases h
    cases r
    exact ⟨[], rfl, .nil, rfl⟩
  | [_], prs, vs, h, r, _ => by simp [evens] at h
  | k :: v :: ds, prs, vs, h, r, hl => by
    simp only [evens, Option.map_eq_some_iff] at h
    obtain ⟨prs', h1, rfl⟩ := h
    cases r with
    | cons rk r2 =>
      cases r2 with
      | cons rv r3 =>
        obtain ⟨kvs, e1, e2, e3⟩ := evens_inv h1 r3 fun p hp => hl p (List.mem_cons_of_mem _ hp)
        obtain ⟨kk, hk⟩ := hl (k, v) List.mem_cons_self
        obtain rfl := leaf_rvK hk rk
        exact ⟨(kk, _) :: kvs, by rw [prsV, e1]; rfl, .cons hk rk rv e2, by simp [e3]⟩
include hF in
theorem pe_dispM {ks : List (Option Expr)} {vs : List Expr} {cs : List CE} {pos : PySem.Pos} (ha : ks.all (·.isSome) = true) (hl : ks.length = vs.length) (h0 : ks ≠ []) (h15 : ks.length ≤ 15) (hev : cs.length % 2 = 0) (h : PEL X F E (inter ks vs) cs) : L2.PE X (.Dict ks vs pos) (RE X F E (.dctP cs)) :=
  PE.imp (L2.pe_disp (pps_of ha hl h) ha hl h0 h15) fun σ H Q ⟨ρ, env, hp, hr, he, w⟩ => by
    unfold wpE at w
    intro p hp'
    have c0 : CellX X (ρ ++ [p]) (L2.upd H p (.dK [])) p (.dct []) := .inl ⟨[], L2.upd_same, .nil, Nat.zero_le _⟩
    have hr0 := hr.alloc hp' c0 fun _ z => nomatch z
    have t0 : TK H (L2.upd H p (.dK [])) := TK.new hp'
    have hAi : (ρ ++ [p])[hp.length]? = some p := by rw [← hr.len]; simp
    refine tPairs_of hF cs _ _ _ _ _ w hr0 (he.mono (pre_snoc _ _) t0) (fun ds h1 ρ1 H1 vs1 p1 t1 hr1 rvs _ q => ?_) (fun ds h1 q => ?_) hev
    · obtain ⟨prs, e1, hc, hleaf, hlen, q⟩ := ws_iff.mp q
      obtain ⟨kvs2, e2, q⟩ := ws_iff.mp q
      have hA := pre_get p1 hAi
      have hdK : H1 p = some (.dK []) := by
        rcases hr1.ok _ p _ hA hc with ⟨kvs', e, lk, _⟩ | ⟨_, o, e, xs, es, ep, _, _, _, _, _, hne, _⟩
        · cases lk; exact e
        · exact absurd rfl hne
      have hlf : ∀ p ∈ prs, ∃ kk, leafKey p.1 = some kk := fun p hp => by
        have := List.all_eq_true.mp hleaf p hp
        unfold leafB at this
        cases hk : p.1 <;> rw [hk] at this <;> first | exact ⟨_, rfl⟩ | exact Bool.noConfusion this
      obtain ⟨kvs, ek, lk, el⟩ := evens_inv e1 rvs hlf
      obtain ⟨m1, m2⟩ := merge_inv e2 lk .nil
      refine ⟨hdK, kvs, ek, by omega, ?_⟩
      have t8 : TK H1 (L2.upd H1 p (.dK (L2.mergeK [] kvs))) := TK.put hdK trivial
      have cOk : CellX X ρ1 (L2.upd H1 p (.dK (L2.mergeK [] kvs))) p (.dct kvs2) := .inl ⟨_, L2.upd_same, m1.mono (List.prefix_refl _) t8, by simp at m2; unfold LIM; omega⟩
      have hr2 := hr1.put hA hc (by intro _ z; cases z) hdK trivial (by intro _ z; cases z) cOk
      exact q ρ1 _ _ ((pre_snoc _ _).trans p1) (t0.trans (t1.trans t8)) hr2 (.ref hA)
    · obtain ⟨prs, e1, _⟩ := ws_iff.mp q
      rw [e1]; rfl
/-! ### tuple(range(n)), list(range(..)) -/
theorem rv_ints {K : PySem.W.Frag} {ρ : List Addr} {H : LHp} (f : Nat → Int) : ∀ l : List Nat, RVs K ρ H (l.map fun k => D.int (f k)) (l.map fun k => L2.V.int (f k))
  | [] => .nil
  | k :: l => .cons (.int _) (rv_ints f l)
include hF in
theorem pe_tupRgM {a : Expr} {ca : CE} {x y : Str} {p p2 pos pos2 : PySem.Pos} (hx : x = PySem.Str.ofString "tuple") (hy : y = PySem.Str.ofString "range") (hc : X.calm = true) (hg : L2.Gl X x) (hm : X.mg x = none) (hg2 : L2.Gl X y) (hm2 : X.mg y = none) (na : PySem.starEach [a] X.env = (false, PySem.eval a X.env) :: PySem.starEach [] X.env) (ha : L2.PE X a (RE X F E ca)) :
    L2.PE X (.Call (.Name x p) [.Call (.Name y p2) [a] [] pos2] [] pos) (RE X F E (.blt .tupRange [ca])) := by
  subst hx hy
  refine PE.imp (L2.pe_tupRg hc hg hm (L2.prg_1 hg2 hm2 ha na)) fun σ H Q ⟨ρ, env, hp, hr, he, w⟩ => ?_
  unfold wpE wpEs wpEs at w
  refine ⟨ρ, env, hp, hr, he, wpE_mono hF ca E env hp _ _ w fun d h1 q ρ1 H1 v p1 t1 hr1 rv1 => ?_⟩
  obtain ⟨r, e, q⟩ := ws_iff.mp q
  cases d <;> simp only [bltS] at e <;> first | (cases e; done) | skip
  rename_i j
  split at e
  · rename_i hs
    cases e
    obtain rfl := rv1.int_inv
    simp only [small, Bool.and_eq_true, decide_eq_true_eq] at hs
    refine ⟨j, rfl, ⟨by omega, by omega, by omega, by omega, by omega⟩, fun q' hq => ?_⟩
    have e2 : L2.rgV 0 j = (List.range j.toNat).map fun (k : Nat) => L2.V.int (0 + (k : Int)) := by
      unfold L2.rgV
      rw [Int.sub_zero]
    rw [e2]
    exact PV.newT (PV.weak p1 t1 q) hr1 (rv_ints (fun (k : Nat) => 0 + (k : Int)) _) hq
  · cases e
include hF in
theorem pe_lstRgM {a : Expr} {ca : CE} {x y : Str} {p p2 pos pos2 : PySem.Pos} (hx : x = PySem.Str.ofString "list") (hy : y = PySem.Str.ofString "range") (hc : X.calm = true) (hg : L2.Gl X x) (hm : X.mg x = none) (hg2 : L2.Gl X y) (hm2 : X.mg y = none) (na : PySem.starEach [a] X.env = (false, PySem.eval a X.env) :: PySem.starEach [] X.env) (ha : L2.PE X a (RE X F E ca)) :
    L2.PE X (.Call (.Name x p) [.Call (.Name y p2) [a] [] pos2] [] pos) (RE X F E (.blt .lstRange [ca])) := by
  subst hx hy
  refine PE.imp (L2.pe_listRg hc hg hm (L2.prg_1 hg2 hm2 ha na)) fun σ H Q ⟨ρ, env, hp, hr, he, w⟩ => ?_
  unfold wpE wpEs wpEs at w
  refine ⟨ρ, env, hp, hr, he, wpE_mono hF ca E env hp _ _ w fun d h1 q ρ1 H1 v p1 t1 hr1 rv1 => ?_⟩
  obtain ⟨r, e, q⟩ := ws_iff.mp q
  cases d <;> simp only [bltS] at e <;> first | (cases e; done) | skip
  rename_i j
  split at e
  · rename_i hs
    obtain rfl := newC_inv e
    obtain rfl := rv1.int_inv
    simp only [small, Bool.and_eq_true, decide_eq_true_eq] at hs
    refine ⟨j, rfl, ⟨by omega, by omega, by omega, by omega, by omega⟩, fun q' hq => ?_⟩
    have e2 : L2.rgV 0 j = (List.range j.toNat).map fun (k : Nat) => L2.V.int (0 + (k : Int)) := by
      unfold L2.rgV
      rw [Int.sub_zero]
    rw [e2]
    exact PV.newL (PV.weak p1 t1 q) hr1 (rv_ints (fun (k : Nat) => 0 + (k : Int)) _) hq
  · cases e
include hF in
theorem pe_lstRg2M {a b : Expr} {ca cb : CE} {x y : Str} {p p2 pos pos2 : PySem.Pos} (hx : x = PySem.Str.ofString "list") (hy : y = PySem.Str.ofString "range") (hc : X.calm = true) (hg : L2.Gl X x) (hm : X.mg x = none) (hg2 : L2.Gl X y) (hm2 : X.mg y = none) (na : PySem.starEach [a, b] X.env = (false, PySem.eval a X.env) :: PySem.starEach [b] X.env) (nb : PySem.starEach [b] X.env = (false, PySem.eval b X.env) :: PySem.starEach [] X.env) (ha : L2.PE X a (RE X F E ca)) (hb : L2.PE X b (RE X F E cb)) :
    L2.PE X (.Call (.Name x p) [.Call (.Name y p2) [a, b] [] pos2] [] pos) (RE X F E (.blt .lstRange [ca, cb])) := by
  subst hx hy
  refine PE.imp (L2.pe_listRg hc hg hm (L2.prg_2 hg2 hm2 ha hb na nb (by rw [nb]; rfl))) fun σ H Q ⟨ρ, env, hp, hr, he, w⟩ => ?_
  unfold wpE wpEs wpEs wpEs at w
  refine ⟨ρ, env, hp, hr, he, wpE_mono hF ca E env hp _ _ w fun d h1 q ρ1 H1 v p1 t1 hr1 rv1 => ?_⟩
  refine ⟨ρ1, env, h1, hr1, he.mono p1 t1, wpE_mono hF cb E env h1 _ _ q fun d2 h2 q0 ρ2 H2 v2 p2 t2 hr2 rv2 => ?_⟩
  obtain ⟨r, e, q1⟩ := ws_iff.mp q0
  obtain ⟨i, rfl⟩ : ∃ i, d = .int i := by cases d <;> first | exact ⟨_, rfl⟩ | (simp [bltS] at e)
  obtain ⟨j, rfl⟩ : ∃ i, d2 = .int i := by cases d2 <;> first | exact ⟨_, rfl⟩ | (simp [bltS] at e)
  simp only [bltS] at e
  split at e
  · rename_i hs
    obtain rfl := newC_inv e
    obtain rfl := rv1.int_inv
    obtain rfl := rv2.int_inv
    simp only [small, Bool.and_eq_true, decide_eq_true_eq] at hs
    refine ⟨i, j, rfl, rfl, ⟨by omega, by omega, by omega, by omega, by omega⟩, fun q' hq => ?_⟩
    exact PV.newL (PV.weak (p1.trans p2) (t1.trans t2) q1) hr2 (rv_ints (fun (k : Nat) => i + (k : Int)) _) hq
  · cases e
/-! ### x[::-1] -/
def stM1 : CE → Bool
  | .neg (.lit (.int i)) => decide (i = 1)
  | .bin .sub (.lit (.int i)) (.lit (.int j)) => decide (i = 0) && decide (j = 1)
  | _ => false
theorem stM1_wp {c : CE} (h : stM1 c = true) {env : Env} {hp : Hm} {Q : VQ} (q : Q (.int (-1)) hp) : wpE F E c env hp Q := by
  unfold stM1 at h
  split at h
  · rw [decide_eq_true_eq] at h
    subst h
    unfold wpE wpE
    exact q
  · rw [Bool.and_eq_true, decide_eq_true_eq, decide_eq_true_eq] at h
    obtain ⟨rfl, rfl⟩ := h
    unfold wpE wpE
    unfold wpE
    exact q
  · cases h
include hF in
theorem pe_revM {a st : Expr} {ca cst : CE} {p2 pos : PySem.Pos} (ha : L2.PE X a (RE X F E ca)) (hst : L2.PE X st (RE X F E cst)) (h1 : stM1 cst = true) : L2.PE X (.Subscript a (.Slice none none (some st) p2) pos) (RE X F E (.blt .rev [ca])) := peI fun pins s σ H Q ρ env hp N w => by
  unfold wpE wpEs wpEs at w
  refine PyProof.Rows.Subscript_ (ev hF ha N w fun v s1 d x ρ1 hp1 H1 N1 p1 t1 rv ru q0 => ?_)
  obtain ⟨r, e, q1⟩ := ws_iff.mp q0
  refine PySem.wpAny_Slice ?_
  rw [PySem.evalPart_none]
  refine PySem.wpAny_pure (PySem.wpAny_pure ?_)
  refine evPo hF (.inr ⟨st, rfl, hst⟩) N1 (Q' := fun o h2 => o = some (-1) ∧ h2 = hp1) (stM1_wp h1 ⟨rfl, rfl⟩) fun vs s3 o ρ3 hp3 H3 N3 p3 t3 ps q3 => ?_
  obtain ⟨rfl, rfl⟩ := q3
  have I5 : L2.Inv X pins σ H3 { s3 with heap := s3.heap.push { cls := .type "slice", data := .fields #[.none, .none, vs] } } := N3.I.kept (t' := s3.toks) fun b ob q => PySem.Heap.get?_push_of_some _ q
  have q' := PV.weak (p1.trans p3) (t1.trans t3) q1
  have rv3 := rv.mono p3 t3
  cases d <;> simp only [bltS] at e <;> first | (cases e; done) | skip
  · obtain ⟨b, xs, rfl, hx, hxs⟩ := rv3.tup_inv
    cases e
    cases ru
    obtain ⟨its, r1, ht, hz⟩ := I5.tuple hx
    show PySem.wpAny (PySem.model X.prog X.w) X.A (PyProof.Rows.subscriptTail a (.Slice none none (some st) p2) (.ref b) (.ref s3.heap.objs.size)) (L2.EP X pins σ Q) X.xe { s3 with heap := s3.heap.push { cls := .type "slice", data := .fields #[.none, .none, vs] } }
    refine PyProof.Rows.tail_any (ops := [.ref b, .ref s3.heap.objs.size]) ht.typeIs PyProof.Rows.slot_tuple_getitem.lookup ?_ (by with_unfolding_all rfl)
    have hlen := r1.length
    refine getItem_tuple_rev ht (PySem.Heap.IsSliceOf.new _ .none .none vs) .none .none ps ?_ (by rw [List.size_toArray]; omega)
    have hn := I5.hok.fresh (Nat.le_refl _)
    refine ⟨.ref _, _, I5.laid (t' := s3.toks) (o := .tup xs.reverse) (fun b ob q => PySem.Heap.get?_push_of_some _ q) (Nat.le_refl _) ?_, rfl, PV.newT q' N3.hr hxs.reverse hn⟩
    exact ⟨by rw [List.length_reverse]; exact hz, _, r1.reverse, PyProof.Rows.IsTup.new _ _⟩
  · obtain ⟨b, rfl, ha'⟩ := rv3.ref_inv
    obtain ⟨xs, e1, e2⟩ := Option.bind_eq_some_iff.mp e
    obtain rfl := newC_inv e2
    obtain ⟨b2, ys, hb, hx, hxs⟩ := N3.hr.getL e1
    obtain rfl := ref_eq ha' hb
    cases ru
    obtain ⟨its, r1, ht, hz⟩ := I5.list hx
    have hlen := r1.length
    show PySem.wpAny (PySem.model X.prog X.w) X.A (PyProof.Rows.subscriptTail a (.Slice none none (some st) p2) (.ref _) (.ref s3.heap.objs.size)) (L2.EP X pins σ Q) X.xe { s3 with heap := s3.heap.push { cls := .type "slice", data := .fields #[.none, .none, vs] } }
    refine PyProof.Rows.tail_any (ops := [.ref _, .ref s3.heap.objs.size]) ht.isList.typeIs PySem.slot_list_getitem.lookup ?_ (by with_unfolding_all rfl)
    refine PySem.wpAny_getItem_list_slice ht.isList (PySem.Heap.IsSliceOf.new _ .none .none vs) .none .none ps (by decide) ?_ (by rw [List.size_toArray]; omega)
    rw [PySem.W.krv_pick]
    have hn := I5.hok.fresh (Nat.le_refl _)
    refine ⟨.ref _, _, I5.laid (t' := s3.toks) (o := .lst ys.reverse) (fun b ob q => PySem.Heap.get?_push_of_some _ q) (Nat.le_refl _) ?_, rfl, PV.newL q' N3.hr hxs.reverse hn⟩
    exact ⟨by rw [List.length_reverse]; exact hz, _, 0, r1.reverse, PySem.Heap.get?_push_size _ rfl⟩
end
end M

end
section
set_option Elab.async false
set_option linter.all false
set_option autoImplicit false
set_option maxRecDepth 100000
set_option maxHeartbeats 4000000
/-! from the program's syntax to mini's -/
namespace M
open PySem (Addr Obj Value Str Expr Stmt)
abbrev S (s : String) : Str := PySem.Str.ofString s
/-- a def: its number, its parameters, its defaults -/
structure FI where
  id : Nat
  ps : List Str
  dfl : List D
structure Gm where
  fns : List (Str × FI)
  csts : List (Str × D)
structure Ctx where
  sc : PySem.Scope
  /-- the block's names as written: what may be stored to -/
  st : List (Str × PySem.NameKind)
  N : List Str
  G : Gm
def isGl (Γ : Ctx) (x : Str) : Bool := decide (Γ.sc.names.lookup x = some .globalImplicit) && (!(x == S "__debug__") && !(x == S "__name__"))
def isVis (Γ : Ctx) (x : Str) : Bool := (decide (Γ.sc.names.lookup x = some .local) || decide (Γ.sc.names.lookup x = some .cell) || decide (Γ.sc.names.lookup x = some .free)) && (!(x == S "__debug__") && !(x == S "__classdict__"))
def isLoc (Γ : Ctx) (x : Str) : Bool := decide (Γ.st.lookup x = some .local) || decide (Γ.st.lookup x = some .cell)
def ixOf (N : List Str) (x : Str) : Option Nat := N.findIdx? fun y => decide (y = x)
def litOf : PySem.Const → Option D
  | .none => some .non
  | .bool b => some (.bl b)
  | .int i => some (.int i)
  | .str s => if sOK s.cps.toList = true then some (.str s.cps.toList) else none
  | _ => none
def bopOf : PySem.Operator → Option Bop
  | .Add => some .add
  | .Sub => some .sub
  | .Mult => some .mul
  | .FloorDiv => some .fdiv
  | .Mod => some .mod
  | .Pow => some .pow
  | _ => none
def augOf : PySem.Operator → Option Bop
  | .Add => some .add
  | .Sub => some .sub
  | .Mult => some .mul
  | _ => none
def copOf : PySem.CmpOp → Cop
  | .Eq => .eq
  | .NotEq => .ne
  | .Lt => .lt
  | .LtE => .le
  | .Gt => .gt
  | .GtE => .ge
  | .Is => .is
  | .IsNot => .isnt
  | .In => .isin
  | .NotIn => .notin
/-- the built-in functions and types: name, arguments, ours, theirs -/
def bltTab : List (String × Nat × Blt × Value) := [("len", 1, .len, .builtin "len"), ("abs", 1, .abs, .builtin "abs"), ("int", 1, .int, .type "int"), ("max", 2, .max2, .builtin "max"), ("max", 1, .max1, .builtin "max"), ("min", 2, .min2, .builtin "min"), ("min", 1, .min1, .builtin "min"),
  ("sum", 1, .sum, .builtin "sum"), ("all", 1, .all, .builtin "all"), ("any", 1, .any, .builtin "any"), ("sorted", 1, .sorted, .builtin "sorted"), ("tuple", 1, .tuple, .type "tuple"), ("list", 1, .list, .type "list"), ("dict", 1, .dict, .type "dict")]
def bltOf (x : Str) (n : Nat) : Option (String × Nat × Blt × Value) := bltTab.find? fun r => decide (S r.1 = x) && r.2.1 == n
def tyTab : List Ty := [.int, .bool, .str, .tuple, .list, .dict]
def tyOf (x : Str) : Option Ty := tyTab.find? fun t => decide (S (tyName t) = x)
/-- the names that must not be the module's -/
def freeNames : List String := ["len", "abs", "int", "max", "min", "sum", "all", "any", "sorted", "tuple", "list", "dict", "bool", "str", "isinstance", "range", "zip", "enumerate"]
/-- methods: name, arguments, ours, the type, the built-in -/
def methTab : List (String × Nat × Blt × String) := [("append", 1, .append, "list.append"), ("extend", 1, .extend, "list.extend"), ("pop", 0, .pop0, "list.pop"), ("pop", 1, .popI, "list.pop"), ("index", 1, .index, "list.index"), ("insert", 2, .insert, "list.insert"),
  ("setdefault", 2, .setdefault, "dict.setdefault"), ("get", 2, .get2, "dict.get")]
def methOf (x : Str) (n : Nat) : Option (String × Nat × Blt × String) := methTab.find? fun r => decide (S r.1 = x) && r.2.1 == n
def plainIx : Expr → Bool
  | .Slice _ _ _ _ => false
  | _ => true
def notSet : Expr → Bool
  | .Set _ _ _ => false
  | _ => true
def isTupE : Expr → Bool
  | .Tuple _ _ _ => true
  | _ => false
/-- what a call's shape leaves to the defaults -/
def shape (fi : FI) (n : Nat) (ks : List Str) : Option (List D) :=
  if n + ks.length ≤ fi.ps.length ∧ (fi.ps.drop n).take ks.length = ks ∧ fi.ps.length - (n + ks.length) ≤ fi.dfl.length then some (fi.dfl.drop (fi.dfl.length - (fi.ps.length - (n + ks.length)))) else none
/-- a block's own names with their slots -/
def ownOf (N : List Str) (scope : PySem.Scope) : List (Str × Nat) := (scope.names.filter fun y => decide (y.2 = .local) || decide (y.2 = .cell)).filterMap fun y => (ixOf N y.1).map fun i => (y.1, i)
def blkCtx (Γ : Ctx) (scope : PySem.Scope) : Ctx := { Γ with sc := L2.relS scope Γ.sc, st := scope.names }

/-- range(..), as an argument -/
def rngOf (Γ : Ctx) (es : List Expr) : Option (List Expr) := match es with
  | [.Call (.Name y _) as [] _] => if isGl Γ y = true ∧ y = S "range" then some as else none
  | _ => none
mutual
def cP : Nat → Ctx → Expr → Option Pat
  | 0, _, _ => none
  | n + 1, Γ, e => match e with
    | .Name x _ => if isLoc Γ x = true then (ixOf Γ.N x).map .slot else none
    | .Tuple es _ _ => if es.all plainE = true then (cPs n Γ es).map .tup else none
    | _ => none
def cPs : Nat → Ctx → List Expr → Option (List Pat)
  | 0, _, _ => none
  | n + 1, Γ, es => match es with
    | [] => some []
    | e :: es => match cP n Γ e, cPs n Γ es with
      | some p, some ps => some (p :: ps)
      | _, _ => none
end
mutual
def cE : Nat → Ctx → Expr → Option CE
  | 0, _, _ => none
  | n + 1, Γ, e => match e with
    | .Name x _ => if isVis Γ x = true then (ixOf Γ.N x).map .loc else if isGl Γ x = true then (Γ.G.csts.lookup x).map .lit else none
    | .Constant c _ _ => (litOf c).map .lit
    | .Tuple es _ _ => if es.all plainE = true ∧ es.length ≤ 1000 then (cEs n Γ es).map .tup else none
    | .List es _ => if es.all plainE = true ∧ es.length ≤ 1000 then (cEs n Γ es).map .lst else none
    | .Dict ks vs _ => match ks, vs with
      | [], [] => some (.dct [])
      | _, _ => if ks.all (·.isSome) = true ∧ ks.length = vs.length ∧ ks ≠ [] ∧ ks.length ≤ 15 then (match cEs n Γ (inter ks vs) with
        | some cs => if cs.length % 2 = 0 then some (.dctP cs) else none
        | none => none) else none
    | .BinOp a op b _ => match bopOf op, cE n Γ a, cE n Γ b with
      | some o, some x, some y => some (.bin o x y)
      | _, _, _ => none
    | .UnaryOp op a _ => match op with
      | .USub => (cE n Γ a).map .neg
      | .Not => (cE n Γ a).map .not
      | _ => none
    | .BoolOp op es _ => cB n Γ op es
    | .Compare a ops bs _ => match ops, bs with
      | [op], [b] => if PySem.behindInMarks op b = false then (match cE n Γ a, cE n Γ b with
        | some x, some y => some (.cmp (copOf op) x y)
        | _, _ => none) else none
      | [op, op'], [b, c] => if PySem.lastMarks [op, op'] [b, c] = false then (match cE n Γ a, cE n Γ b, cE n Γ c with
        | some x, some y, some z => some (.chn (copOf op) (copOf op') x y z)
        | _, _, _ => none) else none
      | _, _ => none
    | .IfExp c a b _ => match cE n Γ c, cE n Γ a, cE n Γ b with
      | some x, some y, some z => some (.ife x y z)
      | _, _, _ => none
    | .Subscript a s _ => match s with
      | .Slice lo hi st _ => match st with
        | none => match cE n Γ a, cO n Γ lo, cO n Γ hi with
          | some x, some y, some z => some (.slc x y z)
          | _, _, _ => none
        | some st => match lo, hi with
          | none, none => match cE n Γ a, cE n Γ st with
            | some x, some y => if stM1 y = true then some (.blt .rev [x]) else none
            | _, _ => none
          | _, _ => none
      | s => match cE n Γ a, cE n Γ s with
        | some x, some y => some (.idx x y)
        | _, _ => none
    | .Call f es kws pos => match f with
      | .Name x _ => if isGl Γ x = true ∧ es.all plainE = true then (match Γ.G.fns.lookup x with
        | some fi => match kws with
          | [] => match cEs n Γ es, shape fi es.length [] with
            | some cs, some dv => some (.call fi.id cs dv (List.range fi.ps.length))
            | _, _ => none
          | k :: ks => if (k :: ks).all (fun k => k.arg.isSome) = true then (match cEs n Γ es, cEs n Γ ((k :: ks).map (·.value)), shape fi es.length ((k :: ks).filterMap (·.arg)) with
            | some cs, some cs', some dv => some (.call fi.id (cs ++ cs') dv (List.range fi.ps.length))
            | _, _, _ => none) else none
        | none => match kws with
          | [] => match bltOf x es.length with
            | some r => match rngOf Γ es with
              | some as => match r.2.2.1 with
                | .tuple => if as.all plainE = true ∧ as.length = 1 then (cEs n Γ as).map (.blt .tupRange) else none
                | .list => if as.all plainE = true ∧ (as.length = 1 ∨ as.length = 2) then (cEs n Γ as).map (.blt .lstRange) else none
                | b => (cEs n Γ es).map (.blt b)
              | none => (cEs n Γ es).map (.blt r.2.2.1)
            | none => if x = S "isinstance" then (match es with
              | [a, .Name y _] => if isGl Γ y = true then (match tyOf y, cE n Γ a with
                | some t, some c => some (.blt (.isi t) [c])
                | _, _ => none) else none
              | _ => none) else none
          | _ => none) else none
      | .Attribute o m apos => if baseE o = true ∧ (apos.endLine == pos.line) = true ∧ es.all plainE = true then (match kws with
        | [] => match methOf m es.length, cE n Γ o, cEs n Γ es with
          | some r, some c, some cs => some (.meth r.2.2.1 c cs)
          | _, _, _ => none
        | _ => none) else none
      | _ => none
    | .ListComp elt gs scope _ => match gs with
      | [⟨tg, iter, ifs, a⟩] => if a = 0 ∧ L2.blkC Γ.N Γ.sc scope (ownOf Γ.N scope) = true ∧ notSet iter = true ∧ ifs.length ≤ 1 then (match cI n Γ tg iter, cP n (blkCtx Γ scope) tg, cEs n (blkCtx Γ scope) ifs, cE n (blkCtx Γ scope) elt with
        | some I, some p, some cs, some c => if (slotsP p).all (fun i => ((ownOf Γ.N scope).map (·.2)).contains i) = true then some (.comp ((ownOf Γ.N scope).map (·.2)) p I.1 I.2 cs c) else none
        | _, _, _, _ => none) else none
      | _ => none
    | .DictComp ke va gs scope _ => match gs with
      | [⟨tg, iter, ifs, a⟩] => if a = 0 ∧ L2.blkC Γ.N Γ.sc scope (ownOf Γ.N scope) = true ∧ notSet iter = true ∧ ifs.length ≤ 1 then (match cI n Γ tg iter, cP n (blkCtx Γ scope) tg, cEs n (blkCtx Γ scope) ifs, cE n (blkCtx Γ scope) ke, cE n (blkCtx Γ scope) va with
        | some I, some p, some cs, some c, some v => if (slotsP p).all (fun i => ((ownOf Γ.N scope).map (·.2)).contains i) = true then some (.dcomp ((ownOf Γ.N scope).map (·.2)) p I.1 I.2 cs c v) else none
        | _, _, _, _, _ => none) else none
      | _ => none
    | _ => none
def cEs : Nat → Ctx → List Expr → Option (List CE)
  | 0, _, _ => none
  | n + 1, Γ, es => match es with
    | [] => some []
    | e :: es => match cE n Γ e, cEs n Γ es with
      | some c, some cs => some (c :: cs)
      | _, _ => none
def cB : Nat → Ctx → PySem.BoolOp → List Expr → Option CE
  | 0, _, _, _ => none
  | n + 1, Γ, op, es => match es with
    | [] => none
    | [e] => cE n Γ e
    | e :: r => match cE n Γ e, cB n Γ op r with
      | some x, some y => some (match op with
        | .And => .and x y
        | .Or => .or x y)
      | _, _ => none
def cO : Nat → Ctx → Option Expr → Option CE
  | 0, _, _ => none
  | n + 1, Γ, o => match o with
    | none => some (.lit .non)
    | some e => cE n Γ e
/-- a source -/
def cI : Nat → Ctx → Expr → Expr → Option (IK × List CE)
  | 0, _, _, _ => none
  | n + 1, Γ, tg, iter => match iter with
    | .Call (.Name x _) es [] _ => if isGl Γ x = true ∧ es.all plainE = true ∧ (Γ.G.fns.lookup x).isNone = true ∧ x = S "range" ∧ (es.length = 1 ∨ es.length = 2) then (cEs n Γ es).map fun cs => (.range, cs)
      else if isGl Γ x = true ∧ es.all plainE = true ∧ (Γ.G.fns.lookup x).isNone = true ∧ x = S "zip" ∧ es.length = 2 ∧ isTupE tg = true then (cEs n Γ es).map fun cs => (.zip, cs)
      else if isGl Γ x = true ∧ es.all plainE = true ∧ (Γ.G.fns.lookup x).isNone = true ∧ x = S "enumerate" ∧ es.length = 1 ∧ isTupE tg = true then (cEs n Γ es).map fun cs => (.enum, cs)
      else (cE n Γ iter).map fun c => (.val, [c])
    | e => (cE n Γ e).map fun c => (.val, [c])
end
end M

end
section
set_option Elab.async false
set_option linter.all false
set_option autoImplicit false
set_option maxRecDepth 100000
set_option maxHeartbeats 4000000
/-! what compiles means what mini says -/
namespace M
open PySem (Addr Obj Value Str Expr Stmt FuncData)
def CXN : L2.CXT := fun _ _ _ _ _ _ => False
def E0 : L2.XK := fun _ _ _ => False
def EN : XP := fun _ _ _ => False
theorem passN {X : L2.Cx} {E : L2.XK} : L2.Passes CXN X E := fun _ _ _ _ _ _ _ h => h.elim
/-- the promise of a function of mini's -/
def spF (P : PySem.Program) (w : PySem.World) (K : PySem.W.Frag) (F : FnS) (id : Nat) : L2.Sp := fun vs H Q _ => ∃ ρ hp ds, HR P w K ρ hp H ∧ RVs K ρ H ds vs ∧ F id ds hp (PV P w K ρ H Q) EN
/-- how a def's parameters are bound -/
def BindG (K : PySem.W.Frag) (fd : FuncData) (fi : FI) : Prop := ∀ n ks dv, shape fi n ks = some dv → ∃ (dvs : List LV) (ds : List Value), L2.Vals dvs ds ∧ (∀ ρ H, RVs K ρ H dv dvs) ∧
  ∀ (s : PySem.Shared) (us ws : List Value), K.In s.heap → us.length = n → ws.length = ks.length → PySem.BindsTo s fd ⟨us, ks.zip ws⟩ (fi.ps.zip (us ++ ws ++ ds))
structure Good (Γ : Ctx) (F : FnS) (X : L2.Cx) : Prop where
  sc : X.env.scope = Γ.sc
  N : X.N = Γ.N
  nd : X.N.Nodup
  kind : X.env.scope.kind = .function
  calm : X.calm = true
  room : ∃ k, L2.Room k X.A
  fl : ∀ x, (Γ.st.lookup x = some .local ∨ Γ.st.lookup x = some .cell) → L2.Loc X.env.scope x ∧ (X.fn x = true ∨ X.env.scope.names.lookup x = some .local)
  fns : ∀ x fi, Γ.G.fns.lookup x = some fi → ∃ (f : Addr) (k : Nat) (fd : FuncData), L2.FnOk X.prog X.w X.K X.mg X.base CXN k f fd fi.ps (spF X.prog X.w X.K F fi.id) ∧ L2.Room k X.A ∧ X.mg x = some (.ref f) ∧ PySem.W.keepIn X.K (.ref f) = true ∧ BindG X.K fd fi
  csts : ∀ x d, Γ.G.csts.lookup x = some d → ∃ u v, X.mg x = some u ∧ L2.RelV v u ∧ ∀ ρ H, RV X.K ρ H d v
  free : ∀ x ∈ freeNames, X.mg (S x) = none
theorem Good.hu {Γ : Ctx} {F : FnS} {X : L2.Cx} (g : Good Γ F X) : X.A.units + 80 < PySem.cLine := by
  obtain ⟨k, r⟩ := g.room
  have := r.un
  omega
theorem lookup_map {f : Str × PySem.NameKind → Str × PySem.NameKind} (h1 : ∀ y, (f y).1 = y.1) {x : Str} {k : PySem.NameKind} (h2 : ∀ y, y.2 = k → f y = y) : ∀ {l : List (Str × PySem.NameKind)}, l.lookup x = some k → (l.map f).lookup x = some k
  | [], h => by simp at h
  | y :: r, h => by
    obtain ⟨n, k'⟩ := y
    cases hx : x == n with
    | true =>
      rw [List.lookup_cons, hx] at h
      have h : k' = k := Option.some.inj h
      subst h
      rw [List.map_cons, h2 (n, k') rfl, List.lookup_cons, hx]
    | false =>
      rw [List.lookup_cons, hx] at h
      have e : f (n, k') = (n, (f (n, k')).2) := Prod.ext (h1 (n, k')) rfl
      rw [List.map_cons, e, List.lookup_cons, hx]
      exact lookup_map h1 h2 h
theorem relS_same {scope sc : PySem.Scope} {x : Str} {k : PySem.NameKind} (h : scope.names.lookup x = some k) (hk : k ≠ .free) : (L2.relS scope sc).names.lookup x = some k := by
  refine lookup_map (f := fun (n, k) => if (k == .free && sc.kind == .function && sc.names.lookup n == some .cell) then (n, .cell) else (n, k)) (fun y => ?_) (fun y hy => ?_) h
  · show (if _ then (y.1, PySem.NameKind.cell) else (y.1, y.2)).1 = y.1
    split <;> rfl
  · have : (y.2 == PySem.NameKind.free) = false := by
      rw [hy]
      cases k <;> first | rfl | exact absurd rfl hk
    show (if (y.2 == PySem.NameKind.free && _ && _) = true then (y.1, PySem.NameKind.cell) else (y.1, y.2)) = y
    rw [this, Bool.false_and, Bool.false_and, if_neg Bool.false_ne_true]
/-- a block of a good context -/
theorem Good.blk {Γ : Ctx} {F : FnS} {X : L2.Cx} (g : Good Γ F X) (scope : PySem.Scope) (hk : scope.kind = .function) (s : PySem.Shared) (H : LHp) (C : Addr) (cl : List (Str × Addr)) (fp : List Addr) : Good (blkCtx Γ scope) F (X.blk s H scope (PySem.compEnvC scope cl C X.env) fp) := by
  have hs : (PySem.compEnvC scope cl C X.env).scope = L2.relS scope Γ.sc := by rw [← g.sc]; rfl
  refine ⟨hs, g.N, g.nd, ?_, g.calm, g.room, fun x hx => ?_, g.fns, g.csts, g.free⟩
  · show (PySem.compEnvC scope cl C X.env).scope.kind = .function
    rw [hs]
    exact hk
  · have rel : ∀ k, (k = PySem.NameKind.local ∨ k = .cell) → scope.names.lookup x = some k → (L2.relS scope Γ.sc).names.lookup x = some k := fun k hk h => relS_same h (by rcases hk with rfl | rfl <;> decide)
    show L2.Loc (PySem.compEnvC scope cl C X.env).scope x ∧ ((scope.names.lookup x == some .cell) = true ∨ (PySem.compEnvC scope cl C X.env).scope.names.lookup x = some .local)
    rw [hs]
    rcases hx with h | h
    · have h : scope.names.lookup x = some .local := h
      exact ⟨.inl (rel _ (.inl rfl) h), .inr (rel _ (.inl rfl) h)⟩
    · have h : scope.names.lookup x = some .cell := h
      exact ⟨.inr (rel _ (.inr rfl) h), .inl (by rw [h]; rfl)⟩
theorem gl_of {Γ : Ctx} {F : FnS} {X : L2.Cx} (g : Good Γ F X) {x : Str} (h : isGl Γ x = true) : L2.Gl X x ∧ (x == S "__debug__") = false ∧ x ≠ S "__name__" := by
  unfold isGl at h
  simp only [Bool.and_eq_true, decide_eq_true_eq, Bool.not_eq_true', beq_eq_false_iff_ne] at h
  refine ⟨?_, beq_eq_false_iff_ne.mpr h.2.1, h.2.2⟩
  show X.env.scope.names.lookup x = some .globalImplicit
  rw [g.sc]
  exact h.1
theorem vis_of {Γ : Ctx} {F : FnS} {X : L2.Cx} (g : Good Γ F X) {x : Str} (h : isVis Γ x = true) : L2.Vis X.env.scope x ∧ (x == S "__debug__") = false ∧ (x == S "__classdict__") = false := by
  unfold isVis at h
  simp only [Bool.and_eq_true, Bool.or_eq_true, decide_eq_true_eq, Bool.not_eq_true', beq_eq_false_iff_ne] at h
  refine ⟨?_, beq_eq_false_iff_ne.mpr h.2.1, beq_eq_false_iff_ne.mpr h.2.2⟩
  rw [g.sc]
  rcases h.1 with (h | h) | h
  · exact .inl h
  · exact .inr (.inl h)
  · exact .inr (.inr h)
theorem loc_of {Γ : Ctx} {F : FnS} {X : L2.Cx} (g : Good Γ F X) {x : Str} (h : isLoc Γ x = true) : L2.Loc X.env.scope x ∧ (X.fn x = true ∨ X.env.scope.names.lookup x = some .local) := by
  unfold isLoc at h
  simp only [Bool.or_eq_true, decide_eq_true_eq] at h
  exact g.fl x h
theorem ix_of {N : List Str} {x : Str} {i : Nat} (h : ixOf N x = some i) : N[i]? = some x := by
  unfold ixOf at h
  rw [List.findIdx?_eq_some_iff_getElem] at h
  obtain ⟨h1, h2, _⟩ := h
  rw [List.getElem?_eq_getElem h1]
  simpa using h2
/-! ### targets -/
theorem cP_ok {F : FnS} : ∀ (n : Nat) (Γ : Ctx) (X : L2.Cx), Good Γ F X → (∀ e p, cP n Γ e = some p → L2.PG X e (gM X p) ∧ plainE e = true) ∧ ∀ es ps, cPs n Γ es = some ps → es.all plainE = true → L2.PGs X es (gsM X ps) ∧ es.length = ps.length
  | 0, Γ, X, g => ⟨fun e p h => by simp [cP] at h, fun e p h => by simp [cPs] at h⟩
  | n + 1, Γ, X, g => by
    have ih := cP_ok (F := F) n Γ X g
    refine ⟨fun e p h => ?_, fun es ps h hp => ?_⟩
    · unfold cP at h
      cases e <;> simp only at h <;> first | (cases h; done) | skip
      · split at h
        · rename_i hl
          obtain ⟨i, hi, rfl⟩ := Option.map_eq_some_iff.mp h
          exact ⟨pg_slotM g.nd (by rw [g.N]; exact ix_of hi) (loc_of g hl).1 (loc_of g hl).2, rfl⟩
        · cases h
      · split at h
        · rename_i hl
          obtain ⟨ps, hps, rfl⟩ := Option.map_eq_some_iff.mp h
          obtain ⟨a, b⟩ := ih.2 _ _ hps hl
          exact ⟨pg_tupM g.calm a hl b, rfl⟩
        · cases h
    · unfold cPs at h
      cases es with
      | nil => cases h; exact ⟨pgs_nilM, rfl⟩
      | cons e es =>
        simp only at h
        split at h
        · rename_i p ps h1 h2
          cases h
          rw [List.all_cons, Bool.and_eq_true] at hp
          obtain ⟨a, b⟩ := ih.2 _ _ h2 hp.2
          exact ⟨pgs_consM (ih.1 _ _ h1).1 a hp.1, by rw [List.length_cons, List.length_cons, b]⟩
        · cases h
end M

end
section
set_option Elab.async false
set_option linter.all false
set_option autoImplicit false
set_option maxRecDepth 100000
set_option maxHeartbeats 4000000
/-! calls, tables -/
namespace M
open PySem (Addr Obj Value Str Expr Stmt FuncData)
theorem perm_from (zs : List D) : ∀ (m i : Nat), i + m = zs.length → permD zs (List.range' i m) = some (zs.drop i)
  | 0, i, h => by
    rw [List.range'_zero, permD, List.drop_eq_nil_of_le (by omega)]
  | m + 1, i, h => by
    have hi : i < zs.length := by omega
    rw [List.range'_succ, permD, List.getElem?_eq_getElem hi, perm_from zs m (i + 1) (by omega), List.drop_eq_getElem_cons hi]
theorem perm_id (zs : List D) {n : Nat} (h : n = zs.length) : permD zs (List.range n) = some zs := by
  rw [List.range_eq_range', perm_from zs n 0 (by omega), List.drop_zero]
theorem shape_len {fi : FI} {n : Nat} {ks : List Str} {dv : List D} (h : shape fi n ks = some dv) : n + ks.length + dv.length = fi.ps.length ∧ (fi.ps.drop n).take ks.length = ks := by
  unfold shape at h
  split at h
  · rename_i c
    cases h
    rw [List.length_drop]
    exact ⟨by omega, c.2.1⟩
  · cases h
section
variable {X : L2.Cx} {Γ : Ctx} {F : FnS} (hF : FMono F)
include hF
/-- the callee runs -/
theorem run_fnM (g : Good Γ F X) {x : Str} {fi : FI} (hx : Γ.G.fns.lookup x = some fi) {n : Nat} {ks : List Str} {dv : List D} (hs : shape fi n ks = some dv) :
    ∃ f : Addr, X.mg x = some (.ref f) ∧ PySem.W.keepIn X.K (.ref f) = true ∧ ∀ {pins : List (Addr × Obj)} {σ : L2.St} {H : LHp} {s : PySem.Shared} {Q : L2.VK} {us ws : List Value} {vs zs : List LV} {ρ : List Addr} {hp : Hm} {ds : List D}, L2.Inv X pins σ H s → L2.Vals vs us → L2.Vals zs ws → us.length = n → ws.length = ks.length →
      HRX X ρ hp H → RVs X.K ρ H ds (vs ++ zs) → F fi.id (ds ++ dv) hp (PVX X ρ H Q) EN → PySem.wpAny (PySem.model X.prog X.w) X.A (PySem.call (.ref f) us (ks.zip ws)) (L2.EP X pins σ Q) X.xe s := by
  obtain ⟨f, k, fd, FO, hr, hm, hk, hb⟩ := g.fns x fi hx
  refine ⟨f, hm, hk, fun {pins σ H s Q us ws vs zs ρ hp ds} I r rz l1 l2 hrx rv w => ?_⟩
  obtain ⟨dvs, dss, rd, rdv, bt⟩ := hb n ks dv hs
  have r2 : L2.Vals (vs ++ zs ++ dvs) (us ++ ws ++ dss) := (r.append rz).append rd
  have hsp : spF X.prog X.w X.K F fi.id (vs ++ zs ++ dvs) H Q E0 := ⟨ρ, hp, ds ++ dv, hrx, rv.append (rdv ρ H), w⟩
  refine PySem.wpAny_call (PySem.codeAny_mono (FO.run X.A X.stack s H ⟨us, ks.zip ws⟩ (us ++ ws ++ dss) (vs ++ zs ++ dvs) Q E0 hr I.env0 (bt s us ws I.kIn l1 l2) r2 hsp) fun r s' hq => ?_)
  cases r with
  | error e => exact False.elim hq
  | ok fl =>
    cases fl with
    | ret u => exact I.after hq
    | next => exact False.elim hq
    | brk => exact False.elim hq
    | cont => exact False.elim hq
theorem FMono.weak {id : Nat} {ds : List D} {hp : Hm} {ρ ρ1 : List Addr} {H H1 : LHp} {Q : L2.VK} (h : F id ds hp (PVX X ρ H Q) EN) (p : ρ <+: ρ1) (t : TK H H1) : F id ds hp (PVX X ρ1 H1 Q) EN :=
  hF id ds hp _ _ EN h fun d h' q => PV.weak p t q
theorem pe_fnM (g : Good Γ F X) {x : Str} {fi : FI} (hx : Γ.G.fns.lookup x = some fi) (hgl : isGl Γ x = true) {es : List Expr} {cs : List CE} {dv : List D} {p pos : PySem.Pos} (hs : shape fi es.length [] = some dv) (hp : es.all plainE = true) (ha : L2.PA X es (RA X F EN cs)) (hl : es.length = cs.length) :
    L2.PE X (.Call (.Name x p) es [] pos) (RE X F EN (.call fi.id cs dv (List.range fi.ps.length))) := peI fun pins s σ H Q ρ env hp0 N w => by
  obtain ⟨hg, hdb, hn⟩ := gl_of g hgl
  obtain ⟨f, hm, hk, run⟩ := run_fnM hF g hx hs
  unfold wpE at w
  have hlen := (shape_len hs).1
  have w1 := wpEs_len hF cs env hp0 _ w
  refine PySem.wpAny_Call_Name_kw (L2.ld_glob N.I hg hm ?_ hdb)
  cases es with
  | nil =>
    have hc : cs = [] := List.length_eq_zero_iff.mp hl.symm
    subst hc
    refine PySem.W.callWith_K0 N.I.kIn hk ?_
    unfold wpEs at w1
    obtain ⟨zs, e, q⟩ := ws_iff.mp w1.2
    rw [perm_id _ (by simpa using hlen.symm)] at e
    cases e
    exact run (us := []) (ws := []) (vs := []) (zs := []) (ds := []) N.I .nil .nil rfl rfl N.hr .nil q
  | cons e es =>
    have h1 : plainE e = true ∧ es.all plainE = true := by rw [List.all_cons, Bool.and_eq_true] at hp; exact hp
    refine PySem.W.callWith_K (h₀ := X.base) N.I.ok.mod.kin hk (evA hF ha N w1 fun us s1 ds xs ρ1 hp1 H1 N1 p1 t1 rv ru q => ⟨N1.I.kIn, ?_⟩) (star_plain h1.1) (any_plain h1.2)
    obtain ⟨zs, e2, q2⟩ := ws_iff.mp q.2
    rw [perm_id _ (by rw [List.length_append, q.1, ← hl]; simpa using hlen.symm)] at e2
    cases e2
    refine run (us := us) (ws := []) (vs := xs) (zs := []) (ds := ds) N1.I ru .nil ?_ rfl N1.hr (by rw [List.append_nil]; exact rv) (FMono.weak hF q2 p1 t1)
    rw [← ru.length, ← rv.length, q.1, hl]
/-! ### keywords -/
omit hF in
theorem wpEs_app (E : XP) : ∀ (cs ks : List CE) (env : Env) (h : Hm) (Q : List D → Hm → Prop), FMono F → wpEs F E (cs ++ ks) env h Q → wpEs F E cs env h fun ds h1 => wpEs F E ks env h1 fun es h2 => Q (ds ++ es) h2
  | [], ks, env, h, Q, hF, w => by
    unfold wpEs
    exact w
  | c :: cs, ks, env, h, Q, hF, w => by
    rw [List.cons_append] at w
    unfold wpEs at w ⊢
    exact wpE_mono hF c E env h _ _ w fun d h1 q => wpEs_app E cs ks env h1 _ hF q
omit hF in
theorem PK.imp {kws : List PySem.Keyword} {t t' : L2.TA} (h : L2.PK X kws t) (k : ∀ σ H Q, t' σ H Q → t σ H Q) : L2.PK X kws t' := ⟨fun pos pins s σ H Q I q => h.run pos pins s σ H Q I (k σ H Q q)⟩
omit hF in
theorem pk_nilM : L2.PK X [] (RA X F EN []) := PK.imp L2.pk_nil fun σ H Q ⟨ρ, env, hp, hr, he, h⟩ => by
  unfold wpEs at h
  exact h ρ H [] (List.prefix_refl _) (TK.refl _) hr .nil
theorem pk_consM {e : Expr} {nm : Option Str} {kpos : PySem.Pos} {kws : List PySem.Keyword} {c : CE} {cs : List CE} (ha : L2.PE X e (RE X F EN c)) (hr : L2.PK X kws (RA X F EN cs)) : L2.PK X (⟨nm, e, kpos⟩ :: kws) (RA X F EN (c :: cs)) :=
  PK.imp (L2.pk_cons ha hr) fun _ _ _ h => rd_cons hF h
omit hF in
theorem kw_names {pos : PySem.Pos} {env : PySem.Env} : ∀ {kws : List PySem.Keyword}, kws.all (fun k => k.arg.isSome) = true → (PySem.backToKw pos (PySem.keywordEach kws env)).all (·.1.isSome) = true ∧ (PySem.backToKw pos (PySem.keywordEach kws env)).any (·.1.isNone) = false ∧ (PySem.backToKw pos (PySem.keywordEach kws env)).filterMap (·.1) = kws.filterMap (·.arg) ∧ (kws.filterMap (·.arg)).length = kws.length
  | [], _ => ⟨rfl, rfl, rfl, rfl⟩
  | ⟨nm, e, p⟩ :: kws, h => by
    rw [List.all_cons, Bool.and_eq_true] at h
    obtain ⟨h1, h2, h3, h4⟩ := kw_names (pos := pos) (env := env) h.2
    obtain ⟨n, hn⟩ := Option.isSome_iff_exists.mp h.1
    have hn : nm = some n := hn
    subst hn
    refine ⟨?_, ?_, ?_, ?_⟩
    · show (true && _) = true
      rw [Bool.true_and]; exact h1
    · show (false || _) = false
      rw [Bool.false_or]; exact h2
    · show n :: List.filterMap (·.1) (PySem.backToKw pos (PySem.keywordEach kws env)) = n :: kws.filterMap (·.arg)
      rw [h3]
    · show (n :: kws.filterMap (·.arg)).length = kws.length + 1
      rw [List.length_cons, h4]
theorem pe_fnkM (g : Good Γ F X) {x : Str} {fi : FI} (hx : Γ.G.fns.lookup x = some fi) (hgl : isGl Γ x = true) {es : List Expr} {kws : List PySem.Keyword} {cs ks : List CE} {dv : List D} {p pos : PySem.Pos} (hs : shape fi es.length (kws.filterMap (·.arg)) = some dv) (hp : es.all plainE = true) (hkw : kws.all (fun k => k.arg.isSome) = true) (ha : L2.PA X es (RA X F EN cs)) (hl : es.length = cs.length) (hk : L2.PK X kws (RA X F EN ks)) (hlk : kws.length = ks.length) :
    L2.PE X (.Call (.Name x p) es kws pos) (RE X F EN (.call fi.id (cs ++ ks) dv (List.range fi.ps.length))) := peI fun pins s σ H Q ρ env hp0 N w => by
  obtain ⟨hg, hdb, hn⟩ := gl_of g hgl
  obtain ⟨f, hm, hkp, run⟩ := run_fnM hF g hx hs
  obtain ⟨k1, k2, k3, k4⟩ := kw_names (pos := pos) (env := X.env) hkw
  unfold wpE at w
  have hlen := (shape_len hs).1
  have w1 := wpEs_len hF cs env hp0 _ (wpEs_app EN cs ks env hp0 _ hF w)
  -- the keywords behind the positional ones
  have kwrun : ∀ (us : List Value) (xs : List LV) (ds : List D) (s1 : PySem.Shared) (ρ1 : List Addr) (hp1 : Hm) (H1 : LHp), Now X pins σ env ρ1 hp1 H1 s1 → ρ <+: ρ1 → TK H H1 → RVs X.K ρ1 H1 ds xs → L2.Vals xs us → ds.length = cs.length → wpEs F EN ks env hp1 (fun es h2 => ws (permD (ds ++ es ++ dv) (List.range fi.ps.length)) fun zs => F fi.id zs h2 (PVX X ρ H Q) EN) →
      PySem.wpAny (PySem.model X.prog X.w) X.A (PySem.evalAll ((PySem.backToKw pos (PySem.keywordEach kws X.env)).map (·.2))) (fun zs s2 => X.K.In s2.heap ∧ PySem.wpAny (PySem.model X.prog X.w) X.A (PySem.call (.ref f) us (((PySem.backToKw pos (PySem.keywordEach kws X.env)).filterMap (·.1)).zip zs)) (L2.EP X pins σ Q) X.xe s2) X.xe s1 := by
    intro us xs ds s1 ρ1 hp1 H1 N1 p1 t1 rv ru hds w2
    refine L2.thn (hk.run pos pins s1 σ H1 (fun zs H' => ∃ ρ' hp' es, ρ1 <+: ρ' ∧ TK H1 H' ∧ HRX X ρ' hp' H' ∧ RVs X.K ρ' H' es zs ∧ es.length = ks.length ∧ ws (permD (ds ++ es ++ dv) (List.range fi.ps.length)) fun zs => F fi.id zs hp' (PVX X ρ H Q) EN) N1.I ⟨ρ1, env, hp1, N1.hr, N1.he, wpEs_mono hF ks EN env hp1 _ _ (wpEs_len hF ks env hp1 _ w2) fun es h2 q ρ' H' zs p t hr rv => ⟨ρ', h2, es, p, t, hr, rv, q.1, q.2⟩⟩) ?_
    intro zs s2 ⟨zv, H2, I2, rz, ρ2, hp2, es, p2, t2, hr2, rv2, hes, q2⟩
    refine ⟨I2.kIn, ?_⟩
    rw [k3]
    obtain ⟨ys, e2, q3⟩ := ws_iff.mp q2
    rw [perm_id _ (by rw [List.length_append, List.length_append, hds, hes, ← hl, ← hlk, ← k4]; omega)] at e2
    cases e2
    refine run (us := us) (ws := zs) (vs := xs) (zs := zv) (ds := ds ++ es) I2 ru rz ?_ ?_ hr2 ((rv.mono p2 t2).append rv2) (FMono.weak hF q3 (p1.trans p2) (t1.trans t2))
    · rw [← ru.length, ← rv.length, hds, hl]
    · rw [← rz.length, ← rv2.length, hes, ← hlk, ← k4]
  refine PySem.wpAny_Call_Name_kw (L2.ld_glob N.I hg hm ?_ hdb)
  cases es with
  | nil =>
    have hc : cs = [] := List.length_eq_zero_iff.mp hl.symm
    subst hc
    unfold wpEs at w1
    refine PySem.W.callWith_KW0 (h₀ := X.base) N.I.ok.mod.kin hkp k1 ?_ (by rw [k2]; rfl)
    exact kwrun [] [] [] s ρ hp0 H N (List.prefix_refl _) (TK.refl _) .nil .nil rfl w1.2
  | cons e es =>
    have h1 : plainE e = true ∧ es.all plainE = true := by rw [List.all_cons, Bool.and_eq_true] at hp; exact hp
    refine PySem.W.callWith_KW (h₀ := X.base) N.I.ok.mod.kin hkp k1 (evA hF ha N w1 fun us s1 ds xs ρ1 hp1 H1 N1 p1 t1 rv ru q => ?_) (by rw [any_plain hp, k2]; rfl) (star_plain h1.1)
    exact kwrun us xs ds s1 ρ1 hp1 H1 N1 p1 t1 rv ru q.1 q.2
end
/-! ### the tables -/
theorem free_in {x : String} (h : x ∈ freeNames) {Γ : Ctx} {F : FnS} {X : L2.Cx} (g : Good Γ F X) : X.mg (S x) = none := g.free x h
theorem boot_tab : (bltTab.all fun r => decide (PySem.bootBuiltins (S r.1) = some r.2.2.2) && freeNames.contains r.1 && decide (r.2.1 ≠ 0)) = true := by decide +kernel
theorem boot_ty : (tyTab.all fun t => decide (PySem.bootBuiltins (S (tyName t)) = some (.type (tyName t))) && freeNames.contains (tyName t)) = true := by decide +kernel
section
variable {X : L2.Cx} {Γ : Ctx} {F : FnS}
theorem blt_call (g : Good Γ F X) : ∀ r ∈ bltTab, ((∃ id, r.2.2.2 = Value.builtin id) ∨ ∃ T, r.2.2.2 = .type T) ∧ L2.CallR X r.2.2.2 (liftA X (bltS r.2.2.1)) := by
  intro r hr
  have hu := g.hu
  have hc := g.calm
  simp only [bltTab, List.mem_cons, List.mem_nil_iff, or_false] at hr
  rcases hr with rfl | rfl | rfl | rfl | rfl | rfl | rfl | rfl | rfl | rfl | rfl | rfl | rfl | rfl
  · exact ⟨.inl ⟨_, rfl⟩, call_lenM⟩
  · exact ⟨.inl ⟨_, rfl⟩, call_absM⟩
  · exact ⟨.inr ⟨_, rfl⟩, call_intM⟩
  · exact ⟨.inl ⟨_, rfl⟩, call_max2M hc⟩
  · exact ⟨.inl ⟨_, rfl⟩, call_max1M hc⟩
  · exact ⟨.inl ⟨_, rfl⟩, call_min2M hc⟩
  · exact ⟨.inl ⟨_, rfl⟩, call_min1M hc⟩
  · exact ⟨.inl ⟨_, rfl⟩, call_sumM hc⟩
  · exact ⟨.inl ⟨_, rfl⟩, call_allM hc⟩
  · exact ⟨.inl ⟨_, rfl⟩, call_anyM hc⟩
  · exact ⟨.inl ⟨_, rfl⟩, call_sortedM hc hu⟩
  · exact ⟨.inr ⟨_, rfl⟩, call_tupleM⟩
  · exact ⟨.inr ⟨_, rfl⟩, call_listM hc⟩
  · exact ⟨.inr ⟨_, rfl⟩, call_dictM hc (by omega)⟩
theorem meth_call (g : Good Γ F X) : ∀ r ∈ methTab, (∃ T, T = (if isDM r.2.2.1 = true then "dict" else "list") ∧ PySem.PlainAttrs T ∧ PySem.Slot T (S r.1) r.2.2.2 ∧ PySem.typeOf (.builtin r.2.2.2) = pure (.type "method_descriptor")) ∧ L2.MtR X r.2.2.2 (liftM X r.2.2.1) := by
  intro r hr
  have hu := g.hu
  simp only [methTab, List.mem_cons, List.mem_nil_iff, or_false] at hr
  rcases hr with rfl | rfl | rfl | rfl | rfl | rfl | rfl | rfl
  · exact ⟨⟨_, rfl, PySem.F.plainAttrs_list, PySem.F.slot_list_append, PySem.F.type_list_append⟩, mt_appendM⟩
  · exact ⟨⟨_, rfl, PySem.F.plainAttrs_list, PySem.F.slot_list_extend, PySem.F.type_list_extend⟩, mt_extendM⟩
  · exact ⟨⟨_, rfl, PySem.F.plainAttrs_list, PySem.F.slot_list_pop, PySem.F.type_list_pop⟩, mt_pop0M⟩
  · exact ⟨⟨_, rfl, PySem.F.plainAttrs_list, PySem.F.slot_list_pop, PySem.F.type_list_pop⟩, mt_popIM⟩
  · exact ⟨⟨_, rfl, PySem.F.plainAttrs_list, PySem.F.slot_list_index, PySem.F.type_list_index⟩, mt_indexM (by omega)⟩
  · exact ⟨⟨_, rfl, PySem.F.plainAttrs_list, PySem.F.slot_list_insert, PySem.F.type_list_insert⟩, mt_insertM⟩
  · exact ⟨⟨_, rfl, PySem.F.plainAttrs_dict, PySem.F.slot_dict_setdefault, PySem.F.type_dict_setdefault⟩, mt_setdM hu⟩
  · exact ⟨⟨_, rfl, PySem.F.plainAttrs_dict, PySem.F.slot_dict_get, PySem.F.type_dict_get⟩, mt_getM hu⟩
end
end M

end
section
set_option Elab.async false
set_option linter.all false
set_option autoImplicit false
set_option maxRecDepth 100000
set_option maxHeartbeats 4000000
/-! expressions: soundness -/
namespace M
open PySem (Addr Obj Value Str Expr Stmt FuncData)
section
variable {F : FnS} (hF : FMono F)
theorem two_of {α : Type} {l : List α} (h : l.length = 2) : ∃ a b, l = [a, b] := by
  rcases l with _ | ⟨a, _ | ⟨b, _ | ⟨c, l⟩⟩⟩ <;> first | exact ⟨a, b, rfl⟩ | simp at h
structure SndE (F : FnS) (n : Nat) (Γ : Ctx) (X : L2.Cx) : Prop where
  e : ∀ e c, cE n Γ e = some c → L2.PE X e (RE X F EN c) ∧ L2.PT X e (RT X F EN c)
  es : ∀ es cs, cEs n Γ es = some cs → es.all plainE = true → L2.PA X es (RA X F EN cs) ∧ es.length = cs.length
  ks : ∀ kws cs, cEs n Γ (kws.map (fun k : PySem.Keyword => k.value)) = some cs → L2.PK X kws (RA X F EN cs) ∧ kws.length = cs.length
  ts : ∀ es cs, cEs n Γ es = some cs → es.length ≤ 1 → L2.PTs X es (tsM X F cs)
  b : ∀ op es c pos, cB n Γ op es = some c → L2.PE X (.BoolOp op es pos) (RE X F EN c) ∧ L2.PW X (.BoolOp op es pos) (RT X F EN c)
  o : ∀ o c, cO n Γ o = some c → PoM X F EN o c
  pe : ∀ es cs, cEs n Γ es = some cs → PEL X F EN es cs
  i : ∀ tg iter I, cI n Γ tg iter = some I → L2.PI X tg iter (iM X F EN I.1 I.2)
theorem op_of {X : L2.Cx} {op : PySem.Operator} {o : Bop} (h : bopOf op = some o) : L2.OpR X (PySem.binaryOp op) (liftR X (binS o)) := by
  cases op <;> simp only [bopOf] at h <;> first | (cases h; done) | (cases h; first | exact op_addM | exact op_subM | exact op_mulM | exact op_fdivM | exact op_modM | exact op_powM)
theorem cop_ok {X : L2.Cx} (hu : X.A.units + 80 < PySem.cLine) (op : PySem.CmpOp) : L2.OpR X (PySem.compareOp op) (liftC X fun x y h => cmpS (copOf op) x y h) := by
  cases op
  · exact op_eqM (by omega)
  · exact op_neM (by omega)
  · exact op_ltM
  · exact op_leM
  · exact op_gtM
  · exact op_geM
  · exact op_isM.1
  · exact op_isM.2
  · exact (op_inM hu).1
  · exact (op_inM hu).2
theorem lit_ok {X : L2.Cx} {c : PySem.Const} {d : D} {j : Nat} {pos : PySem.Pos} (h : litOf c = some d) : L2.PE X (.Constant c j pos) (RE X F EN (.lit d)) := by
  cases c <;> simp only [litOf] at h <;> first | (cases h; done) | skip
  · cases h; exact pe_nonM
  · cases h; exact pe_blM
  · cases h; exact pe_intM
  · split at h
    · rename_i hs
      cases h
      exact pe_strM hs
    · cases h
include hF
theorem tgl {es : List Expr} {cs : List CE} {X : L2.Cx} (h : es.length = cs.length) : es = [] → cs = [] := fun e => by
  subst e
  exact List.length_eq_zero_iff.mp h.symm
omit hF in
theorem tup_is {tg : Expr} (h : isTupE tg = true) : ∃ elts kk pos, tg = .Tuple elts kk pos := by
  cases tg <;> first | exact ⟨_, _, _, rfl⟩ | exact Bool.noConfusion h
omit hF in
theorem fold_no {e : Expr} {env : PySem.Env} (h : notSet e = true) : ∀ x, PySem.foldedSetIterable e env x = pure x := by
  intro x
  cases e <;> first | rfl | exact Bool.noConfusion h
theorem snd_i (n : Nat) (ih : ∀ Γ X, Good Γ F X → SndE F n Γ X) (Γ : Ctx) (X : L2.Cx) (g : Good Γ F X) (tg iter : Expr) (I : IK × List CE) (h : cI (n + 1) Γ tg iter = some I) : L2.PI X tg iter (iM X F EN I.1 I.2) := by
  have val : ∀ (e : Expr), ((cE n Γ e).map fun c => (IK.val, [c])) = some I → L2.PI X tg e (iM X F EN I.1 I.2) := fun e h => by
    obtain ⟨c, hc, rfl⟩ := Option.map_eq_some_iff.mp h
    exact pi_valM hF ((ih Γ X g).e e c hc).1
  unfold cI at h
  split at h
  · rename_i x p es pos
    have free : ∀ s, s ∈ freeNames → x = S s → X.mg x = none := fun s hs e => by rw [e]; exact g.free s hs
    split at h
    · rename_i hc
      obtain ⟨h1, h2, h3, h4, h5⟩ := hc
      obtain ⟨cs, hcs, rfl⟩ := Option.map_eq_some_iff.mp h
      obtain ⟨ha, hl⟩ := (ih Γ X g).es es cs hcs h2
      have hm := free "range" (by decide) h4
      have hg := (gl_of g h1).1
      rcases h5 with h5 | h5
      · obtain ⟨a, rfl⟩ := List.length_eq_one_iff.mp h5
        obtain ⟨c, rfl⟩ := List.length_eq_one_iff.mp (hl.symm.trans h5)
        exact pi_rng1M hF h4 hg hm ha (by simpa using h2)
      · obtain ⟨a, b, rfl⟩ := two_of h5
        obtain ⟨c, d, rfl⟩ := two_of (hl.symm.trans h5)
        rw [List.all_cons, List.all_cons, Bool.and_eq_true, Bool.and_eq_true] at h2
        exact pi_rng2M hF h4 hg hm ha h2.1 h2.2.1
    · split at h
      · rename_i hc
        obtain ⟨h1, h2, h3, h4, h5, h6⟩ := hc
        obtain ⟨cs, hcs, rfl⟩ := Option.map_eq_some_iff.mp h
        obtain ⟨ha, hl⟩ := (ih Γ X g).es es cs hcs h2
        have hm := free "zip" (by decide) h4
        have hg := (gl_of g h1).1
        obtain ⟨elts, kk, tpos, rfl⟩ := tup_is h6
        obtain ⟨a, b, rfl⟩ := two_of h5
        obtain ⟨c, d, rfl⟩ := two_of (hl.symm.trans h5)
        rw [List.all_cons, List.all_cons, Bool.and_eq_true, Bool.and_eq_true] at h2
        exact pi_zipM hF h4 hg hm ha h2.1 h2.2.1
      · split at h
        · rename_i hc
          obtain ⟨h1, h2, h3, h4, h5, h6⟩ := hc
          obtain ⟨cs, hcs, rfl⟩ := Option.map_eq_some_iff.mp h
          obtain ⟨ha, hl⟩ := (ih Γ X g).es es cs hcs h2
          have hm := free "enumerate" (by decide) h4
          have hg := (gl_of g h1).1
          obtain ⟨elts, kk, tpos, rfl⟩ := tup_is h6
          obtain ⟨a, rfl⟩ := List.length_eq_one_iff.mp h5
          obtain ⟨c, rfl⟩ := List.length_eq_one_iff.mp (hl.symm.trans h5)
          exact pi_enumM hF h4 hg hm ha (by simpa using h2)
        · exact val _ h
  · exact val _ h
theorem snd_es (n : Nat) (ih : ∀ Γ X, Good Γ F X → SndE F n Γ X) (Γ : Ctx) (X : L2.Cx) (g : Good Γ F X) (es : List Expr) (cs : List CE) (h : cEs (n + 1) Γ es = some cs) :
    (es.all plainE = true → L2.PA X es (RA X F EN cs) ∧ es.length = cs.length) ∧ (es.length ≤ 1 → L2.PTs X es (tsM X F cs)) := by
  unfold cEs at h
  cases es with
  | nil => cases h; exact ⟨fun _ => ⟨pa_nilM, rfl⟩, fun _ => pts_nilM⟩
  | cons e es =>
    simp only at h
    split at h
    · rename_i c cs' h1 h2
      cases h
      refine ⟨fun hp => ?_, fun hl => ?_⟩
      · rw [List.all_cons, Bool.and_eq_true] at hp
        obtain ⟨a, b⟩ := (ih Γ X g).es es cs' h2 hp.2
        exact ⟨pa_consM hF ((ih Γ X g).e e c h1).1 a (star_plain hp.1), by rw [List.length_cons, List.length_cons, b]⟩
      · have hz : es = [] := List.length_eq_zero_iff.mp (by simpa using hl)
        subst hz
        obtain ⟨_, b⟩ := (ih Γ X g).es [] cs' h2 rfl
        have : cs' = [] := List.length_eq_zero_iff.mp b.symm
        subst this
        exact pts_oneM hF ((ih Γ X g).e e c h1).2
    · cases h
theorem snd_pe (n : Nat) (ih : ∀ Γ X, Good Γ F X → SndE F n Γ X) (Γ : Ctx) (X : L2.Cx) (g : Good Γ F X) (es : List Expr) (cs : List CE) (h : cEs (n + 1) Γ es = some cs) : PEL X F EN es cs := by
  unfold cEs at h
  cases es with
  | nil => cases h; exact trivial
  | cons e es =>
    simp only at h
    split at h
    · rename_i c cs' h1 h2
      cases h
      exact ⟨((ih Γ X g).e e c h1).1, (ih Γ X g).pe es cs' h2⟩
    · cases h
theorem snd_ks (n : Nat) (ih : ∀ Γ X, Good Γ F X → SndE F n Γ X) (Γ : Ctx) (X : L2.Cx) (g : Good Γ F X) (kws : List PySem.Keyword) (cs : List CE) (h : cEs (n + 1) Γ (kws.map (fun k : PySem.Keyword => k.value)) = some cs) : L2.PK X kws (RA X F EN cs) ∧ kws.length = cs.length := by
  unfold cEs at h
  cases kws with
  | nil => cases h; exact ⟨pk_nilM, rfl⟩
  | cons k ks =>
    rw [List.map_cons] at h
    simp only at h
    split at h
    · rename_i c cs' h1 h2
      cases h
      obtain ⟨a, b⟩ := (ih Γ X g).ks ks cs' h2
      obtain ⟨nm, e, p⟩ := k
      exact ⟨pk_consM hF ((ih Γ X g).e e c h1).1 a, by rw [List.length_cons, List.length_cons, b]⟩
    · cases h
theorem snd_b (n : Nat) (ih : ∀ Γ X, Good Γ F X → SndE F n Γ X) (Γ : Ctx) (X : L2.Cx) (g : Good Γ F X) (op : PySem.BoolOp) (es : List Expr) (c : CE) (pos : PySem.Pos) (h : cB (n + 1) Γ op es = some c) :
    L2.PE X (.BoolOp op es pos) (RE X F EN c) ∧ L2.PW X (.BoolOp op es pos) (RT X F EN c) := by
  unfold cB at h
  split at h
  · cases h
  · rename_i e
    obtain ⟨a, b⟩ := (ih Γ X g).e e c h
    cases op
    · exact ⟨L2.pe_one a, pw_and1M b⟩
    · exact ⟨L2.pe_one a, pw_or1M b⟩
  · rename_i e r hne
    split at h
    · rename_i x y h1 h2
      cases h
      obtain ⟨a, b⟩ := (ih Γ X g).e e x h1
      obtain ⟨a', b'⟩ := (ih Γ X g).b op r y pos h2
      rcases r with _ | ⟨e2, r⟩
      · exact absurd rfl hne
      · cases op
        · exact ⟨pe_andM hF a a', pw_andM hF b b'⟩
        · exact ⟨pe_orM hF a a', pw_orM hF b b'⟩
    · cases h
theorem snd_o (n : Nat) (ih : ∀ Γ X, Good Γ F X → SndE F n Γ X) (Γ : Ctx) (X : L2.Cx) (g : Good Γ F X) (o : Option Expr) (c : CE) (h : cO (n + 1) Γ o = some c) : PoM X F EN o c := by
  unfold cO at h
  cases o with
  | none => cases h; exact .inl ⟨rfl, rfl⟩
  | some e => exact .inr ⟨e, rfl, ((ih Γ X g).e e c h).1⟩
theorem snd_call (n : Nat) (ih : ∀ Γ X, Good Γ F X → SndE F n Γ X) (Γ : Ctx) (X : L2.Cx) (g : Good Γ F X) (f : Expr) (es : List Expr) (kws : List PySem.Keyword) (pos : PySem.Pos) (c : CE) (h : cE (n + 1) Γ (.Call f es kws pos) = some c) : L2.PE X (.Call f es kws pos) (RE X F EN c) := by
  unfold cE at h
  simp only at h
  cases f <;> simp only at h <;> first | (cases h; done) | skip
  · -- a method
    rename_i o m apos
    split at h
    · rename_i hc
      obtain ⟨hb, hl, hp⟩ := hc
      cases kws with
      | cons _ _ => cases h
      | nil =>
        simp only at h
        split at h
        · rename_i r co cs h1 h2 h3
          cases h
          unfold methOf at h1
          have hr := List.mem_of_find?_eq_some h1
          have hq := List.find?_some h1
          rw [Bool.and_eq_true, decide_eq_true_eq] at hq
          obtain ⟨⟨T, hT, pa, slot, hty⟩, hm⟩ := meth_call g r hr
          obtain ⟨ha, hlen⟩ := (ih Γ X g).es es cs h3 hp
          rw [hq.1] at slot
          have hn : es.length < 30 := by
            have e1 : r.2.1 = es.length := by simpa using hq.2
            have : ∀ r ∈ methTab, r.2.1 < 30 := by decide
            have := this r hr
            omega
          exact pe_methM hF hT pa slot hty hm ((ih Γ X g).e o co h2).1 ha hb hl hp hn (tgl hF (X := X) hlen)
        · cases h
    · cases h
  · -- a name
    rename_i x p
    split at h
    · rename_i hc
      obtain ⟨hgl, hp⟩ := hc
      obtain ⟨hg, hdb, hn⟩ := gl_of g hgl
      split at h
      · rename_i fi hx
        cases kws with
        | cons k ks =>
          simp only at h
          split at h
          · rename_i hkw
            split at h
            · rename_i cs cs' dv h1 h2 h3
              cases h
              obtain ⟨ha, hlen⟩ := (ih Γ X g).es es cs h1 hp
              obtain ⟨hk, hlk⟩ := (ih Γ X g).ks (k :: ks) cs' h2
              exact pe_fnkM hF g hx hgl h3 hp hkw ha hlen hk hlk
            · cases h
          · cases h
        | nil =>
          simp only at h
          split at h
          · rename_i cs dv h1 h2
            cases h
            obtain ⟨ha, hlen⟩ := (ih Γ X g).es es cs h1 hp
            exact pe_fnM hF g hx hgl h2 hp ha hlen
          · cases h
      · cases kws with
        | cons _ _ => cases h
        | nil =>
          simp only at h
          split at h
          · rename_i r h1
            unfold bltOf at h1
            have hr := List.mem_of_find?_eq_some h1
            have hq := List.find?_some h1
            rw [Bool.and_eq_true, decide_eq_true_eq] at hq
            obtain ⟨hu, hcall⟩ := blt_call g r hr
            have ht := List.all_eq_true.mp boot_tab r hr
            rw [Bool.and_eq_true, Bool.and_eq_true, decide_eq_true_eq, decide_eq_true_eq] at ht
            have hm : X.mg x = none := by rw [← hq.1]; exact g.free r.1 (by simpa using ht.1.2)
            have hv : PySem.bootBuiltins x = some r.2.2.2 := by rw [← hq.1]; exact ht.1.1
            have e1 : r.2.1 = es.length := by simpa using hq.2
            have old : ∀ cs, cEs n Γ es = some cs → L2.PE X (.Call (.Name x p) es [] pos) (RE X F EN (.blt r.2.2.1 cs)) := fun cs hcs => by
              obtain ⟨ha, hlen⟩ := (ih Γ X g).es es cs hcs hp
              cases es with
              | nil => exact absurd e1 ht.2
              | cons e es => exact pe_bltM hF hu hcall hg hm hv hn hdb ha hp
            split at h
            · rename_i as has
              have hes : ∃ y p2 pos2, es = [.Call (.Name y p2) as [] pos2] ∧ isGl Γ y = true ∧ y = S "range" := by
                unfold rngOf at has
                split at has
                · split at has
                  · rename_i hc
                    cases has
                    exact ⟨_, _, _, rfl, hc.1, hc.2⟩
                  · cases has
                · cases has
              obtain ⟨y, p2, pos2, rfl, hy1, hy2⟩ := hes
              have hgy := (gl_of g hy1).1
              have hmy : X.mg y = none := by rw [hy2]; exact g.free "range" (by decide)
              split at h
              · rename_i hb
                have hx : x = S "tuple" := by
                  have : ∀ r ∈ bltTab, r.2.2.1 = .tuple → r.1 = "tuple" := by decide
                  rw [← hq.1, this r hr hb]
                split at h
                · rename_i hc
                  obtain ⟨cs, hcs, rfl⟩ := Option.map_eq_some_iff.mp h
                  obtain ⟨ha, hlen⟩ := (ih Γ X g).es as cs hcs hc.1
                  have hpe := (ih Γ X g).pe as cs hcs
                  obtain ⟨a, rfl⟩ := List.length_eq_one_iff.mp hc.2
                  obtain ⟨c, rfl⟩ := List.length_eq_one_iff.mp (hlen.symm.trans hc.2)
                  have hpl := hc.1
                  rw [List.all_cons, Bool.and_eq_true] at hpl
                  exact pe_tupRgM hF hx hy2 g.calm hg hm hgy hmy (star_plain hpl.1) hpe.1
                · cases h
              · rename_i hb
                have hx : x = S "list" := by
                  have : ∀ r ∈ bltTab, r.2.2.1 = .list → r.1 = "list" := by decide
                  rw [← hq.1, this r hr hb]
                split at h
                · rename_i hc
                  obtain ⟨cs, hcs, rfl⟩ := Option.map_eq_some_iff.mp h
                  obtain ⟨ha, hlen⟩ := (ih Γ X g).es as cs hcs hc.1
                  have hpe := (ih Γ X g).pe as cs hcs
                  rcases hc.2 with h5 | h5
                  · obtain ⟨a, rfl⟩ := List.length_eq_one_iff.mp h5
                    obtain ⟨c, rfl⟩ := List.length_eq_one_iff.mp (hlen.symm.trans h5)
                    have hpl := hc.1
                    rw [List.all_cons, Bool.and_eq_true] at hpl
                    exact pe_lstRgM hF hx hy2 g.calm hg hm hgy hmy (star_plain hpl.1) hpe.1
                  · obtain ⟨a, b, rfl⟩ := two_of h5
                    obtain ⟨c, d, rfl⟩ := two_of (hlen.symm.trans h5)
                    have hpl := hc.1
                    rw [List.all_cons, List.all_cons, Bool.and_eq_true, Bool.and_eq_true] at hpl
                    exact pe_lstRg2M hF hx hy2 g.calm hg hm hgy hmy (star_plain hpl.1) (star_plain hpl.2.1) hpe.1 hpe.2.1
                · cases h
              · obtain ⟨cs, hcs, rfl⟩ := Option.map_eq_some_iff.mp h
                exact old cs hcs
            · obtain ⟨cs, hcs, rfl⟩ := Option.map_eq_some_iff.mp h
              exact old cs hcs
          · split at h
            · rename_i hx
              split at h
              · rename_i a y p2 _
                split at h
                · rename_i hy
                  split at h
                  · rename_i t ca h1 h2
                    cases h
                    unfold tyOf at h1
                    have hr := List.mem_of_find?_eq_some h1
                    have hq := List.find?_some h1
                    rw [decide_eq_true_eq] at hq
                    have ht := List.all_eq_true.mp boot_ty t hr
                    rw [Bool.and_eq_true, decide_eq_true_eq] at ht
                    obtain ⟨hg2, hdb2, hn2⟩ := gl_of g hy
                    have hm : X.mg x = none := by rw [hx]; exact g.free "isinstance" (by decide)
                    have hm2 : X.mg y = none := by rw [← hq]; exact g.free (tyName t) (by simpa using ht.2)
                    have hv2 : PySem.bootBuiltins y = some (.type (tyName t)) := by rw [← hq]; exact ht.1
                    have hv : PySem.bootBuiltins x = some (.builtin "isinstance") := by rw [hx]; exact PyProof.Rows.boot_isinstance
                    rw [List.all_cons, Bool.and_eq_true] at hp
                    exact pe_isiM hF hx hg hm hv hg2 hm2 hv2 hn2 hdb2 ((ih Γ X g).e a ca h2).1 hp.1
                  · cases h
                · cases h
              · cases h
            · cases h
    · cases h
end
end M

end
section
set_option Elab.async false
set_option linter.all false
set_option autoImplicit false
set_option maxRecDepth 100000
set_option maxHeartbeats 4000000
/-! expressions: soundness, the induction -/
namespace M
open PySem (Addr Obj Value Str Expr Stmt FuncData)
theorem plainIx_ok {s : Expr} (h : plainIx s = true) : L2.PlainIx s := fun o i => by
  cases s <;> first | rfl | exact Bool.noConfusion h
section
variable {F : FnS} (hF : FMono F)
include hF
theorem snd_comp (n : Nat) (ih : ∀ Γ X, Good Γ F X → SndE F n Γ X) (Γ : Ctx) (X : L2.Cx) (g : Good Γ F X) (elt tg iter : Expr) (ifs : List Expr) (scope : PySem.Scope) (pos : PySem.Pos) (c : CE) (h : cE (n + 1) Γ (.ListComp elt [⟨tg, iter, ifs, 0⟩] scope pos) = some c) :
    ∃ own p k it cs ce, c = .comp (own.map (·.2)) p k it cs ce ∧ (∀ i ∈ slotsP p, i ∈ own.map (·.2)) ∧ L2.PI X tg iter (iM X F EN k it) ∧ L2.BlkOk X.N X.env.scope scope own ∧
      (∀ (s : PySem.Shared) (H : LHp) (C : Addr) (cl : List (Str × Addr)) (fp : List Addr), L2.PG (X.blk s H scope (PySem.compEnvC scope cl C X.env) fp) tg (gM X p)) ∧ (∀ (s : PySem.Shared) (H : LHp) (C : Addr) (cl : List (Str × Addr)) (fp : List Addr), L2.PTs (X.blk s H scope (PySem.compEnvC scope cl C X.env) fp) ifs (tsM X F cs)) ∧
      (∀ (s : PySem.Shared) (H : LHp) (C : Addr) (cl : List (Str × Addr)) (fp : List Addr), L2.PE (X.blk s H scope (PySem.compEnvC scope cl C X.env) fp) elt (RE X F EN ce)) ∧ ∀ x, PySem.foldedSetIterable iter X.env x = pure x := by
  unfold cE at h
  simp only at h
  split at h
  · rename_i hc
    obtain ⟨_, hb, hs, hl⟩ := hc
    split at h
    · rename_i I p cs ce h1 h2 h3 h4
      split at h
      · rename_i ho
        cases h
        have ok := L2.blkOk_by hb
        have gb := fun s H C cl fp => g.blk scope ok.kind s H C cl fp
        refine ⟨ownOf Γ.N scope, p, I.1, I.2, cs, ce, rfl, fun i hi => ?_, (ih Γ X g).i tg iter I h1, by rw [g.N, g.sc]; exact ok, fun s H C cl fp => ?_, fun s H C cl fp => ?_, fun s H C cl fp => ?_, fold_no hs⟩
        · have := List.all_eq_true.mp ho i hi
          simpa using this
        · exact ((cP_ok n _ _ (gb s H C cl fp)).1 tg p h2).1
        · exact (ih _ _ (gb s H C cl fp)).ts ifs cs h3 hl
        · exact ((ih _ _ (gb s H C cl fp)).e elt ce h4).1
      · cases h
    · cases h
  · cases h
theorem snd_dcomp (n : Nat) (ih : ∀ Γ X, Good Γ F X → SndE F n Γ X) (Γ : Ctx) (X : L2.Cx) (g : Good Γ F X) (ke va : Expr) (gs : List PySem.Comprehension) (scope : PySem.Scope) (pos : PySem.Pos) (c : CE) (h : cE (n + 1) Γ (.DictComp ke va gs scope pos) = some c) : L2.PE X (.DictComp ke va gs scope pos) (RE X F EN c) := by
  unfold cE at h
  simp only at h
  split at h
  · rename_i tg iter ifs a
    split at h
    · rename_i hc
      obtain ⟨rfl, hb, hs, hl⟩ := hc
      split at h
      · rename_i I p cs ck cv h1 h2 h3 h4 h5
        split at h
        · rename_i ho
          cases h
          have ok := L2.blkOk_by hb
          have gb := fun s H C cl fp => g.blk scope ok.kind s H C cl fp
          refine pe_dcompM hF (fun i hi => ?_) g.calm g.nd ((ih Γ X g).i tg iter I h1) (by rw [g.N, g.sc]; exact ok) (fun s H C cl fp => ?_) (fun s H C cl fp => ?_) (by have := g.hu; omega) (fun s H C cl fp => ?_) (fun s H C cl fp => ?_) (fold_no hs)
          · have := List.all_eq_true.mp ho i hi
            simpa using this
          · exact ((cP_ok n _ _ (gb s H C cl fp)).1 tg p h2).1
          · exact (ih _ _ (gb s H C cl fp)).ts ifs cs h3 hl
          · exact ((ih _ _ (gb s H C cl fp)).e ke ck h4).1
          · exact ((ih _ _ (gb s H C cl fp)).e va cv h5).1
        · cases h
      · cases h
    · cases h
  · cases h
theorem snd_e (n : Nat) (ih : ∀ Γ X, Good Γ F X → SndE F n Γ X) (Γ : Ctx) (X : L2.Cx) (g : Good Γ F X) (e : Expr) (c : CE) (h : cE (n + 1) Γ e = some c) : L2.PE X e (RE X F EN c) ∧ L2.PT X e (RT X F EN c) := by
  have hu := g.hu
  cases e with
  | Call f es kws pos => exact ⟨snd_call hF n ih Γ X g f es kws pos c h, pt_valM hF (snd_call hF n ih Γ X g f es kws pos c h) fun _ => rfl⟩
  | Name x pos =>
    unfold cE at h
    simp only at h
    have k : L2.PE X (.Name x pos) (RE X F EN c) := by
      split at h
      · rename_i hv
        obtain ⟨i, hi, rfl⟩ := Option.map_eq_some_iff.mp h
        obtain ⟨a, b, d⟩ := vis_of g hv
        exact pe_locM (by rw [g.N]; exact ix_of hi) a b d
      · split at h
        · rename_i hg
          obtain ⟨d, hd, rfl⟩ := Option.map_eq_some_iff.mp h
          obtain ⟨a, b, _⟩ := gl_of g hg
          obtain ⟨u, v, h1, h2, h3⟩ := g.csts x d hd
          exact pe_globM a h1 h2 h3 b
        · cases h
    exact ⟨k, pt_valM hF k fun _ => rfl⟩
  | Constant k j pos =>
    unfold cE at h
    obtain ⟨d, hd, rfl⟩ := Option.map_eq_some_iff.mp h
    exact ⟨lit_ok hd, pt_valM hF (lit_ok hd) fun _ => rfl⟩
  | Tuple es j pos =>
    unfold cE at h
    simp only at h
    split at h
    · rename_i hp
      obtain ⟨cs, hcs, rfl⟩ := Option.map_eq_some_iff.mp h
      obtain ⟨a, b⟩ := (ih Γ X g).es es cs hcs hp.1
      have k : L2.PE X (.Tuple es j pos) (RE X F EN (.tup cs)) := pe_tupM hF a (by have := hp.2; show cs.length ≤ 16777216; omega)
      exact ⟨k, pt_valM hF k fun _ => rfl⟩
    · cases h
  | List es pos =>
    unfold cE at h
    simp only at h
    split at h
    · rename_i hp
      obtain ⟨cs, hcs, rfl⟩ := Option.map_eq_some_iff.mp h
      obtain ⟨a, b⟩ := (ih Γ X g).es es cs hcs hp.1
      have k : L2.PE X (.List es pos) (RE X F EN (.lst cs)) := pe_lstM hF a (by have := hp.2; show cs.length ≤ 16777216; omega)
      exact ⟨k, pt_valM hF k fun _ => rfl⟩
    · cases h
  | Dict ks vs pos =>
    unfold cE at h
    simp only at h
    split at h
    · cases h
      exact ⟨pe_dnewM, pt_valM hF pe_dnewM fun _ => rfl⟩
    · split at h
      · rename_i hc
        split at h
        · rename_i cs hcs
          split at h
          · rename_i hev
            cases h
            have k := pe_dispM (pos := pos) hF hc.1 hc.2.1 hc.2.2.1 hc.2.2.2 hev ((ih Γ X g).pe _ _ hcs)
            exact ⟨k, pt_valM hF k fun _ => rfl⟩
          · cases h
        · cases h
      · cases h
  | BinOp a op b pos =>
    unfold cE at h
    simp only at h
    split at h
    · rename_i o x y h1 h2 h3
      cases h
      have k := pe_binM (pos := pos) hF (op_of h1) ((ih Γ X g).e a x h2).1 ((ih Γ X g).e b y h3).1
      exact ⟨k, pt_valM hF k fun _ => rfl⟩
    · cases h
  | UnaryOp op a pos =>
    unfold cE at h
    simp only at h
    cases op <;> simp only at h <;> first | (cases h; done) | skip
    · obtain ⟨x, hx, rfl⟩ := Option.map_eq_some_iff.mp h
      obtain ⟨p, q⟩ := (ih Γ X g).e a x hx
      exact ⟨pe_notM hF p, pt_notM hF q⟩
    · obtain ⟨x, hx, rfl⟩ := Option.map_eq_some_iff.mp h
      have k := pe_negM (pos := pos) hF ((ih Γ X g).e a x hx).1
      exact ⟨k, pt_valM hF k fun _ => rfl⟩
  | BoolOp op es pos =>
    unfold cE at h
    obtain ⟨p, q⟩ := (ih Γ X g).b op es c pos h
    exact ⟨p, q.pt⟩
  | Compare a ops bs pos =>
    unfold cE at h
    simp only at h
    split at h
    · rename_i op b
      split at h
      · rename_i hm
        split at h
        · rename_i x y h1 h2
          cases h
          have ha := ((ih Γ X g).e a x h1).1
          have hb := ((ih Γ X g).e b y h2).1
          exact ⟨pe_cmpM hF (cop_ok hu op) hm ha hb, pt_cmpM hF (cop_ok hu op) hm ha hb⟩
        · cases h
      · cases h
    · rename_i op op' b d
      split at h
      · rename_i hm
        split at h
        · rename_i x y z h1 h2 h3
          cases h
          have ha := ((ih Γ X g).e a x h1).1
          have hb := ((ih Γ X g).e b y h2).1
          have hd := ((ih Γ X g).e d z h3).1
          exact ⟨pe_chnM hF (cop_ok hu op) (cop_ok hu op') hm ha hb hd, pt_chnM hF (cop_ok hu op) (cop_ok hu op') hm ha hb hd⟩
        · cases h
      · cases h
    · cases h
  | IfExp t a b pos =>
    unfold cE at h
    simp only at h
    split at h
    · rename_i x y z h1 h2 h3
      cases h
      have k := pe_ifM (pos := pos) hF ((ih Γ X g).e t x h1).2 ((ih Γ X g).e a y h2).1 ((ih Γ X g).e b z h3).1
      exact ⟨k, pt_ifM (pos := pos) hF ((ih Γ X g).e t x h1).2 ((ih Γ X g).e a y h2).2 ((ih Γ X g).e b z h3).2⟩
    · cases h
  | Subscript a s pos =>
    have k : L2.PE X (.Subscript a s pos) (RE X F EN c) := by
      unfold cE at h
      simp only at h
      split at h
      · rename_i lo hi st p2
        split at h
        · split at h
          · rename_i x y z h1 h2 h3
            cases h
            exact pe_slcM hF ((ih Γ X g).e a x h1).1 ((ih Γ X g).o lo y h2) ((ih Γ X g).o hi z h3)
          · cases h
        · split at h
          · split at h
            · rename_i x y h1 h2
              split at h
              · rename_i hm1
                cases h
                exact pe_revM hF ((ih Γ X g).e a x h1).1 ((ih Γ X g).e _ y h2).1 hm1
              · cases h
            · cases h
          · cases h
      · rename_i hs
        split at h
        · rename_i x y h1 h2
          cases h
          refine pe_idxM hF hu (plainIx_ok ?_) ((ih Γ X g).e a x h1).1 ((ih Γ X g).e s y h2).1
          cases s <;> first | rfl | exact absurd rfl (hs _ _ _ _)
        · cases h
    exact ⟨k, pt_valM hF k fun _ => rfl⟩
  | ListComp elt gs scope pos =>
    have hg : ∃ tg iter ifs, gs = [⟨tg, iter, ifs, 0⟩] := by
      unfold cE at h
      simp only at h
      split at h
      · rename_i tg iter ifs a
        split at h
        · rename_i hc
          obtain ⟨rfl, _⟩ := hc
          exact ⟨tg, iter, ifs, rfl⟩
        · cases h
      · cases h
    obtain ⟨tg, iter, ifs, rfl⟩ := hg
    obtain ⟨own, p, k, it, cs, ce, rfl, h1, h2, h3, h4, h5, h6, h7⟩ := snd_comp hF n ih Γ X g elt tg iter ifs scope pos c h
    have q := pe_compM hF (pos := pos) h1 g.calm g.nd h2 h3 h4 h5 h6 h7
    exact ⟨q, pt_valM hF q fun _ => rfl⟩
  | DictComp ke va gs scope pos => exact ⟨snd_dcomp hF n ih Γ X g ke va gs scope pos c h, pt_valM hF (snd_dcomp hF n ih Γ X g ke va gs scope pos c h) fun _ => rfl⟩
  | _ => unfold cE at h; cases h
theorem snd_all : ∀ (n : Nat) (Γ : Ctx) (X : L2.Cx), Good Γ F X → SndE F n Γ X
  | 0, Γ, X, g => ⟨fun _ _ h => by simp [cE] at h, fun _ _ h => by simp [cEs] at h, fun _ _ h => by simp [cEs] at h, fun _ _ h => by simp [cEs] at h, fun _ _ _ _ h => by simp [cB] at h, fun _ _ h => by simp [cO] at h, fun _ _ h => by simp [cEs] at h, fun _ _ _ h => by simp [cI] at h⟩
  | n + 1, Γ, X, g => ⟨snd_e hF n (snd_all n) Γ X g, fun es cs h hp => (snd_es hF n (snd_all n) Γ X g es cs h).1 hp, snd_ks hF n (snd_all n) Γ X g, fun es cs h hl => (snd_es hF n (snd_all n) Γ X g es cs h).2 hl, snd_b hF n (snd_all n) Γ X g, snd_o hF n (snd_all n) Γ X g, snd_pe hF n (snd_all n) Γ X g, snd_i hF n (snd_all n) Γ X g⟩
end
end M

end
section
set_option Elab.async false
set_option linter.all false
set_option autoImplicit false
set_option maxRecDepth 100000
set_option maxHeartbeats 4000000
/-! statements: compile, soundness -/
namespace M
open PySem (Addr Obj Value Str Expr Stmt FuncData)
/-- the names of a swapped store: none, it is no such store; some none: not swapped -/
def locName (Γ : Ctx) (line : Nat) : Expr → Option Str
  | .Name id pos => if Γ.sc.names.lookup id == some .local && pos.line == line then some id else none
  | _ => none
def swR (Γ : Ctx) (ts vs : List Expr) : Option (Option (List Str)) :=
  if (!(ts.length == 2 || ts.length == 3) || vs.length != ts.length) = true then some none
  else if vs.all plainE = false then none
  else if ((ts.filterMap (locName Γ ((ts.head?.map (·.pos.line)).getD 0))).length != ts.length || (ts.filterMap (locName Γ ((ts.head?.map (·.pos.line)).getD 0))).eraseDups.length != (ts.filterMap (locName Γ ((ts.head?.map (·.pos.line)).getD 0))).length) = true then some none
  else if vs.all (PySem.foldedForSure 8) = true then some none
  else if vs.all (PySem.constantsAlone 8) = true then none
  else some (some (ts.filterMap (locName Γ ((ts.head?.map (·.pos.line)).getD 0))))
theorem swR_ok {Γ : Ctx} {env : PySem.Env} (hs : env.scope = Γ.sc) (hk : env.scope.kind = .function) {ts vs : List Expr} {r : Option (List Str)} (h : swR Γ ts vs = some r) {k k2 : Nat} {p p2 : PySem.Pos} : PySem.swappedStores [.Tuple ts k p] (.Tuple vs k2 p2) env = pure r := by
  have hb : env.blockKind = .function := by unfold PySem.Env.blockKind; rw [hk]; rfl
  have hn : ∀ f : Expr → Option Str, (∀ e, f e = locName Γ ((ts.head?.map (·.pos.line)).getD 0) e) → ts.filterMap f = ts.filterMap (locName Γ ((ts.head?.map (·.pos.line)).getD 0)) := fun f hf => by
    congr 1
    funext e
    exact hf e
  have hst : vs.all plainE = true → ∀ f : Expr → Bool, (∀ e, f e = !plainE e) → vs.any f = false := fun c f hf => by
    rw [List.any_eq_false]
    intro e he
    rw [hf e, List.all_eq_true.mp c e he]
    decide
  unfold swR at h
  unfold PySem.swappedStores
  simp only [pure_bind]
  rw [hb]
  by_cases c1 : (!(ts.length == 2 || ts.length == 3) || vs.length != ts.length) = true
  · rw [if_pos c1] at h
    cases h
    rw [if_pos (by rw [c1]; rfl)]
  · rw [if_neg c1] at h
    have c1' : (!(ts.length == 2 || ts.length == 3) || vs.length != ts.length || (PySem.ScopeKind.function != PySem.ScopeKind.function)) = false := by
      have : (!(ts.length == 2 || ts.length == 3) || vs.length != ts.length) = false := by simpa using c1
      rw [this]; rfl
    rw [c1', if_neg Bool.false_ne_true]
    by_cases c2 : vs.all plainE = false
    · rw [if_pos c2] at h; cases h
    · rw [if_neg c2] at h
      have c2' : vs.all plainE = true := by simpa using c2
      rw [hst c2' _ ?g1, if_neg Bool.false_ne_true, hn _ ?g2]
      case g1 => intro e; cases e <;> rfl
      case g2 => intro e; cases e <;> first | rfl | (unfold locName; rw [← hs]; rfl)
      by_cases c3 : ((ts.filterMap (locName Γ ((ts.head?.map (·.pos.line)).getD 0))).length != ts.length || (ts.filterMap (locName Γ ((ts.head?.map (·.pos.line)).getD 0))).eraseDups.length != (ts.filterMap (locName Γ ((ts.head?.map (·.pos.line)).getD 0))).length) = true
      · rw [if_pos c3] at h ⊢
        cases h
        rfl
      · rw [if_neg c3] at h ⊢
        by_cases c4 : vs.all (PySem.foldedForSure 8) = true
        · rw [if_pos c4] at h ⊢
          cases h
          rfl
        · rw [if_neg c4] at h ⊢
          by_cases c5 : vs.all (PySem.constantsAlone 8) = true
          · rw [if_pos c5] at h; cases h
          · rw [if_neg c5] at h ⊢
            cases h
            rfl

def noCompB (e : Expr) : Bool := noComp e
/-- whether a comprehension's value goes into the name within the comprehension: as the model says -/
def swC (Γ : Ctx) (e : Expr) (y : Str) (py : PySem.Pos) : Option Bool := match e with
  | .ListComp _ _ scope pos => if (py.line == pos.line) = true ∧ Γ.sc.names.lookup y = some .local then (if (scope.names.any fun (n, k) => n == y && (k == .local || k == .cell)) = false then some true else none) else if (py.line == pos.line) = false ∨ Γ.sc.names.lookup y = some .cell then some false else none
  | _ => if noComp e = true then some false else none
mutual
def cS : Nat → Ctx → Stmt → Option (List CS)
  | 0, _, _ => none
  | n + 1, Γ, st => match st with
    | .Expr e _ => match e with
      | .Constant (.str _) _ _ => some []
      | e => if noComp e = true then (cE n Γ e).map fun c => [.expr c] else none
    | .Return o _ => match o with
      | some e => (cE n Γ e).map fun c => [.ret c]
      | none => some [.ret (.lit .non)]
    | .Pass _ => some [.pass]
    | .Break _ => some [.brk]
    | .Continue _ => some [.cont]
    | .If c a b _ => match cE n Γ c, cSs n Γ a, cSs n Γ b with
      | some x, some y, some z => some [.ite x y z]
      | _, _, _ => none
    | .While c a b _ => match b with
      | [] => match cE n Γ c, cSs n Γ a with
        | some x, some y => some [.whil x y]
        | _, _ => none
      | _ => none
    | .For tg it a b _ => match b with
      | [] => if notSet it = true then (match cI n Γ tg it, cP n Γ tg, cSs n Γ a with
        | some I, some p, some y => some [.for_ p I.1 I.2 y]
        | _, _, _ => none) else none
      | _ => none
    | .AugAssign tg op e _ => match tg with
      | .Name x _ => if isLoc Γ x = true then (match ixOf Γ.N x, augOf op, cE n Γ e with
        | some i, some o, some c => some [.aug i o c]
        | _, _, _ => none) else none
      | .Subscript o i _ => if plainIx i = true then (match augOf op, cE n Γ o, cE n Γ i, cE n Γ e with
        | some b, some co, some ci, some c => some [.augs co ci b c]
        | _, _, _, _ => none) else none
      | _ => none
    | .Assign tgs e _ => match tgs with
      | [tg] => match tg with
        | .Name y py => if isLoc Γ y = true then (match ixOf Γ.N y, cE n Γ e, swC Γ e y py with
          | some i, some c, some _ => some [.asg (.slot i) c]
          | _, _, _ => none) else none
        | .Tuple ts _ _ => match e with
          | .Tuple vs _ _ => match swR Γ ts vs with
            | some none => match cP n Γ tg, cE n Γ e with
              | some p, some c => some [.asg p c]
              | _, _ => none
            | some (some _) => match ts, vs with
              | [.Name x _, .Name y _], [a, b] => if plainE a = true ∧ plainE b = true ∧ Γ.sc.names.lookup x = some .local ∧ Γ.sc.names.lookup y = some .local ∧ swR Γ ts vs = some (some [x, y]) then (match ixOf Γ.N x, ixOf Γ.N y, cE n Γ a, cE n Γ b with
                | some i, some j, some ca, some cb => if i ≠ j then some [.asg (.tup [.slot i, .slot j]) (.tup [ca, cb])] else none
                | _, _, _, _ => none) else none
              | [.Name x _, .Name y _, .Name z _], [a, b, d] => if plainE a = true ∧ plainE b = true ∧ plainE d = true ∧ Γ.sc.names.lookup x = some .local ∧ Γ.sc.names.lookup y = some .local ∧ Γ.sc.names.lookup z = some .local ∧ swR Γ ts vs = some (some [x, y, z]) then (match ixOf Γ.N x, ixOf Γ.N y, ixOf Γ.N z, cE n Γ a, cE n Γ b, cE n Γ d with
                | some i, some j, some l, some ca, some cb, some cd => if i ≠ j ∧ i ≠ l ∧ j ≠ l then some [.asg (.tup [.slot i, .slot j, .slot l]) (.tup [ca, cb, cd])] else none
                | _, _, _, _, _, _ => none) else none
              | _, _ => none
            | none => none
          | e => if noComp e = true then (match cP n Γ tg, cE n Γ e with
            | some p, some c => some [.asg p c]
            | _, _ => none) else none
        | .Subscript o i _ => if plainIx i = true ∧ noComp e = true then (match cE n Γ o, cE n Γ i, cE n Γ e with
          | some co, some ci, some c => some [.set co ci c]
          | _, _, _ => none) else none
        | _ => none
      | _ => none
    | _ => none
def cSs : Nat → Ctx → List Stmt → Option (List CS)
  | 0, _, _ => none
  | n + 1, Γ, sts => match sts with
    | [] => some []
    | st :: r => match cS n Γ st, cSs n Γ r with
      | some a, some b => some (a ++ b)
      | _, _ => none
end
theorem swC_ok {Γ : Ctx} {env : PySem.Env} (hs : env.scope = Γ.sc) (hk : env.scope.kind = .function) {e : Expr} {y : Str} {py : PySem.Pos} {l : Nat} {b : Bool} (h : swC Γ e y py = some b) : PySem.swapsWith e (some (.Name y py)) l env = pure b := by
  have hb : env.blockKind = .function := by unfold PySem.Env.blockKind; rw [hk]; rfl
  unfold swC at h
  split at h
  · rename_i elt gs scope pos
    split at h
    · rename_i c
      split at h
      · rename_i ha
        cases h
        exact L2.sw_true hk (by rw [hs]; exact c.2) c.1 ha
      · cases h
    · split at h
      · rename_i c
        cases h
        unfold PySem.swapsWith
        simp only [pure_bind]
        rw [hb]
        have : (env.kindOf y == some PySem.NameKind.local && py.line == (Expr.ListComp elt gs scope pos).pos.line) = false := by
          rcases c with c | c
          · rw [show (Expr.ListComp elt gs scope pos).pos.line = pos.line from rfl, c, Bool.and_false]
          · have : env.kindOf y = some .cell := by show env.scope.names.lookup y = _; rw [hs]; exact c
            rw [this]; rfl
        show (pure (PySem.ScopeKind.function == PySem.ScopeKind.function && env.kindOf y == some PySem.NameKind.local && py.line == (Expr.ListComp elt gs scope pos).pos.line && _) : PySem.Sem Bool) = pure false
        rw [Bool.and_assoc (PySem.ScopeKind.function == PySem.ScopeKind.function), this, Bool.and_false, Bool.false_and]
      · cases h
  · split at h
    · rename_i hn
      cases h
      exact swap_no hn
    · cases h
end M

end
section
set_option Elab.async false
set_option linter.all false
set_option autoImplicit false
set_option maxRecDepth 100000
set_option maxHeartbeats 4000000
/-! statements: soundness -/
namespace M
open PySem (Addr Obj Value Str Expr Stmt FuncData)
section
variable {X : L2.Cx} {F : FnS} (hF : FMono F)
include hF
theorem ps_par3M {i j l : Nat} {x y z : Str} {a b d : Expr} {ca cb cd : CE} {px py pz pt pos : PySem.Pos} {kt k2 : Nat} {pt2 : PySem.Pos} (hc : X.calm = true) (hN : X.N.Nodup) (hi : X.N[i]? = some x) (hj : X.N[j]? = some y) (hl : X.N[l]? = some z) (hij : i ≠ j) (hil : i ≠ l) (hjl : j ≠ l)
    (hx : X.env.scope.names.lookup x = some .local) (hy : X.env.scope.names.lookup y = some .local) (hz : X.env.scope.names.lookup z = some .local) (ha : L2.PA X [a, b, d] (RA X F EN [ca, cb, cd]))
    (hw : PySem.swappedStores [.Tuple [.Name x px, .Name y py, .Name z pz] kt pt] (.Tuple [a, b, d] k2 pt2) X.env = pure (some [x, y, z])) :
    L2.PS X (.Assign [.Tuple [.Name x px, .Name y py, .Name z pz] kt pt] (.Tuple [a, b, d] k2 pt2) pos) (RS X F EN (.asg (.tup [.slot i, .slot j, .slot l]) (.tup [ca, cb, cd]))) :=
  PS.imp (L2.ps_par3 hc hN hi hj hl hij hil hjl hx hy hz ha hw rfl) fun D σ H ⟨ρ, env, hp, Z, hr, he, w, zz⟩ => by
    unfold wpS wpE at w
    refine ⟨ρ, env, hp, hr, he, wpEs_mono hF [ca, cb, cd] EN env hp _ _ w fun ds h1 q ρ1 H1 vs p t hr1 rv => ?_⟩
    unfold wpP at q
    have hl := wpPs_len _ _ _ _ q
    rcases ds with _ | ⟨d1, _ | ⟨d2, _ | ⟨d3, _ | ⟨d4, ds⟩⟩⟩⟩ <;> try (simp at hl; done)
    cases rv with
    | cons rv rest =>
      obtain ⟨u, v, rfl, ru, rw'⟩ := rest.two_inv
      unfold wpPs wpP wpPs wpP wpPs wpP wpPs at q
      exact ⟨_, u, v, rfl, zz.nx _ _ ρ1 H1 _ q.2.2.2 p t hr1 ((((he.mono p t).set rv).set ru).set rw')⟩
end
section
variable {F : FnS} (hF : FMono F)
include hF
theorem asg_sub {o i : Expr} {env : PySem.Env} {tpos : PySem.Pos} (h : plainIx i = true) : ∀ v, PySem.assign (.Subscript o i tpos) env v = (do
      let ov ← PySem.holding [v] (PySem.eval o env)
      let iv ← PySem.holding [v, ov] (PySem.eval i env)
      PySem.standAt tpos
      PySem.holding [v, ov, iv] (PySem.setItem ov iv v)
      PySem.release [v, ov, iv] []) := fun v => by
  cases i <;> first | rfl | exact Bool.noConfusion h
theorem aug_sub {i : Expr} (h : plainIx i = true) : ∀ ov iv new, PySem.augStore i ov iv new = (do PySem.holding [new, ov, iv] (PySem.setItem ov iv new); PySem.release [new, ov, iv] []; pure .next) := fun ov iv new => by
  cases i <;> first | rfl | exact Bool.noConfusion h
omit hF in
theorem augOf_k {op : PySem.Operator} {b : Bop} (h : augOf op = some b) : bopK b = some op := by
  cases op <;> simp only [augOf] at h <;> first | (cases h; done) | (cases h; rfl)
omit hF in
theorem sw_tup {ts : List Expr} {k : Nat} {p : PySem.Pos} {e : Expr} {env : PySem.Env} (h : ∀ vs k2 p2, e ≠ .Tuple vs k2 p2) : PySem.swappedStores [.Tuple ts k p] e env = pure none := by
  cases e <;> first | rfl | exact absurd rfl (h _ _ _)
omit hF in
theorem sw_name {x : Str} {p : PySem.Pos} {e : Expr} {env : PySem.Env} : PySem.swappedStores [.Name x p] e env = pure none := rfl
omit hF in
theorem sw_sub {o i : Expr} {p : PySem.Pos} {e : Expr} {env : PySem.Env} : PySem.swappedStores [.Subscript o i p] e env = pure none := rfl
structure SndS (F : FnS) (n : Nat) (Γ : Ctx) (X : L2.Cx) : Prop where
  s : ∀ st cs, cS n Γ st = some cs → ∀ rest rs, L2.PSs X rest (RSs X F EN rs) → L2.PSs X (st :: rest) (RSs X F EN (cs ++ rs))
  ss : ∀ sts cs, cSs n Γ sts = some cs → L2.PSs X sts (RSs X F EN cs)
theorem snd_asg (n : Nat) (Γ : Ctx) (X : L2.Cx) (g : Good Γ F X) (tg e : Expr) (pos : PySem.Pos) (cs : List CS) (h : cS (n + 1) Γ (.Assign [tg] e pos) = some cs) : ∃ c, cs = [c] ∧ L2.PS X (.Assign [tg] e pos) (RS X F EN c) := by
  have A := snd_all hF n Γ X g
  have P := cP_ok (F := F) n Γ X g
  unfold cS at h
  simp only at h
  cases tg <;> simp only at h <;> first | (cases h; done) | skip
  · -- a subscript
    rename_i o i tpos
    split at h
    · rename_i hc
      split at h
      · rename_i co ci c h1 h2 h3
        cases h
        exact ⟨_, rfl, ps_subM hF g.hu (A.e o co h1).1 (A.e i ci h2).1 (A.e e c h3).1 hc.2 sw_sub (asg_sub hF hc.1)⟩
      · cases h
    · cases h
  · -- a name
    rename_i y py
    split at h
    · rename_i hl
      split at h
      · rename_i i c b h1 h2 h3
        cases h
        refine ⟨_, rfl, ?_⟩
        have sw := fun l => swC_ok (l := l) g.sc g.kind h3
        cases b with
        | false =>
          exact ps_asgM hF (A.e e c h2).1 (pg_slotM g.nd (by rw [g.N]; exact ix_of h1) (loc_of g hl).1 (loc_of g hl).2) rfl (sw pos.line) sw_name
        | true =>
          -- a comprehension stored within
          have hcomp : ∃ elt gs scope p2, e = .ListComp elt gs scope p2 ∧ Γ.sc.names.lookup y = some .local := by
            unfold swC at h3
            split at h3
            · split at h3
              · rename_i c
                exact ⟨_, _, _, _, rfl, c.2⟩
              · split at h3 <;> cases h3
            · split at h3 <;> cases h3
          obtain ⟨elt, gs, scope, p2, rfl, hyl⟩ := hcomp
          cases n with
          | zero => simp [cE] at h2
          | succ m =>
            have hg : ∃ tg iter ifs, gs = [⟨tg, iter, ifs, 0⟩] := by
              have h := h2
              unfold cE at h
              simp only at h
              split at h
              · rename_i tg iter ifs a
                split at h
                · rename_i hc
                  obtain ⟨rfl, _⟩ := hc
                  exact ⟨tg, iter, ifs, rfl⟩
                · cases h
              · cases h
            obtain ⟨tg, iter, ifs, rfl⟩ := hg
            obtain ⟨own, p, k, it, cs, ce, rfl, q1, q2, q3, q4, q5, q6, q7⟩ := snd_comp hF m (snd_all hF m) Γ X g elt tg iter ifs scope p2 c h2
            exact ps_asgcM hF (ps_compM hF q1 g.calm g.nd (by rw [g.N]; exact ix_of h1) (by rw [g.sc]; exact hyl) (sw pos.line) q2 q3 q4 q5 q6 q7)
      · cases h
    · cases h
  · -- a tuple
    rename_i ts k tpos
    split at h
    · rename_i vs k2 p2
      split at h
      · rename_i hsw
        split at h
        · rename_i p c h1 h2
          cases h
          obtain ⟨a, b⟩ := P.1 _ _ h1
          exact ⟨_, rfl, ps_asgM hF (A.e _ c h2).1 a b (swaps_no rfl) (swR_ok g.sc g.kind hsw)⟩
        · cases h
      · rename_i nm hsw
        split at h
        · rename_i x px y py a b
          split at h
          · rename_i hc
            obtain ⟨pa, pb, hx, hy, hs2⟩ := hc
            split at h
            · rename_i i j ca cb h1 h2 h3 h4
              split at h
              · rename_i hij
                cases h
                refine ⟨_, rfl, ps_parM hF g.calm g.nd (by rw [g.N]; exact ix_of h1) (by rw [g.N]; exact ix_of h2) hij (by rw [g.sc]; exact hx) (by rw [g.sc]; exact hy) ?_ (swR_ok g.sc g.kind hs2)⟩
                exact pa_consM hF (A.e a ca h3).1 (pa_consM hF (A.e b cb h4).1 pa_nilM (star_plain pb)) (star_plain pa)
              · cases h
            · cases h
          · cases h
        · rename_i x px y py z pz a b d
          split at h
          · rename_i hc
            obtain ⟨pa, pb, pd, hx, hy, hz, hs2⟩ := hc
            split at h
            · rename_i i j l ca cb cd h1 h2 h3 h4 h5 h6
              split at h
              · rename_i hij
                cases h
                refine ⟨_, rfl, ps_par3M hF g.calm g.nd (by rw [g.N]; exact ix_of h1) (by rw [g.N]; exact ix_of h2) (by rw [g.N]; exact ix_of h3) hij.1 hij.2.1 hij.2.2 (by rw [g.sc]; exact hx) (by rw [g.sc]; exact hy) (by rw [g.sc]; exact hz) ?_ (swR_ok g.sc g.kind hs2)⟩
                exact pa_consM hF (A.e a ca h4).1 (pa_consM hF (A.e b cb h5).1 (pa_consM hF (A.e d cd h6).1 pa_nilM (star_plain pd)) (star_plain pb)) (star_plain pa)
              · cases h
            · cases h
          · cases h
        · cases h
      · cases h
    · rename_i hne
      split at h
      · rename_i hn
        split at h
        · rename_i p c h1 h2
          cases h
          obtain ⟨a, b⟩ := P.1 _ _ h1
          exact ⟨_, rfl, ps_asgM hF (A.e _ c h2).1 a b (swaps_no hn) (sw_tup hne)⟩
        · cases h
      · cases h
theorem snd_s (n : Nat) (Γ : Ctx) (X : L2.Cx) (g : Good Γ F X) (hx : X.xe = fun _ _ => False) (ih : SndS F n Γ X) (st : Stmt) (cs : List CS) (h : cS (n + 1) Γ st = some cs) (rest : List Stmt) (rs : List CS) (hr : L2.PSs X rest (RSs X F EN rs)) : L2.PSs X (st :: rest) (RSs X F EN (cs ++ rs)) := by
  have A := snd_all hF n Γ X g
  have P := cP_ok (F := F) n Γ X g
  have own : PySem.PassesOwn (PySem.model X.prog X.w) X.A X.env X.xe := by rw [hx]; exact .never
  have one : ∀ c, cs = [c] → L2.PS X st (RS X F EN c) → L2.PSs X (st :: rest) (RSs X F EN (cs ++ rs)) := fun c e k => by
    subst e
    exact pss_consM k hr
  cases st with
  | Assign tgs e pos =>
    have ht : ∃ tg, tgs = [tg] := by
      unfold cS at h
      simp only at h
      split at h
      · exact ⟨_, rfl⟩
      · cases h
    obtain ⟨tg, rfl⟩ := ht
    obtain ⟨c, hc, k⟩ := snd_asg hF n Γ X g tg e pos cs h
    exact one c hc k
  | Expr e pos =>
    unfold cS at h
    simp only at h
    split at h
    · cases h
      exact pss_docM hr
    · split at h
      · rename_i hn
        obtain ⟨c, hc, rfl⟩ := Option.map_eq_some_iff.mp h
        exact one _ rfl (ps_exprM hF (A.e _ c hc).1 hn)
      · cases h
  | Return o pos =>
    unfold cS at h
    simp only at h
    cases o with
    | none => cases h; exact one _ rfl ps_retNM
    | some e =>
      obtain ⟨c, hc, rfl⟩ := Option.map_eq_some_iff.mp h
      exact one _ rfl (ps_retM hF (A.e _ c hc).1)
  | Pass pos => unfold cS at h; cases h; exact one _ rfl ps_passM
  | Break pos => unfold cS at h; cases h; exact one _ rfl ps_brkM
  | Continue pos => unfold cS at h; cases h; exact one _ rfl ps_contM
  | If c a b pos =>
    unfold cS at h
    simp only at h
    split at h
    · rename_i x y z h1 h2 h3
      cases h
      exact one _ rfl (ps_ifM hF (A.e c x h1).2 (ih.ss a y h2) (ih.ss b z h3))
    · cases h
  | While c a b pos =>
    unfold cS at h
    simp only at h
    split at h
    · split at h
      · rename_i x y h1 h2
        cases h
        exact one _ rfl (ps_whileM hF own (A.e c x h1).2 (ih.ss a y h2))
      · cases h
    · cases h
  | For tg it a b pos =>
    unfold cS at h
    simp only at h
    split at h
    · split at h
      · rename_i hs
        split at h
        · rename_i I p y h1 h2 h3
          cases h
          exact one _ rfl (ps_forM hF own g.calm (A.i tg it I h1) (P.1 tg p h2).1 (ih.ss a y h3) (fold_no hs))
        · cases h
      · cases h
    · cases h
  | AugAssign tg op e pos =>
    unfold cS at h
    simp only at h
    cases tg <;> simp only at h <;> first | (cases h; done) | skip
    · split at h
      · rename_i hi
        split at h
        · rename_i b co ci c h1 h2 h3 h4
          cases h
          exact one _ rfl (ps_augsM hF g.hu (augOf_k h1) (A.e _ co h2).1 (A.e _ ci h3).1 (A.e _ c h4).1 (aug_sub hF hi))
        · cases h
      · cases h
    · split at h
      · rename_i hl
        split at h
        · rename_i i o c h1 h2 h3
          cases h
          exact one _ rfl (ps_augM hF (augOf_k h2) g.nd (by rw [g.N]; exact ix_of h1) (loc_of g hl).1 (loc_of g hl).2 (A.e _ c h3).1)
        · cases h
      · cases h
  | _ => unfold cS at h; cases h
theorem snd_ss (n : Nat) (Γ : Ctx) (X : L2.Cx) (ih : SndS F n Γ X) (sts : List Stmt) (cs : List CS) (h : cSs (n + 1) Γ sts = some cs) : L2.PSs X sts (RSs X F EN cs) := by
  unfold cSs at h
  cases sts with
  | nil => cases h; exact pss_nilM
  | cons st r =>
    simp only at h
    split at h
    · rename_i a b h1 h2
      cases h
      exact ih.s st a h1 r b (ih.ss r b h2)
    · cases h
theorem snd_st : ∀ (n : Nat) (Γ : Ctx) (X : L2.Cx), Good Γ F X → (X.xe = fun _ _ => False) → SndS F n Γ X
  | 0, Γ, X, g, hx => ⟨fun _ _ h => by simp [cS] at h, fun _ _ h => by simp [cSs] at h⟩
  | n + 1, Γ, X, g, hx => ⟨fun st cs h rest rs hr => snd_s hF n Γ X g hx (snd_st n Γ X g hx) st cs h rest rs hr, fun sts cs h => snd_ss hF n Γ X (snd_st n Γ X g hx) sts cs h⟩
end
end M

end
section
set_option Elab.async false
set_option linter.all false
set_option autoImplicit false
set_option maxRecDepth 100000
set_option maxHeartbeats 4000000
/-! programs -/
namespace M
open PySem (Addr Obj Value Str Expr Stmt FuncData)
/-- a def of the text -/
structure Row where
  x : Str
  fi : FI
  args : PySem.Arguments
  body : List Stmt
  scope : PySem.Scope
  N : List Str
def Row.ok (r : Row) : Bool :=
  (match r.scope.kind with | .function => true | _ => false) && !r.scope.isCoroutine && !r.scope.isGenerator && decide r.N.Nodup && decide (r.N.take r.fi.ps.length = r.fi.ps) && (r.fi.ps.all fun x => decide (r.scope.names.lookup x = some .local) || decide (r.scope.names.lookup x = some .cell)) && r.scope.names.all fun y => decide (y.2 ≠ .free)
theorem Row.sc {r : Row} (h : r.ok = true) : L2.FnScope r.N r.fi.ps r.scope := by
  unfold Row.ok at h
  simp only [Bool.and_eq_true, decide_eq_true_eq, Bool.not_eq_true', List.all_eq_true, Bool.or_eq_true] at h
  obtain ⟨⟨⟨⟨⟨⟨h1, h2⟩, h3⟩, h4⟩, h5⟩, h6⟩, h7⟩ := h
  refine ⟨?_, h2, h3, h4, h5, h6, h7⟩
  split at h1
  · assumption
  · cases h1
def Row.ctx (r : Row) (G : Gm) : Ctx := ⟨r.scope, r.scope.names, r.N, G⟩
def FUEL : Nat := 400
def Row.def_ (r : Row) (G : Gm) : Option Def := if r.ok = true then (cSs FUEL (r.ctx G) r.body).map fun b => ⟨r.fi.ps.length, r.N.length, b⟩ else none
/-- what the head tells -/
structure Facts (G : Gm) (tab : List Row) (K : PySem.W.Frag) (mg : Str → Option Value) : Prop where
  fns : ∀ x fi, G.fns.lookup x = some fi → ∃ r ∈ tab, r.fi = fi ∧ ∃ (qual : Str) (dvs : List LV) (f : Addr) (fd : FuncData), mg x = some (.ref f) ∧ L2.FunD K r.x qual r.args r.body r.scope dvs [] f fd ∧ BindG K fd fi
  csts : ∀ x d, G.csts.lookup x = some d → ∃ u v, mg x = some u ∧ L2.RelV v u ∧ ∀ ρ H, RV K ρ H d v
  free : ∀ x ∈ freeNames, mg (S x) = none
theorem ok_all {P : PySem.Program} {w : PySem.World} {K : PySem.W.Frag} {mg : Str → Option Value} {base : PySem.Heap} {G : Gm} {tab : List Row} {Pm : Prog} (Fc : Facts G tab K mg) (hP : ∀ r ∈ tab, ∃ d, r.def_ G = some d ∧ Pm.lookup r.fi.id = some d) :
    ∀ (n : Nat) (r : Row), r ∈ tab → ∀ (qual : Str) (dvs : List LV) (f : Addr) (fd : FuncData), L2.FunD K r.x qual r.args r.body r.scope dvs [] f fd → L2.FnOk P w K mg base CXN n f fd r.fi.ps (spF P w K (FW Pm n) r.fi.id)
  | 0, r, hr, qual, dvs, f, fd, FD => ⟨fun vs H Q E ⟨_, _, _, _, _, h⟩ => h.elim, fun A outer s H args us vs Q E hr e0 hb r ⟨_, _, _, _, _, h⟩ => h.elim⟩
  | n + 1, r, hr, qual, dvs, f, fd, FD => by
    obtain ⟨d, hd, hl⟩ := hP r hr
    unfold Row.def_ at hd
    split at hd
    · rename_i hok
      obtain ⟨b, hb, rfl⟩ := Option.map_eq_some_iff.mp hd
      have S := Row.sc hok
      have open_ : ∀ {ds : List D} {hp : Hm} {Q : VQ}, FW Pm (n + 1) r.fi.id ds hp Q EN → ds.length = r.fi.ps.length ∧ wpSs (FW Pm n) EN b (ds.map some ++ List.replicate (r.N.length - r.fi.ps.length) none) hp { nx := fun _ h' => Q .non h', rt := Q, bk := fun _ _ => False, ct := fun _ _ => False } := fun {ds hp Q} h => by
        unfold FW at h
        rw [hl] at h
        exact h
      refine FD.ok S (fun vs H Q E ⟨ρ, hp, ds, h1, h2, h3⟩ => by rw [← h2.length]; exact (open_ h3).1) fun cdv A outer s H vs Q E room ⟨ρ, hp, ds, h1, h2, h3⟩ => ?_
      obtain ⟨q1, q2⟩ := open_ h3
      have g : Good (r.ctx G) (FW Pm n) (L2.cxOf CXN P w K mg base r.N qual r.scope f cdv A outer s H E).nox := by
        refine ⟨rfl, rfl, S.nd, S.kind, rfl, ⟨n, room⟩, fun x hx => ⟨hx, .inl rfl⟩, fun x fi hx => ?_, Fc.csts, Fc.free⟩
        obtain ⟨r', hr', rfl, qual', dvs', f', fd', e1, e2, e3⟩ := Fc.fns x fi hx
        exact ⟨f', n, fd', ok_all Fc hP n r' hr' qual' dvs' f' fd' e2, room, e1, e2.kp, e3⟩
      refine ⟨RSs (L2.cxOf CXN P w K mg base r.N qual r.scope f cdv A outer s H E).nox (FW Pm n) EN b, L2.PSs.nox ((snd_st (FW_mono Pm n) FUEL (r.ctx G) _ g rfl).ss r.body b hb), ?_⟩
      refine ⟨ρ, _, hp, _, h1, ?_, q2, ⟨?_, ?_, ?_, ?_⟩⟩
      · have hv : vs.length = r.fi.ps.length := by rw [← h2.length]; exact q1
        refine ⟨?_, fun i d hd => ?_⟩
        · show (vs.map some ++ List.replicate (r.N.length - vs.length) none).length = _
          simp [h2.length, hv]
        · show ∃ v, (vs.map some ++ List.replicate (r.N.length - vs.length) none)[i]? = some (some v) ∧ _
          by_cases hi : i < ds.length
          · rw [List.getElem?_append_left (by simpa using hi), List.getElem?_map] at hd
            obtain ⟨d', e1, e2⟩ := Option.map_eq_some_iff.mp hd
            cases e2
            obtain ⟨v, e3, rv⟩ := h2.get e1
            exact ⟨v, by rw [List.getElem?_append_left (by rw [List.length_map, ← h2.length]; exact hi), List.getElem?_map, e3]; rfl, rv⟩
          · rw [List.getElem?_append_right (by simpa using hi), List.getElem?_replicate] at hd
            split at hd <;> cases hd
      · exact fun e' h' ρ' H' σ' q p t hr' he' => q ρ' H' .non p t hr' .non
      · exact fun d h' q => q
      · exact fun e' h' ρ' H' σ' q => q.elim
      · exact fun e' h' ρ' H' σ' q => q.elim
    · cases hd
end M

end
section
set_option Elab.async false
set_option linter.all false
set_option autoImplicit false
set_option maxRecDepth 100000
set_option maxHeartbeats 4000000
/-! how a call binds -/
namespace M
open PySem (Addr Obj Value Str Expr Stmt FuncData bindArgs seqItems?)
theorem lookup_app {α β : Type} [BEq α] (x : α) (l r : List (α × β)) : (l ++ r).lookup x = (l.lookup x).or (r.lookup x) := List.lookup_append
theorem forIn_kw {β : Type} {body : (Str × Value) → β → PySem.Sem (ForInStep β)} {st : List (Str × Value) → β} {normal : List Str} (hb : ∀ kv slots, kv.1 ∈ normal → slots.lookup kv.1 = none → body kv (st slots) = pure (.yield (st (slots ++ [kv])))) :
    ∀ (l slots : List (Str × Value)), (∀ kv ∈ l, kv.1 ∈ normal) → (∀ kv ∈ l, slots.lookup kv.1 = none) → (l.map (·.1)).Nodup → forIn l (st slots) body = pure (st (slots ++ l))
  | [], slots, _, _, _ => by rw [List.forIn_nil, List.append_nil]
  | kv :: l, slots, h1, h2, h3 => by
    rw [List.forIn_cons, hb kv slots (h1 kv List.mem_cons_self) (h2 kv List.mem_cons_self), pure_bind]
    rw [List.map_cons, List.nodup_cons] at h3
    refine (forIn_kw hb l (slots ++ [kv]) (fun q hq => h1 q (List.mem_cons_of_mem _ hq)) (fun q hq => ?_) h3.2).trans (by rw [List.append_assoc]; rfl)
    rw [lookup_app, h2 q (List.mem_cons_of_mem _ hq)]
    have : q.1 ≠ kv.1 := fun e => h3.1 (by rw [← e]; exact List.mem_map_of_mem hq)
    simp [List.lookup_cons, this]
theorem forIn_dfl {body : (Str × Value) → List (Str × Value) → PySem.Sem (ForInStep (List (Str × Value)))} (hb : ∀ kv slots, body kv slots = pure (.yield (if (slots.lookup kv.1).isNone = true then slots ++ [kv] else slots))) :
    ∀ (l slots : List (Str × Value)), ∃ r, forIn l slots body = pure r ∧ ∀ x, r.lookup x = (slots.lookup x).or (l.lookup x)
  | [], slots => ⟨slots, by rw [List.forIn_nil], fun x => by simp⟩
  | kv :: l, slots => by
    obtain ⟨r, h1, h2⟩ := forIn_dfl hb l (if (slots.lookup kv.1).isNone = true then slots ++ [kv] else slots)
    refine ⟨r, by rw [List.forIn_cons, hb, pure_bind]; exact h1, fun x => ?_⟩
    rw [h2 x, List.lookup_cons]
    by_cases hs : (slots.lookup kv.1).isNone = true
    · rw [if_pos hs, lookup_app, Option.or_assoc]
      congr 1
      rw [List.lookup_cons]
      by_cases hx : (x == kv.1) = true
      · rw [hx]; rfl
      · have hx : (x == kv.1) = false := by simpa using hx
        rw [hx]; rfl
    · rw [if_neg hs]
      by_cases hx : (x == kv.1) = true
      · rw [hx]
        have e : x = kv.1 := eq_of_beq hx
        rw [e]
        cases hq : slots.lookup kv.1 with
        | none => rw [hq] at hs; exact absurd rfl hs
        | some v => rfl
      · have hx : (x == kv.1) = false := by simpa using hx
        rw [hx]
theorem fm_congr {α β : Type} {f g : α → Option β} : ∀ {l : List α}, (∀ x ∈ l, f x = g x) → l.filterMap f = l.filterMap g
  | [], _ => rfl
  | x :: l, h => by
    rw [List.filterMap_cons, List.filterMap_cons, h x List.mem_cons_self, fm_congr fun y hy => h y (List.mem_cons_of_mem _ hy)]
theorem zip_lookup {ps : List Str} (nd : ps.Nodup) : ∀ {us : List Value}, us.length = ps.length → ps.filterMap (fun n => ((ps.zip us).lookup n).map fun v => (n, v)) = ps.zip us := by
  induction ps with
  | nil => intro us h; rfl
  | cons p ps ih =>
    intro us h
    cases us with
    | nil => simp at h
    | cons u us =>
      rw [List.nodup_cons] at nd
      rw [List.zip_cons_cons, List.filterMap_cons, List.lookup_cons, beq_self_eq_true]
      show (p, u) :: _ = _
      congr 1
      refine (fm_congr fun n hn => ?_).trans (ih nd.2 (by simpa using h))
      have hne : (n == p) = false := by
        rw [beq_eq_false_iff_ne]
        rintro rfl
        exact nd.1 hn
      rw [List.lookup_cons, hne]
theorem zip_none {ps : List Str} {us : List Value} {x : Str} (h : x ∉ ps.take us.length) : (ps.zip us).lookup x = none := by
  induction ps generalizing us with
  | nil => simp
  | cons p ps ih =>
    cases us with
    | nil => simp
    | cons u us =>
      rw [List.length_cons, List.take_succ_cons, List.mem_cons, not_or] at h
      rw [List.zip_cons_cons, List.lookup_cons]
      have : (x == p) = false := beq_eq_false_iff_ne.mpr h.1
      rw [this]
      exact ih h.2
theorem zip_at {ps : List Str} (nd : ps.Nodup) : ∀ {us : List Value} {i : Nat} {x : Str} {u : Value}, ps[i]? = some x → us[i]? = some u → (ps.zip us).lookup x = some u := by
  induction ps with
  | nil => intro us i x u h; simp at h
  | cons p ps ih =>
    intro us i x u h1 h2
    rw [List.nodup_cons] at nd
    cases us with
    | nil => simp at h2
    | cons v us =>
      rw [List.zip_cons_cons, List.lookup_cons]
      cases i with
      | zero => simp at h1 h2; subst h1 h2; rw [beq_self_eq_true]
      | succ i =>
        have hne : (x == p) = false := by
          rw [beq_eq_false_iff_ne]
          rintro rfl
          exact nd.1 (List.mem_of_getElem? (by simpa using h1))
        rw [hne]
        exact ih nd.2 (by simpa using h1) (by simpa using h2)
theorem nodup_at {α : Type} : ∀ {l : List α} {i k : Nat} {x : α}, l.Nodup → l[i]? = some x → l[k]? = some x → i = k
  | [], i, k, x, _, h, _ => by simp at h
  | y :: l, 0, 0, x, _, _, _ => rfl
  | y :: l, 0, k + 1, x, nd, h1, h2 => by
    simp at h1 h2
    subst h1
    exact absurd (List.mem_of_getElem? h2) (List.nodup_cons.mp nd).1
  | y :: l, i + 1, 0, x, nd, h1, h2 => by
    simp at h1 h2
    subst h2
    exact absurd (List.mem_of_getElem? h1) (List.nodup_cons.mp nd).1
  | y :: l, i + 1, k + 1, x, nd, h1, h2 => by
    exact congrArg (· + 1) (nodup_at (List.nodup_cons.mp nd).2 (by simpa using h1) (by simpa using h2))
theorem take_not {ps : List Str} (nd : ps.Nodup) {i n : Nat} {x : Str} (h : ps[i]? = some x) (hn : n ≤ i) : x ∉ ps.take n := fun hm => by
  obtain ⟨k, hk⟩ := List.mem_iff_getElem?.mp hm
  rw [List.getElem?_take] at hk
  split at hk
  · rename_i hlt
    have := nodup_at nd hk h
    omega
  · cases hk
theorem bind_gen {fd : FuncData} {ps : List Str} (h0 : fd.params.posonlyargs = []) (h1 : fd.params.args.map (·.arg) = ps) (h2 : fd.params.kwonlyargs = []) (h3 : fd.params.vararg = none) (h4 : fd.params.kwarg = none) (nd : ps.Nodup) {us ws : List Value} {ks : List Str} (hk : (ps.drop us.length).take ks.length = ks) (hw : ws.length = ks.length) (hn : us.length + ks.length ≤ ps.length) :
    ∃ k, bindArgs fd ⟨us, ks.zip ws⟩ = seqItems? fd.defaults >>= k ∧ (∀ its : List Value, ps.length - (us.length + ks.length) ≤ its.length → its.length ≤ ps.length → k (some its.toArray) = pure (ps.zip (us ++ ws ++ its.drop (its.length - (ps.length - (us.length + ks.length)))))) ∧ (us.length + ks.length = ps.length → k none = pure (ps.zip (us ++ ws))) := by
  have hz : (ks.zip ws).map (·.1) = ks := List.map_fst_zip (by omega)
  have hsub : ∀ x ∈ ks, x ∈ ps.drop us.length := fun x hx => List.mem_of_mem_take (by rw [hk]; exact hx)
  have nk : ks.Nodup := by rw [← hk]; exact ((nd.sublist (List.drop_sublist _ _)).sublist (List.take_sublist _ _))
  have hmem : ∀ kv ∈ ks.zip ws, kv.1 ∈ ks := fun kv h => by rw [← hz]; exact List.mem_map_of_mem h
  have hno : ∀ x ∈ ks, (ps.zip us).lookup x = none := fun x hx => zip_none fun h => by
    have := List.nodup_append.mp (by rw [List.take_append_drop]; exact nd : (ps.take us.length ++ ps.drop us.length).Nodup)
    exact this.2.2 x h x (hsub x hx) rfl
  unfold bindArgs
  simp only [h0, h1, h2, h3, h4, List.map_nil, List.nil_append, List.append_nil]
  rw [forIn_kw (st := fun sl => (sl, ([] : List (Str × Value)))) (normal := ps) ?hb (ks.zip ws) (ps.zip us) (fun kv h => List.mem_of_mem_drop (hsub _ (hmem kv h))) (fun kv h => hno _ (hmem kv h)) (by rw [hz]; exact nk)]
  case hb =>
    intro kv slots hm hl
    have c : (ps.contains kv.1 || List.contains [] kv.1) = true := by rw [List.contains_iff_mem.mpr hm]; rfl
    rw [if_pos c, hl]
    rfl
  rw [pure_bind]
  -- what stands at each place
  have at1 : ∀ i x, ps[i]? = some x → i < us.length → ((ps.zip us ++ ks.zip ws).lookup x) = us[i]? := fun i x h hi => by
    rw [lookup_app, zip_at nd h (List.getElem?_eq_getElem hi), List.getElem?_eq_getElem hi]
    rfl
  have ka : ∀ i x, ps[i]? = some x → us.length ≤ i → i < us.length + ks.length → ks[i - us.length]? = some x := fun i x h h1 h2 => by
    rw [← hk, List.getElem?_take, if_pos (by omega), List.getElem?_drop, show us.length + (i - us.length) = i by omega]
    exact h
  have at2 : ∀ i x, ps[i]? = some x → us.length ≤ i → i < us.length + ks.length → ((ps.zip us ++ ks.zip ws).lookup x) = ws[i - us.length]? := fun i x h h1 h2 => by
    have hw' : i - us.length < ws.length := by omega
    rw [lookup_app, zip_none (take_not nd h h1), zip_at nk (ka i x h h1 h2) (List.getElem?_eq_getElem hw'), List.getElem?_eq_getElem hw']
    rfl
  have at3 : ∀ i x, ps[i]? = some x → us.length + ks.length ≤ i → ((ps.zip us ++ ks.zip ws).lookup x) = none := fun i x h h1 => by
    rw [lookup_app, zip_none (take_not nd h (by omega))]
    have hx : x ∉ ks.take ws.length := fun hm => by
      have hm := List.mem_of_mem_take hm
      obtain ⟨q, hq⟩ := List.mem_iff_getElem?.mp hm
      have hq' := (List.getElem?_eq_some_iff.mp hq).1
      have h2 : ps[us.length + q]? = some x := by
        rw [← hk, List.getElem?_take, if_pos hq', List.getElem?_drop] at hq
        exact hq
      exact take_not nd h (n := us.length + q + 1) (by omega) (List.mem_iff_getElem?.mpr ⟨us.length + q, by rw [List.getElem?_take, if_pos (by omega)]; exact h2⟩)
    rw [zip_none hx]
    rfl
  have miss : ∀ L, L ≤ us.length + ks.length → ((ps.take L).filter fun n => ((ps.zip us ++ ks.zip ws).lookup n).isNone) = [] := fun L hL => by
    rw [List.filter_eq_nil_iff]
    intro x hx
    obtain ⟨i, hi⟩ := List.mem_iff_getElem?.mp hx
    rw [List.getElem?_take] at hi
    split at hi
    · rename_i hlt
      by_cases h : i < us.length
      · rw [at1 i x hi h, List.getElem?_eq_getElem h]; simp
      · have hw' : i - us.length < ws.length := by omega
        rw [at2 i x hi (by omega) (by omega), List.getElem?_eq_getElem hw']; simp
    · cases hi
  have fin : ∀ (vs : List Value) (r : List (Str × Value)), us.length + ks.length + vs.length = ps.length → (∀ i x, ps[i]? = some x → r.lookup x = ((ps.zip us ++ ks.zip ws).lookup x).or (if us.length + ks.length ≤ i then vs[i - (us.length + ks.length)]? else none)) →
      List.filterMap (fun n => Option.map (fun x => (n, x)) (List.lookup n r)) ps = ps.zip (us ++ ws ++ vs) := fun vs r hl hr => by
    have hlen : (us ++ ws ++ vs).length = ps.length := by simp; omega
    refine (fm_congr fun n hn => ?_).trans (zip_lookup nd hlen)
    obtain ⟨i, hi⟩ := List.mem_iff_getElem?.mp hn
    have hip := (List.getElem?_eq_some_iff.mp hi).1
    congr 1
    rw [hr i n hi, zip_at nd hi (List.getElem?_eq_getElem (by omega))]
    rw [← List.getElem?_eq_getElem]
    by_cases h : i < us.length
    · rw [at1 i n hi h, List.append_assoc, List.getElem?_append_left h, List.getElem?_eq_getElem h]
      rfl
    · by_cases h2 : i < us.length + ks.length
      · have hw' : i - us.length < ws.length := by omega
        rw [at2 i n hi (by omega) h2, List.append_assoc, List.getElem?_append_right (by omega), List.getElem?_append_left hw', List.getElem?_eq_getElem hw']
        rfl
      · rw [at3 i n hi (by omega), if_pos (by omega), List.getElem?_append_right (by simp; omega)]
        simp [hw]
  refine ⟨_, rfl, fun its l1 l2 => ?_, fun l1 => ?_⟩
  · rw [if_neg (by simp; omega)]
    simp only [Option.getD_some]
    have e0 : its.length - ps.length = 0 := by omega
    rw [e0, List.drop_zero, miss _ (by omega), if_neg (by simp)]
    obtain ⟨r, hr1, hr2⟩ := forIn_dfl (body := fun x __s => if (List.lookup x.fst __s).isNone = true then pure (ForInStep.yield (__s ++ [(x.fst, x.snd)])) else pure (ForInStep.yield __s)) (fun kv slots => by
      split
      · rfl
      · rfl) ((List.drop (ps.length - its.length) ps).zip its) (ps.zip us ++ ks.zip ws)
    rw [hr1, pure_bind, List.forIn_nil, pure_bind, if_neg (by simp)]
    congr 1
    refine fin _ r (by rw [List.length_drop]; omega) fun i x hi => ?_
    rw [hr2 x]
    have hip := (List.getElem?_eq_some_iff.mp hi).1
    by_cases h : us.length + ks.length ≤ i
    · rw [at3 i x hi h, if_pos h]
      have hi2 : i - (ps.length - its.length) < its.length := by omega
      rw [zip_at (nd.sublist (List.drop_sublist _ _)) (i := i - (ps.length - its.length)) (u := its[i - (ps.length - its.length)]) (by rw [List.getElem?_drop, show ps.length - its.length + (i - (ps.length - its.length)) = i by omega]; exact hi) (List.getElem?_eq_getElem hi2)]
      rw [List.getElem?_drop, ← List.getElem?_eq_getElem]
      congr 1
      congr 1
      omega
    · rw [if_neg h]
      have : ∃ v, (ps.zip us ++ ks.zip ws).lookup x = some v := by
        by_cases h1 : i < us.length
        · exact ⟨us[i], by rw [at1 i x hi h1, List.getElem?_eq_getElem h1]⟩
        · have hw' : i - us.length < ws.length := by omega
          exact ⟨ws[i - us.length], by rw [at2 i x hi (by omega) (by omega), List.getElem?_eq_getElem hw']⟩
      obtain ⟨v, hv⟩ := this
      rw [hv]; rfl
  · rw [if_neg (by simp; omega)]
    simp only [Option.getD_none, List.drop_nil, List.length_nil, Nat.sub_zero, List.zip_nil_right, List.forIn_nil, pure_bind]
    rw [miss _ (by omega), if_neg (by simp), if_neg (by simp)]
    congr 1
    have := fin [] (ps.zip us ++ ks.zip ws) (by simp; omega) fun i x hi => by
      have hip := (List.getElem?_eq_some_iff.mp hi).1
      rw [if_neg (by omega)]
      cases (ps.zip us ++ ks.zip ws).lookup x <;> rfl
    rw [List.append_nil] at this
    exact this
/-- parameters of the plain kind -/
def okA (a : PySem.Arguments) (ps : List Str) : Bool := a.posonlyargs.isEmpty && decide (a.args.map (·.arg) = ps) && a.kwonlyargs.isEmpty && a.vararg.isNone && a.kwarg.isNone
theorem bindG_of {K : PySem.W.Frag} {r : Row} {qual : Str} {dvs : List LV} {f : Addr} {fd : FuncData} (FD : L2.FunD K r.x qual r.args r.body r.scope dvs [] f fd) (ha : okA r.args r.fi.ps = true) (nd : r.fi.ps.Nodup) (hd : ∀ ρ H, RVs K ρ H r.fi.dfl dvs) (hl : r.fi.dfl.length ≤ r.fi.ps.length) : BindG K fd r.fi := by
  intro n ks dv hs
  obtain ⟨oc, od, dV, kV, doc, pm, an, cdv, ct, osl, rfl, lk, hcd, hD, hK⟩ := FD.ex
  unfold okA at ha
  simp only [Bool.and_eq_true, decide_eq_true_eq, List.isEmpty_iff, Option.isNone_iff_eq_none] at ha
  obtain ⟨⟨⟨⟨a1, a2⟩, a3⟩, a4⟩, a5⟩ := ha
  have hlen := shape_len hs
  have hdv : dv = r.fi.dfl.drop (r.fi.dfl.length - (r.fi.ps.length - (n + ks.length))) ∧ r.fi.ps.length - (n + ks.length) ≤ r.fi.dfl.length := by
    unfold shape at hs
    split at hs
    · rename_i c
      cases hs
      exact ⟨rfl, c.2.2⟩
    · cases hs
  have hdl : ∀ H, r.fi.dfl.length = dvs.length := fun H => (hd [] H).length
  have hdl := hdl (fun _ => none)
  rcases hD with ⟨rfl, rfl⟩ | ⟨hne, T, o, its, m, rfl, lT, oT, rT⟩
  · have h0 : r.fi.dfl = [] := List.length_eq_zero_iff.mp hdl
    rw [h0] at hdv
    have hdv0 : dv = [] := by rw [hdv.1]; simp
    subst hdv0
    refine ⟨[], [], .nil, fun _ _ => .nil, fun s us ws X l1 l2 => ?_⟩
    subst l1
    obtain ⟨k, e1, _, e3⟩ := bind_gen (fd := PySem.W.fnOf r.x qual r.args r.body r.scope .none kV doc pm an cdv ct) a1 a2 a3 a4 a5 nd (us := us) (ws := ws) hlen.2 l2 (by have := hlen.1; simp at this; omega)
    refine PySem.BindsTo.of_eq ?_
    rw [e1, List.append_nil]
    show (PySem.seqItems? .none >>= k) = _
    rw [show PySem.seqItems? .none = pure none from rfl, pure_bind]
    exact e3 (by have := hlen.1; simpa using this)
  · have h1 : its.length = dvs.length := rT.length.symm
    refine ⟨dvs.drop (r.fi.dfl.length - (r.fi.ps.length - (n + ks.length))), its.drop (its.length - (r.fi.ps.length - (n + ks.length))), by rw [h1, ← hdl]; exact rT.drop _, fun ρ H => by rw [hdv.1]; exact (hd ρ H).drop _, fun s us ws X l1 l2 => ?_⟩
    subst l1
    obtain ⟨k, e1, e2, _⟩ := bind_gen (fd := PySem.W.fnOf r.x qual r.args r.body r.scope (.ref T) kV doc pm an cdv ct) a1 a2 a3 a4 a5 nd (us := us) (ws := ws) hlen.2 l2 (by have := hlen.1; omega)
    refine L2.BindsTo.of_looks fun M => ?_
    rw [e1]
    exact L2.looks_items X lT oT (.of_pure (e2 its (by omega) (by omega)))
end M

end
section
set_option Elab.async false
set_option linter.all false
set_option autoImplicit false
set_option maxRecDepth 100000
set_option maxHeartbeats 4000000
/-! a law's end -/
namespace M
open PySem (Addr Obj Value Str Expr Stmt FuncData mainGlobals)
/-! ### constants -/
mutual
def cstB (K : PySem.W.Frag) : Nat → Value → D → Bool
  | 0, _, _ => false
  | n + 1, v, d => match v, d with
    | .none, .non => true
    | .bool b, .bl c => b == c
    | .int i _, .int j => decide (i = j)
    | .str s _, .str cs => decide (s.cps.toList = cs) && sOK cs
    | .ref a, .tup ds => match K.lookup a with
      | some o => match o.cls, o.data with
        | .type c, .seq its _ => decide (c = "tuple") && decide (its.size ≤ PySem.sizeLine) && cstAll K n its.toList ds
        | _, _ => false
      | none => false
    | _, _ => false
def cstAll (K : PySem.W.Frag) : Nat → List Value → List D → Bool
  | 0, _, _ => false
  | n + 1, vs, ds => match vs, ds with
    | [], [] => true
    | v :: vs, d :: ds => cstB K n v d && cstAll K n vs ds
    | _, _ => false
end
theorem cst_ok {K : PySem.W.Frag} : ∀ n : Nat, (∀ v d, cstB K n v d = true → ∃ x : LV, L2.RelV x v ∧ ∀ ρ H, RV K ρ H d x) ∧ ∀ vs ds, cstAll K n vs ds = true → ∃ xs : List LV, L2.Vals xs vs ∧ ∀ ρ H, RVs K ρ H ds xs
  | 0 => ⟨fun _ _ h => by simp [cstB] at h, fun _ _ h => by simp [cstAll] at h⟩
  | n + 1 => by
    have ih := cst_ok (K := K) n
    refine ⟨fun v d h => ?_, fun vs ds h => ?_⟩
    · unfold cstB at h
      split at h
      · exact ⟨.non, rfl, fun _ _ => .non⟩
      · rename_i b c
        have e : b = c := eq_of_beq h
        subst e
        exact ⟨.bl b, rfl, fun _ _ => .bl b⟩
      · have e := of_decide_eq_true h
        subst e
        exact ⟨.int _, ⟨_, rfl⟩, fun _ _ => .int _⟩
      · rename_i s t cs
        rw [Bool.and_eq_true, decide_eq_true_eq] at h
        obtain ⟨e, hs⟩ := h
        subst e
        refine ⟨.str s, ⟨_, rfl⟩, fun _ _ => ?_⟩
        exact RV.str (s.cps.toList) hs
      · rename_i a ds
        split at h
        · rename_i o ho
          split at h
          · rename_i c its m hc hd
            simp only [Bool.and_eq_true, decide_eq_true_eq] at h
            obtain ⟨⟨h1, h2⟩, h3⟩ := h
            obtain ⟨xs, r1, r2⟩ := ih.2 _ _ h3
            subst h1
            exact ⟨.ref a, rfl, fun ρ H => .tup (.inr ⟨o, its, m, ho, hc, hd, h2, r1⟩) (r2 ρ H)⟩
          · cases h
        · cases h
      · cases h
    · unfold cstAll at h
      split at h
      · exact ⟨[], .nil, fun _ _ => .nil⟩
      · rw [Bool.and_eq_true] at h
        obtain ⟨x, r1, r2⟩ := ih.1 _ _ h.1
        obtain ⟨xs, q1, q2⟩ := ih.2 _ _ h.2
        exact ⟨x :: xs, .cons r1 q1, fun ρ H => .cons (r2 ρ H) (q2 ρ H)⟩
      · cases h
/-! ### the head's facts -/
def cstOk (K : PySem.W.Frag) (c : Str × D) : Bool := match PySem.W.nsIn K mainGlobals c.1 with
  | some (some v) => cstB K 60 v c.2
  | _ => false
def obsM (fa : List He.Fa) (cs : List (Str × D)) (fn : List He.DefD) (K : PySem.W.Frag) : He.AlD := ((He.obsD fa fn K).1 && cs.all (cstOk K), (He.obsD fa fn K).2)
def SaysM (fa : List He.Fa) (cs : List (Str × D)) (fn : List He.DefD) (K : PySem.W.Frag) : Prop := obsM fa cs fn K = He.valD fn
def obsMG (n : Nat) (fa : List He.Fa) (cs : List (Str × D)) (fn : List He.DefD) (g : Addr → Option Obj) : He.AlD := obsM fa cs fn (He.frG g (He.asD g n))
def hookM (n : Nat) (fa : List He.Fa) (cs : List (Str × D)) (fn : List He.DefD) : PySem.W.Hook where
  α := He.AlD
  obs := fun s => obsMG n fa cs fn s.heap.get?
  val := fun _ => He.valD fn
  says := fun _ h => ∃ K : PySem.W.Frag, K.In h ∧ SaysM fa cs fn K
  of := fun _ _ e => ⟨_, He.frG_in, e⟩
  keeps := fun _ _ _ ⟨K, hK, c⟩ k => ⟨K, PySem.W.Frag.In.keeps hK k, c⟩
theorem obsMG_eq {n : Nat} {fa : List He.Fa} {cs : List (Str × D)} {fn : List He.DefD} {g : Addr → Option Obj} {s : PySem.Shared} (h : ∀ a, g a = s.heap.get? a) : obsMG n fa cs fn g = (hookM n fa cs fn).obs s := by
  have e : g = s.heap.get? := funext h
  rw [e] <;> rfl
theorem SaysM.says {fa : List He.Fa} {cs : List (Str × D)} {fn : List He.DefD} {K : PySem.W.Frag} (c : SaysM fa cs fn K) : He.SaysD fa fn K ∧ ∀ q ∈ cs, cstOk K q = true := by
  have h1 : ((He.obsD fa fn K).1 && cs.all (cstOk K)) = true := congrArg (fun z : He.AlD => z.1) c
  have h0 : obsM fa cs fn K = He.valD fn := c
  have h2 : (He.obsD fa fn K).2 = (He.valD fn).2 := by
    have h3 : (obsM fa cs fn K).2 = (He.valD fn).2 := congrArg Prod.snd h0
    exact h3
  rw [Bool.and_eq_true] at h1
  exact ⟨Prod.ext h1.1 h2, List.all_eq_true.mp h1.2⟩
/-! ### the table of a text -/
def dflOf : List Expr → Option (List D)
  | [] => some []
  | .Constant c _ _ :: r => match litOf c, dflOf r with
    | some d, some ds => some (d :: ds)
    | _, _ => none
  | _ :: _ => none
def noRow : Row := ⟨S "", ⟨0, [], []⟩, ⟨[], [], none, [], [], none, []⟩, [], ⟨.function, [], false, false, []⟩, []⟩
def rowOf (ids : List (Str × Nat × List Str)) : Stmt → Option Row
  | .FunctionDef x args body _ _ _ scope _ _ _ => match ids.lookup x, dflOf args.defaults with
    | some (id, N), some dfl => some ⟨x, ⟨id, args.args.map (·.arg), dfl⟩, args, body, scope, N⟩
    | _, _ => none
  | _ => none
def tabOf (ids : List (Str × Nat × List Str)) (body : List Stmt) : List Row := body.filterMap (rowOf ids)
def gmOf (tab : List Row) (cs : List (Str × D)) : Gm := ⟨tab.map fun r => (r.x, r.fi), cs⟩
def dvOf : D → He.Dv
  | .bl b => .bl b
  | .int i => .int i
  | .str s => .str ⟨s.toArray⟩
  | _ => .non
def leafD : D → Bool
  | .non => true
  | .bl _ => true
  | .int _ => true
  | .str s => sOK s
  | _ => false
def defD (r : Row) : He.DefD := ⟨(r.x, none), r.x, r.x, r.args, r.body, r.scope, r.fi.dfl.map dvOf, []⟩
def fnOfTab (tab : List Row) : List He.DefD := tab.map defD
def faOf (tab : List Row) : List He.Fa := tab.map (fun r => He.Fa.glo r.x) ++ freeNames.map fun x => He.Fa.free (S x)
/-- each row can be bound -/
def rowB (r : Row) : Bool := okA r.args r.fi.ps && (decide r.fi.ps.Nodup && (r.fi.dfl.all leafD && decide (r.fi.dfl.length ≤ r.fi.ps.length)))
theorem leaf_ok {K : PySem.W.Frag} : ∀ {ds : List D}, ds.all leafD = true → ∀ ρ H, RVs K ρ H ds ((ds.map dvOf).map (He.Dv.v K))
  | [], _, _, _ => .nil
  | d :: ds, h, ρ, H => by
    rw [List.all_cons, Bool.and_eq_true] at h
    refine .cons ?_ (leaf_ok h.2 ρ H)
    have h1 := h.1
    cases d <;> first | exact .non | exact .bl _ | exact .int _ | exact .str _ h1 | exact Bool.noConfusion h1
theorem facts_of {K : PySem.W.Frag} {h : PySem.Heap} {mg : Str → Option Value} {tab : List Row} {cs : List (Str × D)} (X : K.In h) (G : h.Ns mainGlobals mg) (c : SaysM (faOf tab) cs (fnOfTab tab) K) (hb : tab.all rowB = true) : Facts (gmOf tab cs) tab K mg := by
  obtain ⟨c1, c2⟩ := c.says
  refine ⟨fun x fi hx => ?_, fun x d hx => ?_, fun x hx => ?_⟩
  · have hm : (x, fi) ∈ tab.map fun r => (r.x, r.fi) := PySem.mem_of_lookup hx
    obtain ⟨r, hr, e⟩ := List.mem_map.mp hm
    cases e
    obtain ⟨fd, FD⟩ := c1.defs (d := defD r) (List.mem_map_of_mem hr)
    have hB := List.all_eq_true.mp hb r hr
    unfold rowB at hB
    simp only [Bool.and_eq_true, decide_eq_true_eq] at hB
    refine ⟨r, hr, rfl, r.x, _, _, fd, He.glo_ok X G (c1.facts (List.mem_append_left _ (List.mem_map_of_mem hr))), FD, ?_⟩
    exact bindG_of FD hB.1 hB.2.1 (leaf_ok hB.2.2.1) hB.2.2.2
  · have hm : (x, d) ∈ cs := PySem.mem_of_lookup hx
    have := c2 _ hm
    unfold cstOk at this
    split at this
    · rename_i v hv
      obtain ⟨y, r1, r2⟩ := (cst_ok 60).1 v d this
      exact ⟨v, y, PySem.W.mg_of X G hv, r1, r2⟩
    · cases this
  · exact He.free_ok X G (c1.facts (List.mem_append_right _ (List.mem_map_of_mem hx)))
/-- the promise of the law, by mini's -/
theorem law_ok {P : PySem.Program} {w : PySem.World} {K : PySem.W.Frag} {F : FnS} {id : Nat} (hL : ∀ (c : Cell) (ns : List Int), (c = .lst (ns.map D.int) ∨ c = .ro (ns.map D.int)) → ns.length ≤ 63 → F id [.ref 0] [c] (fun d _ => d = .bl true) EN) (hF : FMono F) (H : LHp) (a : Addr) (ns : List Int) (hl : ns.length ≤ 63) (hS : L2.SqL K H a (ns.map L2.V.int)) :
    spF P w K F id [.ref a] H (fun v _ => v = .bl true) E0 := by
  have rv : ∀ ρ H, RVs K ρ H (ns.map D.int) (ns.map L2.V.int) := fun ρ H => ints_rv ns
  have go : ∀ c, (c = .lst (ns.map D.int) ∨ c = .ro (ns.map D.int)) → CellOk P w K [a] H a c → spF P w K F id [.ref a] H (fun v _ => v = .bl true) E0 := fun c hc ok => by
    refine ⟨[a], [c], [.ref 0], ⟨rfl, fun i b c' h1 h2 => ?_, fun i j b c1 c2 h1 h2 h3 h4 _ _ => ?_⟩, .cons (.ref rfl) .nil, hF _ _ _ _ _ _ (hL c ns hc hl) fun d h' e ρ' H' v p t hr rv => ?_⟩
    · cases i with
      | zero => simp at h1 h2; subst h1 h2; exact ok
      | succ i => simp at h1
    · cases i <;> cases j <;> simp at h1 h2 <;> rfl
    · subst e
      cases rv
      rfl
  rcases hS with (hS | ⟨o, hS⟩) | hS
  · exact go _ (.inl rfl) ⟨_, hS, rv _ _⟩
  · exact go _ (.inr rfl) ⟨_, .inl ⟨o, hS⟩, rv _ _⟩
  · exact go _ (.inr rfl) ⟨_, .inr hS, rv _ _⟩
where
  ints_rv {K : PySem.W.Frag} {ρ : List Addr} {H : LHp} : ∀ ns : List Int, RVs K ρ H (ns.map D.int) (ns.map L2.V.int)
  | [] => .nil
  | n :: ns => .cons (.int n) (ints_rv ns)
/-- mini's program of a table -/
def progOf (tab : List Row) (G : Gm) : Prog := tab.filterMap fun r => (r.def_ G).map fun d => (r.fi.id, d)
theorem prog_ok {tab : List Row} {G : Gm} (h : (tab.all fun r => (r.def_ G).isSome) = true) (nd : (tab.map fun r => r.fi.id).Nodup) : ∀ r ∈ tab, ∃ d, r.def_ G = some d ∧ (progOf tab G).lookup r.fi.id = some d := by
  induction tab with
  | nil => intro r hr; cases hr
  | cons a tab ih =>
    intro r hr
    rw [List.all_cons, Bool.and_eq_true] at h
    rw [List.map_cons, List.nodup_cons] at nd
    obtain ⟨d, hd⟩ := Option.isSome_iff_exists.mp h.1
    have e : progOf (a :: tab) G = (a.fi.id, d) :: progOf tab G := by
      unfold progOf
      rw [List.filterMap_cons, hd]
      rfl
    rcases List.mem_cons.mp hr with rfl | hr
    · exact ⟨d, hd, by rw [e, List.lookup_cons, beq_self_eq_true]⟩
    · obtain ⟨d', h1, h2⟩ := ih h.2 nd.2 r hr
      have hne : (r.fi.id == a.fi.id) = false := by
        rw [beq_eq_false_iff_ne]
        intro z
        exact nd.1 (by rw [← z]; exact List.mem_map_of_mem hr)
      exact ⟨d', h1, by rw [e, List.lookup_cons, hne]; exact h2⟩
/-- the law's end: its row, its number -/
theorem law_end {P : PySem.Program} {w : PySem.World} {h : PySem.Heap} {mg : Str → Option Value} {fa : Addr} {K : PySem.W.Frag} {tab : List Row} {cs : List (Str × D)} {Pm : Prog} {r : Row} {id i : Nat} (n : Nat) (KX : K.In h) (G : h.Ns mainGlobals mg) (hmg : mg (S "law") = some (.ref fa)) (c : SaysM (faOf tab) cs (fnOfTab tab) K) (hb : tab.all rowB = true)
    (hP : ∀ r ∈ tab, ∃ d, r.def_ (gmOf tab cs) = some d ∧ Pm.lookup r.fi.id = some d) (hri : tab[i]? = some r) (hid : r.fi.id = id) (hx : r.x = S "law") (hps : r.fi.ps = [S "script"]) (hd : r.fi.dfl = []) (hL : ∀ (c : Cell) (ns : List Int), (c = .lst (ns.map D.int) ∨ c = .ro (ns.map D.int)) → ns.length ≤ 63 → FW Pm n id [.ref 0] [c] (fun d _ => d = .bl true) EN) :
    ∃ (K : PySem.W.Frag) (fd : FuncData) (sp : L2.Sp), K.In h ∧ (∀ (s : PySem.Shared) (u : Value), PySem.BindsTo s fd ⟨[u], []⟩ [(S "script", u)]) ∧
        (∀ (H : LHp) (a : Addr) (ns : List Int), ns.length ≤ 63 → L2.Only H → L2.SqL K H a (ns.map L2.V.int) → sp [.ref a] H (fun v _ => v = .bl true) fun _ _ _ => False) ∧
        ∀ base : PySem.Heap, K.In base → base.Ns mainGlobals mg → L2.FnOk P w K mg base CXN n fa fd [S "script"] sp := by
  subst hid
  have hr := List.mem_of_getElem? hri
  have Fc := facts_of (tab := tab) KX G c hb
  obtain ⟨c1, c2⟩ := c.says
  obtain ⟨fd, FD⟩ := c1.defs (d := defD r) (List.mem_map_of_mem hr)
  have hg := He.glo_ok KX G (c1.facts (f := .glo r.x) (List.mem_append_left _ (List.mem_map_of_mem hr)))
  rw [hx, hmg] at hg
  have hfa : fa = He.ga K r.x := by
    rw [hx]
    exact Value.ref.inj (Option.some.inj hg)
  have hB := List.all_eq_true.mp hb r hr
  unfold rowB at hB
  simp only [Bool.and_eq_true, decide_eq_true_eq] at hB
  have FD' : L2.FunD K r.x r.x r.args r.body r.scope ((r.fi.dfl.map dvOf).map (He.Dv.v K)) [] fa fd := by rw [hfa]; exact FD
  have B := bindG_of FD' hB.1 hB.2.1 (leaf_ok hB.2.2.1) hB.2.2.2
  refine ⟨K, fd, spF P w K (FW Pm n) r.fi.id, KX, ?_, fun H a ns hl _ hS => law_ok hL (FW_mono Pm n) H a ns hl hS, fun base _ _ => by rw [← hps]; exact ok_all Fc hP n r hr _ _ _ _ FD'⟩
  have FD0 : L2.FunD K r.x r.x r.args r.body r.scope [] [] fa fd := by rw [hd] at FD'; exact FD'
  intro s u
  have a := hB.1
  unfold okA at a
  simp only [Bool.and_eq_true, decide_eq_true_eq, List.isEmpty_iff, Option.isNone_iff_eq_none] at a
  obtain ⟨⟨⟨⟨a1, a2⟩, a3⟩, a4⟩, a5⟩ := a
  refine L2.FunD.bindsA (ps := [S "script"]) FD0 (fun kV doc pm an cdv ct us hl => ?_) s [u] rfl
  obtain ⟨k, e1, _, e3⟩ := bind_gen (fd := PySem.W.fnOf r.x r.x r.args r.body r.scope .none kV doc pm an cdv ct) (ps := [S "script"]) a1 (by rw [← hps]; exact a2) a3 a4 a5 (by simp) (us := us) (ws := []) (ks := []) (by simp) rfl (by simp at hl; simp [hl])
  have e0 : PySem.bindArgs (PySem.W.fnOf r.x r.x r.args r.body r.scope .none kV doc pm an cdv ct) ⟨us, []⟩ = PySem.seqItems? .none >>= k := e1
  rw [e0, show PySem.seqItems? .none = pure none from rfl, pure_bind, e3 (by simpa using hl), List.append_nil]
end M

end
section
set_option Elab.async false
set_option linter.all false
set_option autoImplicit false
/-! tools for laws about mini's meaning -/
namespace M
theorem fw_open {P : Prog} {n f : Nat} {ds : List D} {h : Hm} {Q : VQ} {E : XP} {d : Def} (hl : P.lookup f = some d) (hp : ds.length = d.params) (w : wpSs (FW P n) E d.body (ds.map some ++ List.replicate (d.slots - d.params) none) h { nx := fun _ h' => Q .non h', rt := Q, bk := fun _ _ => False, ct := fun _ _ => False }) : FW P (n + 1) f ds h Q E := by
  unfold FW
  rw [hl]
  exact ⟨hp, w⟩
theorem getM_set {h : Hm} {a : Nat} {xs ys : List D} (e : getM h a = some xs) : getM (h.set a (.lst ys)) a = some ys := by
  have : a < h.length := by
    unfold getM at e
    split at e
    · rename_i z e2; exact (List.getElem?_eq_some_iff.mp e2).1
    · cases e
  unfold getM
  rw [List.getElem?_set_self this]
theorem getM_at' {h : Hm} {a : Nat} {xs : List D} (e : getM h a = some xs) : h[a]? = some (.lst xs) := by
  unfold getM at e
  split at e
  · rename_i z e2; cases e; exact e2
  · cases e
/-! readings of the partial functions -/
section
variable {h : Hm} {a : Nat} {xs ys : List D} {i j k : Int} {x y v : D}
theorem jn {d : D} : (some (some d)).join = some d := rfl
theorem idx_lst (e : h[a]? = some (.lst xs)) : idxS (.ref a) (.int k) h = atI xs k := by simp [idxS, e]
theorem idx_ro (e : h[a]? = some (.ro xs)) : idxS (.ref a) (.int k) h = atI xs k := by simp [idxS, e]
theorem idx_tup : idxS (.tup xs) (.int k) h = atI xs k := rfl
theorem at_nat {n : Nat} (e : xs[n]? = some x) : atI xs (n : Int) = some x := by
  have := (List.getElem?_eq_some_iff.mp e).1
  unfold atI ixN
  rw [if_pos (by omega), if_pos (by omega)]
  show xs[((n : Int)).toNat]? = some x
  rw [Int.toNat_natCast]; exact e
theorem at_pos {n : Int} (h0 : 0 ≤ n) (e : xs[n.toNat]? = some x) : atI xs n = some x := by
  have := at_nat e
  rwa [Int.toNat_of_nonneg h0] at this
theorem at0 : atI (x :: xs) 0 = some x := at_nat (n := 0) rfl
theorem at1 : atI (x :: y :: xs) 1 = some y := at_nat (n := 1) rfl
theorem at2 {z : D} : atI (x :: y :: z :: xs) 2 = some z := at_nat (n := 2) rfl
theorem c_gt : cmpS .gt (.int i) (.int j) h = some (decide (j < i)) := rfl
theorem c_lt : cmpS .lt (.int i) (.int j) h = some (decide (i < j)) := rfl
theorem c_le : cmpS .le (.int i) (.int j) h = some (decide (i ≤ j)) := rfl
theorem c_ge : cmpS .ge (.int i) (.int j) h = some (decide (j ≤ i)) := rfl
theorem c_is : cmpS .is x y h = isS x y := rfl
theorem c_isnt : cmpS .isnt x y h = (isS x y).map not := rfl
theorem c_eqI : cmpS .eq (.int i) (.int j) h = some (decide (i = j)) := by simp [cmpS, eqv, snap, snapD, dep, eqD]
theorem c_neI : cmpS .ne (.int i) (.int j) h = some (!decide (i = j)) := by simp [cmpS, eqv, snap, snapD, dep, eqD]
theorem c_eqS {s t : List Nat} : cmpS .eq (.str s) (.str t) h = some (decide (s = t)) := by simp [cmpS, eqv, snap, snapD, dep, eqD]
theorem c_neS {s t : List Nat} : cmpS .ne (.str s) (.str t) h = some (!decide (s = t)) := by simp [cmpS, eqv, snap, snapD, dep, eqD]
theorem c_eqB {b c : Bool} : cmpS .eq (.bl b) (.bl c) h = some (b == c) := by simp [cmpS, eqv, snap, snapD, dep, eqD]
theorem c_neB {b c : Bool} : cmpS .ne (.bl b) (.bl c) h = some (!(b == c)) := by simp [cmpS, eqv, snap, snapD, dep, eqD]
theorem t_bl {b : Bool} : truth h (.bl b) = some b := rfl
theorem b_int : bltS .int [.int i] h = some (.int i, h) := rfl
theorem b_abs : bltS .abs [.int i] h = some (.int (if i < 0 then -i else i), h) := rfl
theorem b_max2 : bltS .max2 [.int i, .int j] h = some (.int (if j > i then j else i), h) := rfl
theorem b_min2 : bltS .min2 [.int i, .int j] h = some (.int (if j < i then j else i), h) := rfl
theorem b_lenT : bltS .len [.tup xs] h = some (.int xs.length, h) := rfl
theorem b_lenL (e : h[a]? = some (.lst xs)) : bltS .len [.ref a] h = some (.int xs.length, h) := by simp [bltS, lenS, e]
theorem b_lenR (e : h[a]? = some (.ro xs)) : bltS .len [.ref a] h = some (.int xs.length, h) := by simp [bltS, lenS, e]
theorem b_lenD {kvs : List (D × D)} (e : h[a]? = some (.dct kvs)) : bltS .len [.ref a] h = some (.int kvs.length, h) := by simp [bltS, lenS, e]
theorem o_add : binS .add (.int i) (.int j) h = some (.int (i + j), h) := rfl
theorem o_sub : binS .sub (.int i) (.int j) h = some (.int (i - j), h) := rfl
theorem o_mulR (l : -LINT < j ∧ j < LINT) : binS .mul (.int i) (.int j) h = some (.int (i * j), h) := by simp [binS, l]
theorem o_mulL (l : -LINT < i ∧ i < LINT) : binS .mul (.int i) (.int j) h = some (.int (i * j), h) := by simp [binS, l]
theorem o_mod (l : 0 < j) : binS .mod (.int i) (.int j) h = some (.int (i % j), h) := by
  have : j ≠ 0 := by omega
  simp [binS, this, Int.fmod_eq_emod_of_nonneg i (by omega : (0 : Int) ≤ j)]
theorem o_fdiv (l : 0 < j) (l2 : j < 1073741824) : binS .fdiv (.int i) (.int j) h = some (.int (i / j), h) := by
  have h1 : j ≠ 0 := by omega
  have h2 : j.natAbs < 1073741824 := by omega
  simp [binS, h1, h2, Int.fdiv_eq_ediv_of_nonneg i (by omega : (0 : Int) ≤ j)]
theorem s_lst {n : Nat} (e : h[a]? = some (.lst xs)) (l : ixN xs.length k = some n) : setS (.ref a) (.int k) v h = some (h.set a (.lst (xs.set n v))) := by simp [setS, e, l]
theorem ix00 {n : Nat} : ixN (n + 1) 0 = some 0 := by unfold ixN; rw [if_pos (by omega), if_pos (by omega)]; rfl
theorem ix01 {n : Nat} : ixN (n + 2) 1 = some 1 := by unfold ixN; rw [if_pos (by omega), if_pos (by omega)]; rfl
theorem set_at {c c' : Cell} (e : h[a]? = some c) : (h.set a c')[a]? = some c' := by
  rw [List.getElem?_set_self (List.getElem?_eq_some_iff.mp e).1]
theorem idx_cell {c : Cell} (e : h[a]? = some c) (hc : c = .lst xs ∨ c = .ro xs) : idxS (.ref a) (.int k) h = atI xs k := by
  rcases hc with rfl | rfl
  · exact idx_lst e
  · exact idx_ro e
theorem b_lenC {c : Cell} (e : h[a]? = some c) (hc : c = .lst xs ∨ c = .ro xs) : bltS .len [.ref a] h = some (.int xs.length, h) := by
  rcases hc with rfl | rfl
  · exact b_lenL e
  · exact b_lenR e
theorem at_ints {ns : List Int} (h0 : 0 ≤ k) (h1 : k < ns.length) : atI (ns.map D.int) k = some (.int (ns[k.toNat]'(by omega))) :=
  at_pos h0 (by rw [List.getElem?_map, List.getElem?_eq_getElem (by omega)]; rfl)
theorem o_pow10 : binS .pow (.int 10) (.int 18) h = some (.int (10 ^ 18), h) := by simp [binS]
end
/-! kinds -/
/-- a value whose reference, if it is one, is a list's -/
def okR (h : Hm) : D → Prop
  | .ref a => ∃ xs, h[a]? = some (.lst xs) ∨ h[a]? = some (.ro xs)
  | .lst _ => False
  | _ => True
def kindB (t : Ty) : D → Bool
  | .non => false
  | .bl _ => t = .int ∨ t = .bool
  | .int _ => t = .int
  | .str _ => t = .str
  | .tup _ => t = .tuple
  | .ref _ => t = .list
  | .lst _ => false
theorem isi_ok {h : Hm} {d : D} (ok : okR h d) (t : Ty) : bltS (.isi t) [d] h = some (.bl (kindB t d), h) := by
  have e : isiS h t d = some (kindB t d) := by
    cases d <;> first | rfl | skip
    · exact ok.elim
    · obtain ⟨xs, e | e⟩ := ok <;> simp [isiS, e, kindB]
  simp [bltS, e]
def isInt : D → Bool
  | .int _ => true
  | _ => false
def isTupD : D → Bool
  | .tup _ => true
  | _ => false
def isStr : D → Bool
  | .str _ => true
  | _ => false
/-- a whole number from lo, to hi if it is said -/
def numB (lo : Int) (hi : Option Int) : D → Bool
  | .int i => decide (lo ≤ i) && (match hi with
    | none => true
    | some m => decide (i ≤ m))
  | _ => false
def hiD : Option Int → D
  | none => .non
  | some m => .int m
/-! ### comprehensions that only make new cells -/
theorem pre_at {h0 h : Hm} (p : h0 <+: h) {i : Nat} {c : Cell} (e : h0[i]? = some c) : h[i]? = some c := by
  obtain ⟨t, rfl⟩ := p
  rw [List.getElem?_append_left (List.getElem?_eq_some_iff.mp e).1]; exact e
theorem still_pre {g : List (Nat × Cell)} {h0 h : Hm} (s : still g h0) (p : h0 <+: h) : still g h := fun x hx => pre_at p (s x hx)
theorem pre_set {h0 h : Hm} (p : h0 <+: h) {i : Nat} (hi : h0.length ≤ i) (c : Cell) : h0 <+: h.set i c := by
  obtain ⟨t, rfl⟩ := p
  rw [List.set_append_right _ _ hi]
  exact ⟨_, rfl⟩
theorem comp_fm {g : List (Nat × Cell)} {h0 : Hm} {step : D → Hm → (Option D → Hm → Prop) → Prop} {Q : Hm → Prop} (f : D → Option D) (st : still g h0) :
    ∀ (xs acc : List D) (h : Hm), (∀ x ∈ xs, ∀ (h : Hm) (R : Option D → Hm → Prop), h0 <+: h → (∀ h', h <+: h' → R (f x) h') → step x h R) → acc.length + xs.length ≤ LIM → h0 <+: h → h[h0.length]? = some (.lst acc) →
      (∀ h', h0 <+: h' → h'[h0.length]? = some (.lst (acc ++ xs.filterMap f)) → Q h') → compL g h0.length step Q xs h
  | [], acc, h, hs, hl, p, e, q => ⟨still_pre st p, q h p (by rw [List.filterMap_nil, List.append_nil]; exact e)⟩
  | x :: xs, acc, h, hs, hl, p, e, q => by
    refine ⟨still_pre st p, hs x List.mem_cons_self h _ p fun h' p' => ?_⟩
    have e' := pre_at p' e
    rw [List.length_cons] at hl
    cases hf : f x with
    | none =>
      refine comp_fm f st xs acc h' (fun y hy => hs y (List.mem_cons_of_mem _ hy)) (by omega) (p.trans p') e' fun h'' p'' e'' => q h'' p'' ?_
      rw [List.filterMap_cons, hf]; exact e''
    | some y =>
      have em : getM h' h0.length = some acc := by unfold getM; rw [e']
      show ws (getM h' h0.length) _
      rw [em]
      refine ⟨by omega, comp_fm f st xs (acc ++ [y]) _ (fun y hy => hs y (List.mem_cons_of_mem _ hy)) (by rw [List.length_append]; simp; omega) (pre_set (p.trans p') (Nat.le_refl _) _) (set_at e') fun h'' p'' e'' => q h'' p'' ?_⟩
      rw [List.filterMap_cons, hf]
      rw [List.append_assoc] at e''
      exact e''
/-- the whole comprehension -/
theorem comp_new {g : List (Nat × Cell)} {h0 : Hm} {step : D → Hm → (Option D → Hm → Prop) → Prop} {Q : Hm → Prop} (f : D → Option D) (st : still g h0) {xs : List D} (hl : xs.length ≤ LIM)
    (hs : ∀ x ∈ xs, ∀ (h : Hm) (R : Option D → Hm → Prop), h0 <+: h → (∀ h', h <+: h' → R (f x) h') → step x h R) (q : ∀ h', h0 <+: h' → h'[h0.length]? = some (.lst (xs.filterMap f)) → Q h') : compL g h0.length step Q xs (h0 ++ [.lst []]) :=
  comp_fm f st xs [] _ hs (by simpa using hl) ⟨_, rfl⟩ (by simp) fun h' p e => q h' p (by simpa using e)
/-- a for loop by an invariant over the items that are left -/
theorem forL_inv {g : List (Nat × Cell)} {step : D → Env → Hm → (Env → Hm → Prop) → Prop} {nx : Env → Hm → Prop} (I : List D → Env → Hm → Prop) (hg : ∀ l env h, I l env h → still g h) (hs : ∀ x l env h (R : Env → Hm → Prop), I (x :: l) env h → (∀ e h, I l e h → R e h) → step x env h R) (hn : ∀ env h, I [] env h → nx env h) :
    ∀ (xs : List D) (env : Env) (h : Hm), I xs env h → forL g step nx xs env h
  | [], env, h, hi => ⟨hg _ _ _ hi, hn env h hi⟩
  | x :: xs, env, h, hi => ⟨hg _ _ _ hi, hs x xs env h _ hi fun e h' hi' => forL_inv I hg hs hn xs e h' hi'⟩
/-! ### dict comprehensions: the keys, first come -/
def dk (ks : List D) (k : D) : List D := if (ks.any fun p => eqD p k) = true then ks else ks ++ [k]
theorem dput_keys (kvs : List (D × D)) (k v : D) : (dput kvs k v).map (·.1) = dk (kvs.map (·.1)) k := by
  unfold dput dk
  rw [List.any_map]
  by_cases c : (kvs.any ((fun p => eqD p k) ∘ (·.1))) = true
  · have c' : (kvs.any fun p => eqD p.1 k) = true := c
    rw [if_pos c, if_pos c', List.map_map]
    refine List.map_congr_left fun p _ => ?_
    show (if eqD p.1 k = true then (p.1, v) else p).1 = p.1
    split <;> rfl
  · have c' : ¬ (kvs.any fun p => eqD p.1 k) = true := c
    rw [if_neg c, if_neg c', List.map_append]
    rfl
theorem dk_length (ks : List D) (k : D) : (dk ks k).length ≤ ks.length + 1 := by
  unfold dk
  split
  · omega
  · simp
theorem dcomp_fm {g : List (Nat × Cell)} {h0 : Hm} {step : D → Hm → (Option (D × D) → Hm → Prop) → Prop} {Q : Hm → Prop} (f : D → D × D) (st : still g h0) :
    ∀ (xs : List D) (acc : List (D × D)) (h : Hm), (∀ x ∈ xs, ∀ (h : Hm) (R : Option (D × D) → Hm → Prop), h0 <+: h → (∀ h', h <+: h' → R (some (f x)) h') → step x h R) → (∀ x ∈ xs, leafB (f x).1 = true) → (∀ p ∈ acc, leafB p.1 = true) → acc.length + xs.length ≤ LIM → h0 <+: h → h[h0.length]? = some (.dct acc) →
      (∀ h' kvs, h0 <+: h' → kvs.map (·.1) = (xs.map fun x => (f x).1).foldl dk (acc.map (·.1)) → h'[h0.length]? = some (.dct kvs) → Q h') → dcompL g h0.length step Q xs h
  | [], acc, h, hs, hk, ha, hl, p, e, q => ⟨still_pre st p, q h acc p rfl e⟩
  | x :: xs, acc, h, hs, hk, ha, hl, p, e, q => by
    refine ⟨still_pre st p, hs x List.mem_cons_self h _ p fun h' p' => ?_⟩
    have e' := pre_at p' e
    rw [List.length_cons] at hl
    have em : getK h' h0.length = some acc := by unfold getK; rw [e']
    show ws (getK h' h0.length) _
    rw [em]
    have hx := hk x List.mem_cons_self
    have leaf_key : ∀ d : D, leafB d = true → keyOK d = true ∧ isTup d = false := fun d h => by
      cases d <;> first | exact ⟨rfl, rfl⟩ | exact Bool.noConfusion h
    have hin : keyIn acc (f x).1 = true := by
      unfold keyIn
      rw [Bool.and_eq_true]
      refine ⟨(leaf_key _ hx).1, List.all_eq_true.mpr fun q hq => ?_⟩
      rw [(leaf_key _ (ha q hq)).2, (leaf_key _ hx).2]; rfl
    have hlen : (dput acc (f x).1 (f x).2).length ≤ acc.length + 1 := by
      have := dk_length (acc.map (·.1)) (f x).1
      rw [← dput_keys acc (f x).1 (f x).2, List.length_map, List.length_map] at this
      exact this
    refine ⟨hin, by omega, dcomp_fm f st xs _ _ (fun y hy => hs y (List.mem_cons_of_mem _ hy)) (fun y hy => hk y (List.mem_cons_of_mem _ hy)) (fun q hq => ?_) (by omega) (pre_set (p.trans p') (Nat.le_refl _) _) (set_at e') fun h'' kvs p'' e1 e'' => q h'' kvs p'' ?_ e''⟩
    · have hm : q.1 ∈ (dput acc (f x).1 (f x).2).map (·.1) := List.mem_map_of_mem hq
      rw [dput_keys] at hm
      unfold dk at hm
      split at hm
      · obtain ⟨r, hr, e⟩ := List.mem_map.mp hm
        rw [← e]; exact ha r hr
      · rcases List.mem_append.mp hm with hm | hm
        · obtain ⟨r, hr, e⟩ := List.mem_map.mp hm
          rw [← e]; exact ha r hr
        · rw [List.mem_singleton.mp hm]; exact hx
    · rw [e1, dput_keys, List.map_cons, List.foldl_cons]
theorem dcomp_new {g : List (Nat × Cell)} {h0 : Hm} {step : D → Hm → (Option (D × D) → Hm → Prop) → Prop} {Q : Hm → Prop} (f : D → D × D) (st : still g h0) {xs : List D} (hl : xs.length ≤ LIM) (hk : ∀ x ∈ xs, leafB (f x).1 = true)
    (hs : ∀ x ∈ xs, ∀ (h : Hm) (R : Option (D × D) → Hm → Prop), h0 <+: h → (∀ h', h <+: h' → R (some (f x)) h') → step x h R) (q : ∀ h' kvs, h0 <+: h' → kvs.map (·.1) = (xs.map fun x => (f x).1).foldl dk [] → h'[h0.length]? = some (.dct kvs) → Q h') : dcompL g h0.length step Q xs (h0 ++ [.dct []]) :=
  dcomp_fm f st xs [] _ hs hk (fun _ h => nomatch h) (by simpa using hl) ⟨_, rfl⟩ (by simp) fun h' kvs p e1 e => q h' kvs p e1 e
/-- the keys of pairs put one behind another -/
theorem merge_keys : ∀ (ps kvs : List (D × D)), (∀ p ∈ ps, leafB p.1 = true) → (∀ p ∈ kvs, leafB p.1 = true) → ∃ r, mergeK kvs ps = some r ∧ r.map (·.1) = (ps.map (·.1)).foldl dk (kvs.map (·.1))
  | [], kvs, _, _ => ⟨kvs, rfl, rfl⟩
  | (k, v) :: ps, kvs, hp, hk => by
    have leaf_key : ∀ d : D, leafB d = true → keyOK d = true ∧ isTup d = false := fun d h => by
      cases d <;> first | exact ⟨rfl, rfl⟩ | exact Bool.noConfusion h
    have hx : leafB k = true := hp (k, v) List.mem_cons_self
    have hin : keyIn kvs k = true := by
      unfold keyIn
      rw [Bool.and_eq_true]
      refine ⟨(leaf_key _ hx).1, List.all_eq_true.mpr fun q hq => ?_⟩
      rw [(leaf_key _ (hk q hq)).2, (leaf_key _ hx).2]; rfl
    have hk2 : ∀ q ∈ dput kvs k v, leafB q.1 = true := fun q hq => by
      have hm : q.1 ∈ (dput kvs k v).map (·.1) := List.mem_map_of_mem hq
      rw [dput_keys] at hm
      unfold dk at hm
      split at hm
      · obtain ⟨r, hr, e⟩ := List.mem_map.mp hm
        rw [← e]; exact hk r hr
      · rcases List.mem_append.mp hm with hm | hm
        · obtain ⟨r, hr, e⟩ := List.mem_map.mp hm
          rw [← e]; exact hk r hr
        · rw [List.mem_singleton.mp hm]; exact hx
    obtain ⟨r, h1, h2⟩ := merge_keys ps (dput kvs k v) (fun p hp' => hp p (List.mem_cons_of_mem _ hp')) hk2
    refine ⟨r, ?_, ?_⟩
    · rw [mergeK, if_pos hin]; exact h1
    · rw [h2, dput_keys]; rfl
/-! ### ints: distinct, in order -/
def uq (acc : List Int) (k : Int) : List Int := if k ∈ acc then acc else acc ++ [k]
def insI (x : Int) : List Int → List Int
  | [] => [x]
  | y :: ys => if y < x then y :: insI x ys else x :: y :: ys
def sortI : List Int → List Int
  | [] => []
  | x :: xs => insI x (sortI xs)
/-- the distinct ones, in order -/
def lin (ks : List Int) : List Int := sortI (ks.foldl uq [])
theorem any_int (acc : List Int) (k : Int) : ((acc.map D.int).any fun p => eqD p (.int k)) = decide (k ∈ acc) := by
  induction acc with
  | nil => rfl
  | cons a acc ih =>
    rw [List.map_cons, List.any_cons, ih]
    by_cases h : k = a
    · subst h; simp [eqD]
    · have : a ≠ k := fun e => h e.symm
      simp [eqD, h, this]
theorem dk_int (acc : List Int) (k : Int) : dk (acc.map D.int) (.int k) = (uq acc k).map D.int := by
  unfold dk uq
  rw [any_int]
  by_cases h : k ∈ acc
  · simp [h]
  · simp [h]
theorem dk_ints : ∀ (ks acc : List Int), (ks.map D.int).foldl dk (acc.map D.int) = (ks.foldl uq acc).map D.int
  | [], _ => rfl
  | k :: ks, acc => by rw [List.map_cons, List.foldl_cons, List.foldl_cons, dk_int, dk_ints ks]
theorem ltB_int (a b : Int) : ltB (.int a) (.int b) = decide (a < b) := by
  unfold ltB
  simp [toks, ltT, ltI]
theorem insD_int (x : Int) : ∀ ys : List Int, insD (.int x) (ys.map D.int) = (insI x ys).map D.int
  | [] => rfl
  | y :: ys => by
    rw [List.map_cons, insD, insI, ltB_int]
    by_cases h : y < x
    · simp [h, insD_int x ys]
    · simp [h]
theorem sortD_int : ∀ xs : List Int, sortD (xs.map D.int) = (sortI xs).map D.int
  | [] => rfl
  | x :: xs => by rw [List.map_cons, sortD, sortI, sortD_int xs, insD_int]
theorem pure_ints : ∀ xs : List Int, pureDs (xs.map D.int) = true ∧ deps (xs.map D.int) = 0
  | [] => ⟨rfl, rfl⟩
  | x :: xs => by
    obtain ⟨a, b⟩ := pure_ints xs
    exact ⟨by rw [List.map_cons, pureDs, a]; rfl, by rw [List.map_cons, deps, b]; rfl⟩
theorem sortOK_ints (xs : List Int) : sortOK (xs.map D.int) = true := by
  obtain ⟨a, b⟩ := pure_ints xs
  unfold sortOK
  rw [a, b]
  have h1 : ((xs.map D.int).all fun x => (xs.map D.int).all fun y => alikeD x y) = true := by
    rw [List.all_eq_true]
    intro x hx
    rw [List.all_eq_true]
    intro y hy
    obtain ⟨i, _, rfl⟩ := List.mem_map.mp hx
    obtain ⟨j, _, rfl⟩ := List.mem_map.mp hy
    rfl
  have h2 : (xs.map D.int).all flatD = true := by
    rw [List.all_eq_true]
    intro x hx
    obtain ⟨i, _, rfl⟩ := List.mem_map.mp hx
    rfl
  rw [h1, h2]
  simp
theorem b_sortedD {h : Hm} {a : Nat} {kvs : List (D × D)} {ks : List Int} (e : h[a]? = some (.dct kvs)) (hk : kvs.map (·.1) = ks.map D.int) : bltS .sorted [.ref a] h = some (.ref h.length, h ++ [.lst ((sortI ks).map D.int)]) := by
  simp only [bltS, itemsOf, e, Option.bind_some]
  have : kvs.map (fun p => p.1) = ks.map D.int := hk
  rw [this, if_pos (sortOK_ints ks), sortD_int]
  rfl
theorem b_tupleL {h : Hm} {a : Nat} {xs : List D} (e : h[a]? = some (.lst xs)) : bltS .tuple [.ref a] h = some (.tup xs, h) := by simp [bltS, seqOf, getL, e]
theorem it_tup {h : Hm} {xs : List D} : iterS .val [.tup xs] h = some (xs, []) := rfl
theorem it_lst {h : Hm} {a : Nat} {xs : List D} (e : h[a]? = some (.lst xs)) : iterS .val [.ref a] h = some (xs, [(a, .lst xs)]) := by simp [iterS, seqOf, getL, leanOn, e]
theorem still_nil {h : Hm} : still [] h := fun _ h => nomatch h
theorem still_one {h : Hm} {a : Nat} {c : Cell} (e : h[a]? = some c) : still [(a, c)] h := fun p hp => by rw [List.mem_singleton.mp hp]; exact e
theorem last_at {h : Hm} {c : Cell} : (h ++ [c])[h.length]? = some c := by simp
theorem pre_one {h : Hm} {c : Cell} : h <+: h ++ [c] := ⟨[c], rfl⟩
theorem pairs_ok (ps : List (D × D)) : pairsOf (ps.map fun p => D.tup [p.1, p.2]) = some ps := by
  induction ps with
  | nil => rfl
  | cons p ps ih => rw [List.map_cons, pairsOf, ih]; rfl
theorem b_dictL {h : Hm} {a : Nat} {ps : List (D × D)} (e : h[a]? = some (.lst (ps.map fun p => D.tup [p.1, p.2]))) (hl : ps.length ≤ LIM) (hk : ∀ p ∈ ps, leafB p.1 = true) : ∃ kvs, bltS .dict [.ref a] h = some (.ref h.length, h ++ [.dct kvs]) ∧ kvs.map (·.1) = (ps.map (·.1)).foldl dk [] := by
  obtain ⟨kvs, h1, h2⟩ := merge_keys ps [] hk fun _ h => nomatch h
  refine ⟨kvs, ?_, h2⟩
  have e1 : lstOf h (.ref a) = some (ps.map fun p => D.tup [p.1, p.2]) := by simp [lstOf, getL, e]
  have e2 : (ps.all fun p => leafB p.1) = true := List.all_eq_true.mpr hk
  simp only [bltS, e1, Option.bind_some, pairs_ok]
  rw [if_pos ⟨.inl e2, hl⟩, h1]
  rfl
/-! ### dicts with keys from outside -/
structure Enc (α : Type) [DecidableEq α] where
  e : α → D
  eq : ∀ a b, eqD (e a) (e b) = decide (a = b)
  ok : ∀ a, keyOK (e a) = true
  tup : Bool
  tp : ∀ a, isTup (e a) = tup
section
variable {α β : Type} [DecidableEq α]
def look (ps : List (α × β)) (k : α) : Option β := (ps.find? fun p => decide (p.1 = k)).map (·.2)
def put (ps : List (α × β)) (k : α) (v : β) : List (α × β) := if (ps.any fun p => decide (p.1 = k)) = true then ps.map (fun p => if p.1 = k then (p.1, v) else p) else ps ++ [(k, v)]
def encL (E : Enc α) (f : β → D) (ps : List (α × β)) : List (D × D) := ps.map fun p => (E.e p.1, f p.2)
theorem look_put_same (ps : List (α × β)) (k : α) (v : β) : look (put ps k v) k = some v := by
  unfold put
  split
  · rename_i h
    unfold look
    induction ps with
    | nil => simp at h
    | cons p ps ih =>
      rw [List.map_cons, List.find?_cons]
      by_cases hp : p.1 = k
      · simp [hp]
      · rw [if_neg hp]
        simp only [hp, decide_false]
        refine ih ?_
        simpa [hp] using h
  · rename_i h
    unfold look
    rw [List.find?_append]
    have : ps.find? (fun p => decide (p.1 = k)) = none := by
      rw [List.find?_eq_none]
      intro x hx hk
      exact h (List.any_eq_true.mpr ⟨x, hx, hk⟩)
    rw [this]
    simp
theorem look_put_ne (ps : List (α × β)) {k k' : α} (v : β) (hne : k' ≠ k) : look (put ps k v) k' = look ps k' := by
  unfold put
  split
  · unfold look
    induction ps with
    | nil => rfl
    | cons p ps ih =>
      rename_i h
      rw [List.map_cons, List.find?_cons, List.find?_cons]
      by_cases hp : p.1 = k
      · have h1 : ¬ p.1 = k' := fun z => hne (z.symm.trans hp)
        have h2 : ¬ k = k' := fun z => hne z.symm
        simp only [hp, if_true, h2, decide_false]
        clear ih
        induction ps with
        | nil => rfl
        | cons q ps ih2 =>
          rw [List.map_cons, List.find?_cons, List.find?_cons]
          by_cases hq : q.1 = k
          · simp only [hq, if_true, h2, decide_false]
            exact ih2 (by simp [hp])
          · rw [if_neg hq]
            by_cases hq2 : q.1 = k'
            · simp [hq2]
            · simp only [hq2, decide_false]
              exact ih2 (by simp [hp])
      · rw [if_neg hp]
        by_cases hp2 : p.1 = k'
        · simp [hp2]
        · simp only [hp2, decide_false]
          exact ih (by simpa [hp] using h)
  · unfold look
    rw [List.find?_append]
    cases hq : ps.find? (fun p => decide (p.1 = k')) with
    | some q => rfl
    | none =>
      have h2 : ¬ k = k' := fun z => hne z.symm
      simp [h2]
theorem put_length (ps : List (α × β)) (k : α) (v : β) : (put ps k v).length ≤ ps.length + 1 := by
  unfold put
  split <;> simp
variable (E : Enc α) (f : β → D)
theorem enc_get (ps : List (α × β)) (k : α) : dget (encL E f ps) (E.e k) = (look ps k).map f := by
  unfold dget look encL
  induction ps with
  | nil => rfl
  | cons p ps ih =>
    rw [List.map_cons, List.find?_cons, List.find?_cons, E.eq]
    by_cases h : p.1 = k
    · simp [h]
    · simpa [h] using ih
theorem enc_put (ps : List (α × β)) (k : α) (v : β) : dput (encL E f ps) (E.e k) (f v) = encL E f (put ps k v) := by
  have ha : ((encL E f ps).any fun p => eqD p.1 (E.e k)) = ps.any fun p => decide (p.1 = k) := by
    unfold encL
    rw [List.any_map]
    congr 1
    funext p
    exact E.eq _ _
  unfold dput put
  rw [ha]
  split
  · unfold encL
    rw [List.map_map, List.map_map]
    refine List.map_congr_left fun p _ => ?_
    show (if eqD (E.e p.1) (E.e k) = true then (E.e p.1, f v) else (E.e p.1, f p.2)) = _
    rw [E.eq]
    by_cases h : p.1 = k
    · simp [h]
    · simp [h]
  · unfold encL
    rw [List.map_append]
    rfl
theorem enc_in (ps : List (α × β)) (k : α) : keyIn (encL E f ps) (E.e k) = true := by
  unfold keyIn
  rw [E.ok, Bool.true_and, List.all_eq_true]
  intro p hp
  obtain ⟨q, _, rfl⟩ := List.mem_map.mp hp
  show (isTup (E.e q.1) == isTup (E.e k)) = true
  rw [E.tp, E.tp]
  exact beq_self_eq_true _
end
/-- a comprehension by an invariant over the items that are left and the list so far -/
theorem comp_inv {g : List (Nat × Cell)} {a : Nat} {step : D → Hm → (Option D → Hm → Prop) → Prop} {Q : Hm → Prop} (I : List D → List D → Hm → Prop) (hg : ∀ l acc h, I l acc h → still g h)
    (hs : ∀ x l acc h (R : Option D → Hm → Prop), I (x :: l) acc h → (∀ y h', h'[a]? = some (.lst acc) → acc.length < LIM → I l (acc ++ [y]) (h'.set a (.lst (acc ++ [y]))) → R (some y) h') → (∀ h', I l acc h' → R none h') → step x h R) (hQ : ∀ acc h, I [] acc h → Q h) :
    ∀ (xs acc : List D) (h : Hm), I xs acc h → compL g a step Q xs h
  | [], acc, h, hi => ⟨hg _ _ _ hi, hQ _ _ hi⟩
  | x :: xs, acc, h, hi => ⟨hg _ _ _ hi, hs x xs acc h _ hi (fun y h' e l hi' => by
      have em : getM h' a = some acc := by unfold getM; rw [e]
      show ws (getM h' a) _
      rw [em]
      exact ⟨l, comp_inv I hg hs hQ xs _ _ hi'⟩) fun h' hi' => comp_inv I hg hs hQ xs acc h' hi'⟩
/-! ### heaps that grow, one cell changing -/
structure MX (m : Nat) (h h' : Hm) : Prop where
  len : h.length ≤ h'.length
  at_ : ∀ i, i < h.length → i ≠ m → h'[i]? = h[i]?
theorem MX.refl (m : Nat) (h : Hm) : MX m h h := ⟨Nat.le_refl _, fun _ _ _ => rfl⟩
theorem MX.trans {m : Nat} {h h1 h2 : Hm} (a : MX m h h1) (b : MX m h1 h2) : MX m h h2 :=
  ⟨Nat.le_trans a.len b.len, fun i hi hm => (b.at_ i (Nat.lt_of_lt_of_le hi a.len) hm).trans (a.at_ i hi hm)⟩
theorem MX.pre {m : Nat} {h h' : Hm} (p : h <+: h') : MX m h h' := by
  obtain ⟨t, rfl⟩ := p
  exact ⟨by simp, fun i hi _ => List.getElem?_append_left hi⟩
theorem MX.set {m : Nat} {h h' : Hm} (a : MX m h h') (c : Cell) : MX m h (h'.set m c) :=
  ⟨by rw [List.length_set]; exact a.len, fun i hi hm => by rw [List.getElem?_set_ne (Ne.symm hm)]; exact a.at_ i hi hm⟩
/-- a cell made behind h changes -/
theorem MX.set_new {m : Nat} {h h' : Hm} (a : MX m h h') {i : Nat} (hi : h.length ≤ i) (c : Cell) : MX m h (h'.set i c) :=
  ⟨by rw [List.length_set]; exact a.len, fun j hj hm => by rw [List.getElem?_set_ne (by omega)]; exact a.at_ j hj hm⟩
theorem MX.cell {m : Nat} {h h' : Hm} (a : MX m h h') {i : Nat} {c : Cell} (e : h[i]? = some c) (hm : i ≠ m) : h'[i]? = some c := by
  rw [a.at_ i (List.getElem?_eq_some_iff.mp e).1 hm]; exact e
/-! ### all the parts of a list -/
def subs {α : Type} : List α → List (List α)
  | [] => [[]]
  | x :: xs => subs xs ++ (subs xs).map (x :: ·)
theorem subs_length {α : Type} : ∀ l : List α, (subs l).length = 2 ^ l.length
  | [] => rfl
  | x :: xs => by rw [subs, List.length_append, List.length_map, subs_length xs, List.length_cons, Nat.pow_succ]; omega
theorem mem_subs {α : Type} : ∀ {l s : List α}, s.Sublist l → s ∈ subs l
  | _, _, .slnil => by simp [subs]
  | _, _, .cons x h => by rw [subs]; exact List.mem_append_left _ (mem_subs h)
  | _, _, .cons₂ x h => by rw [subs]; exact List.mem_append_right _ (List.mem_map_of_mem (mem_subs h))
theorem put_keys {α β : Type} [DecidableEq α] (ps : List (α × β)) (k : α) (v : β) : (put ps k v).map (·.1) = if k ∈ ps.map (·.1) then ps.map (·.1) else ps.map (·.1) ++ [k] := by
  have e : (ps.any fun p => decide (p.1 = k)) = decide (k ∈ ps.map (·.1)) := by
    induction ps with
    | nil => rfl
    | cons p ps ih =>
      rw [List.any_cons, ih, List.map_cons]
      by_cases h : p.1 = k
      · simp [h]
      · have h2 : ¬ k = p.1 := fun z => h z.symm
        simp [h, h2]
  unfold put
  rw [e]
  by_cases h : k ∈ ps.map (·.1)
  · rw [if_pos (by simpa using h), if_pos h, List.map_map]
    refine List.map_congr_left fun p _ => ?_
    show (if p.1 = k then (p.1, v) else p).1 = p.1
    split <;> rfl
  · rw [if_neg (by simpa using h), if_neg h, List.map_append]
    rfl
theorem it_range {h : Hm} {j : Int} (h0 : -1000000 ≤ j) (h1 : j ≤ 1000000) : iterS .range [.int j] h = some (rngD 0 j.toNat, []) := by
  have : small j = true := by simp [small, h0, h1]
  simp [iterS, this]
theorem rng_drop {n j : Nat} (h : j < n) : (rngD 0 n).drop j = .int (j : Int) :: (rngD 0 n).drop (j + 1) := by
  have hl : (rngD 0 n).length = n := by simp [rngD]
  rw [List.drop_eq_getElem_cons (by rw [hl]; exact h)]
  congr 1
  simp [rngD]
theorem rng_end {n j : Nat} (h : n ≤ j) : (rngD 0 n).drop j = [] := List.drop_eq_nil_of_le (by simp [rngD]; exact h)
end M

end
section
set_option Elab.async false
set_option linter.all false
set_option autoImplicit false
/-! the defs of the law k47, in mini -/
namespace M47
open M
def D1 : Def := ⟨1, 1, [
  .ret (.and (.blt (.isi .int) [(.loc 0)]) (.not (.blt (.isi .bool) [(.loc 0)])))]⟩
def D2 : Def := ⟨3, 3, [
  .ret (.and (.call 1 [(.loc 0)] [] [0]) (.and (.cmp .ge (.loc 0) (.loc 1)) (.or (.cmp .is (.loc 2) (.lit .non)) (.cmp .le (.loc 0) (.loc 2)))))]⟩
def D3 : Def := ⟨2, 2, [
  .ret (.and (.blt (.isi .tuple) [(.loc 0)]) (.or (.cmp .is (.loc 1) (.lit .non)) (.cmp .eq (.blt .len [(.loc 0)]) (.loc 1))))]⟩
def D4 : Def := ⟨1, 3, [
  .ret (.blt .tuple [(.blt .sorted [(.dcomp [1, 2] (.tup [(.slot 1), (.slot 2)]) .val [(.loc 0)] [] (.loc 2) (.lit (.bl true)))])])]⟩
def D5 : Def := ⟨2, 7, [
  .asg (.slot 2) (.blt .sorted [(.dcomp [4, 5] (.tup [(.slot 4), (.slot 5)]) .val [(.loc 0)] [] (.idx (.loc 4) (.loc 1)) (.lit (.bl true)))]),
  .ret (.blt .tuple [(.comp [3] (.slot 3) .val [(.loc 2)] [] (.tup [(.loc 3), (.blt .tuple [(.comp [6] (.slot 6) .val [(.loc 0)] [(.cmp .eq (.idx (.idx (.loc 6) (.lit (.int (0)))) (.loc 1)) (.loc 3))] (.loc 6))])]))])]⟩
def D7 : Def := ⟨4, 4, [
  .ite (.cmp .lt (.blt .len [(.call 4 [(.loc 0)] [] [0])]) (.lit (.int (2)))) [
    .ret (.lit (.bl true))] [],
  .ite (.cmp .eq (.loc 2) (.lit (.int (0)))) [
    .ret (.lit (.bl false))] [],
  .ite (.cmp .notin (.tup [(.loc 0), (.loc 2)]) (.loc 3)) [
    .set (.loc 3) (.tup [(.loc 0), (.loc 2)]) (.cmp .isnt (.call 8 [(.loc 0), (.loc 1), (.loc 2), (.loc 3)] [] [0, 1, 2, 3]) (.lit .non))] [],
  .ret (.idx (.loc 3) (.tup [(.loc 0), (.loc 2)]))]⟩
def D8 : Def := ⟨4, 8, [
  .for_ (.slot 4) .range [(.loc 1)] [
    .asg (.slot 5) (.call 5 [(.loc 0), (.loc 4)] [] [0, 1]),
    .ite (.and (.cmp .gt (.blt .len [(.loc 5)]) (.lit (.int (1)))) (.blt .all [(.comp [6, 7] (.tup [(.slot 6), (.slot 7)]) .val [(.loc 5)] [] (.call 7 [(.loc 7), (.loc 1), (.bin .sub (.loc 2) (.lit (.int (1)))), (.loc 3)] [] [0, 1, 2, 3]))])) [
      .ret (.loc 4)] []],
  .ret (.lit .non)]⟩
def D29 : Def := ⟨5, 7, [
  .for_ (.tup [(.slot 5), (.slot 6)]) .val [(.call 5 [(.loc 0), (.loc 3)] [] [0, 1])] [
    .ite (.not (.call 7 [(.loc 6), (.loc 1), (.bin .sub (.loc 2) (.lit (.int (1)))), (.loc 4)] [] [0, 1, 2, 3])) [
      .ret (.tup [(.loc 5), (.loc 6)])] []],
  .ret (.lit .non)]⟩
def D30 : Def := ⟨3, 13, [
  .asg (.tup [(.slot 5), (.slot 6)]) (.tup [(.dct []), (.lst [])]),
  .ite (.call 7 [(.loc 0), (.loc 1), (.loc 2), (.loc 5)] [] [0, 1, 2, 3]) [
    .ret (.lit .non)] [],
  .asg (.slot 3) (.lst [(.tup [(.tup []), (.loc 0)])]),
  .for_ (.slot 4) .val [(.blt .rev [(.blt .lstRange [(.lit (.int (1))), (.bin .add (.loc 2) (.lit (.int (1))))])])] [
    .asg (.slot 7) (.lst []),
    .for_ (.tup [(.slot 8), (.slot 9)]) .val [(.loc 3)] [
      .for_ (.slot 10) .range [(.loc 1)] [
        .asg (.tup [(.slot 11), (.slot 12)]) (.call 29 [(.loc 9), (.loc 1), (.loc 4), (.loc 10), (.loc 5)] [] [0, 1, 2, 3, 4]),
        .expr (.meth .append (.loc 6) [(.tup [(.loc 8), (.loc 10), (.loc 11)])]),
        .expr (.meth .append (.loc 7) [(.tup [(.bin .add (.loc 8) (.tup [(.tup [(.loc 10), (.loc 11)])])), (.loc 12)])])]],
    .asg (.slot 3) (.loc 7)],
  .ret (.blt .tuple [(.loc 6)])]⟩
def D31 : Def := ⟨2, 2, [
  .ret (.and (.call 3 [(.loc 1), (.lit (.int (2)))] [] [0, 1]) (.and (.call 2 [(.idx (.loc 1) (.lit (.int (0)))), (.lit (.int (0))), (.bin .sub (.loc 0) (.lit (.int (1))))] [] [0, 1, 2]) (.call 2 [(.idx (.loc 1) (.lit (.int (1)))), (.lit (.int (0)))] [.non] [0, 1, 2])))]⟩
def D32 : Def := ⟨4, 14, [
  .ite (.or (.not (.call 3 [(.loc 3)] [.non] [0, 1])) (.not (.blt .all [(.comp [11] (.slot 11) .val [(.loc 3)] [] (.and (.call 3 [(.loc 11), (.lit (.int (3)))] [] [0, 1]) (.call 31 [(.loc 1), (.slc (.loc 11) (.lit (.int (1))) (.lit .non))] [] [0, 1])))]))) [
    .ret (.lit (.bl false))] [],
  .ite (.not (.blt .all [(.comp [11] (.slot 11) .val [(.loc 3)] [] (.and (.call 3 [(.idx (.loc 11) (.lit (.int (0))))] [.non] [0, 1]) (.blt .all [(.comp [13] (.slot 13) .val [(.idx (.loc 11) (.lit (.int (0))))] [] (.call 31 [(.loc 1), (.loc 13)] [] [0, 1]))])))])) [
    .ret (.lit (.bl false))] [],
  .asg (.tup [(.slot 5), (.slot 6)]) (.tup [(.dcomp [11] (.slot 11) .val [(.loc 3)] [] (.slc (.loc 11) (.lit .non) (.lit (.int (2)))) (.idx (.loc 11) (.lit (.int (2))))), (.lst [(.tup [(.tup []), (.loc 0)])])]),
  .ite (.cmp .ne (.blt .len [(.loc 5)]) (.blt .len [(.loc 3)])) [
    .ret (.lit (.bl false))] [],
  .for_ (.slot 4) .range [(.loc 2)] [
    .asg (.slot 7) (.lst []),
    .for_ (.tup [(.slot 8), (.slot 9)]) .val [(.loc 6)] [
      .for_ (.slot 10) .range [(.loc 1)] [
        .ite (.cmp .notin (.tup [(.loc 8), (.loc 10)]) (.loc 5)) [
          .ret (.lit (.bl false))] [],
        .asg (.slot 12) (.idx (.loc 5) (.tup [(.loc 8), (.loc 10)])),
        .expr (.meth .append (.loc 7) [(.tup [(.bin .add (.loc 8) (.tup [(.tup [(.loc 10), (.loc 12)])])), (.comp [11] (.slot 11) .val [(.loc 9)] [(.cmp .eq (.idx (.idx (.loc 11) (.lit (.int (0)))) (.loc 10)) (.loc 12))] (.loc 11))])])]],
    .asg (.slot 6) (.loc 7)],
  .ret (.blt .all [(.comp [8, 9] (.tup [(.slot 8), (.slot 9)]) .val [(.loc 6)] [] (.cmp .gt (.blt .len [(.call 4 [(.loc 9)] [] [0])]) (.lit (.int (1)))))])]⟩
def D16 : Def := ⟨2, 4, [
  .asg (.slot 2) (.bin .add (.bin .mul (.lit (.int (31013))) (.loc 1)) (.lit (.int (7103)))),
  .ite (.cmp .lt (.loc 1) (.blt .len [(.loc 0)])) [
    .asg (.slot 2) (.blt .abs [(.blt .int [(.idx (.loc 0) (.loc 1))])])] [
    .ite (.cmp .gt (.blt .len [(.loc 0)]) (.lit (.int (0)))) [
      .asg (.slot 2) (.bin .add (.loc 2) (.bin .mul (.bin .mod (.blt .int [(.blt .abs [(.blt .int [(.idx (.loc 0) (.bin .mod (.blt .int [(.loc 1)]) (.blt .len [(.loc 0)])))])])]) (.lit (.int (2147483563)))) (.lit (.int (92821)))))] []],
  .asg (.slot 3) (.ife (.cmp .ge (.loc 2) (.bin .pow (.lit (.int (10))) (.lit (.int (18))))) (.loc 2) (.lit (.int (0)))),
  .ret (.lst [(.loc 3), (.bin .add (.bin .mod (.blt .int [(.bin .add (.bin .mul (.bin .mod (.blt .int [(.loc 2)]) (.lit (.int (2147483563)))) (.lit (.int (54250033)))) (.bin .mul (.lit (.int (7103))) (.loc 1)))]) (.lit (.int (2147483563)))) (.lit (.int (1))))])]⟩
def D17 : Def := ⟨2, 4, [
  .ite (.cmp .gt (.idx (.loc 0) (.lit (.int (0)))) (.lit (.int (0)))) [
    .asg (.slot 3) (.bin .mod (.blt .int [(.idx (.loc 0) (.lit (.int (0))))]) (.loc 1)),
    .set (.loc 0) (.lit (.int (0))) (.bin .fdiv (.idx (.loc 0) (.lit (.int (0)))) (.loc 1)),
    .ret (.loc 3)] [],
  .asg (.slot 2) (.bin .mod (.blt .int [(.bin .add (.bin .mul (.idx (.loc 0) (.lit (.int (1)))) (.lit (.int (39373)))) (.lit (.int (233))))]) (.lit (.int (2147483647)))),
  .set (.loc 0) (.lit (.int (1))) (.bin .add (.bin .mod (.blt .int [(.bin .add (.bin .mul (.loc 2) (.lit (.int (40692)))) (.lit (.int (107))))]) (.lit (.int (2147483563)))) (.lit (.int (1)))),
  .ret (.bin .mod (.blt .int [(.bin .fdiv (.bin .add (.bin .mul (.loc 2) (.lit (.int (2147483629)))) (.idx (.loc 0) (.lit (.int (1))))) (.lit (.int (8287))))]) (.loc 1))]⟩
def D18 : Def := ⟨2, 2, [
  .ret (.idx (.loc 1) (.call 17 [(.loc 0), (.blt .len [(.loc 1)])] [] [0, 1]))]⟩
def D19 : Def := ⟨2, 4, [
  .ite (.blt (.isi .tuple) [(.loc 1)]) [
    .ite (.or (.not (.blt (.isi .tuple) [(.loc 0)])) (.cmp .ne (.blt .len [(.loc 0)]) (.blt .len [(.loc 1)]))) [
      .ret (.lit (.bl false))] [],
    .for_ (.tup [(.slot 2), (.slot 3)]) .zip [(.loc 0), (.loc 1)] [
      .ite (.not (.call 19 [(.loc 2), (.loc 3)] [] [0, 1])) [
        .ret (.lit (.bl false))] []],
    .ret (.lit (.bl true))] [],
  .ite (.cmp .is (.loc 1) (.lit .non)) [
    .ret (.cmp .is (.loc 0) (.lit .non))] [],
  .ite (.or (.cmp .is (.loc 1) (.lit (.bl true))) (.cmp .is (.loc 1) (.lit (.bl false)))) [
    .ret (.and (.blt (.isi .bool) [(.loc 0)]) (.cmp .eq (.loc 0) (.loc 1)))] [],
  .ite (.blt (.isi .int) [(.loc 1)]) [
    .ret (.and (.blt (.isi .int) [(.loc 0)]) (.and (.not (.blt (.isi .bool) [(.loc 0)])) (.cmp .eq (.loc 0) (.loc 1))))] [],
  .ret (.and (.blt (.isi .str) [(.loc 0)]) (.and (.blt (.isi .str) [(.loc 1)]) (.cmp .eq (.loc 0) (.loc 1))))]⟩
def D20 : Def := ⟨2, 5, [
  .asg (.slot 2) (.call 18 [(.loc 0), (.lst [(.lit .non), (.lit (.bl true)), (.lit (.bl false)), (.lit (.int (0))), (.lit (.int (1))), (.lit (.int (2))), (.lit (.int (3))), (.bin .sub (.lit (.int (0))) (.lit (.int (1)))), (.lit (.int (7))), (.tup []), (.tup [(.lit (.int (0)))]), (.tup [(.lit (.int (1)))]), (.tup [(.tup [])]), (.lit (.str [115, 104, 117, 116])), (.tup [(.lit (.str [104, 111, 108, 100, 115]))]), (.tup [(.lit (.str [115, 104, 117, 116])), (.lit (.int (0)))]), (.tup [(.lit (.str [115, 104, 117, 116])), (.lit (.int (1)))]), (.lit (.str [120])), (.lst [(.lit (.int (0)))])])] [] [0, 1]),
  .ite (.or (.not (.blt (.isi .tuple) [(.loc 1)])) (.or (.cmp .eq (.loc 1) (.tup [])) (.cmp .eq (.call 17 [(.loc 0), (.lit (.int (5)))] [] [0, 1]) (.lit (.int (0)))))) [
    .ret (.loc 2)] [],
  .asg (.tup [(.slot 3), (.slot 4)]) (.tup [(.call 17 [(.loc 0), (.blt .len [(.loc 1)])] [] [0, 1]), (.call 17 [(.loc 0), (.lit (.int (8)))] [] [0, 1])]),
  .ite (.cmp .eq (.loc 4) (.lit (.int (0)))) [
    .ret (.bin .add (.slc (.loc 1) (.lit .non) (.loc 3)) (.slc (.loc 1) (.bin .add (.loc 3) (.lit (.int (1)))) (.lit .non)))] [],
  .ite (.cmp .eq (.loc 4) (.lit (.int (1)))) [
    .ret (.bin .add (.bin .add (.slc (.loc 1) (.lit .non) (.loc 3)) (.tup [(.idx (.loc 1) (.loc 3))])) (.slc (.loc 1) (.loc 3) (.lit .non)))] [],
  .ite (.cmp .eq (.loc 4) (.lit (.int (2)))) [
    .ret (.bin .add (.bin .add (.slc (.loc 1) (.lit .non) (.loc 3)) (.tup [(.idx (.loc 1) (.call 17 [(.loc 0), (.blt .len [(.loc 1)])] [] [0, 1]))])) (.slc (.loc 1) (.bin .add (.loc 3) (.lit (.int (1)))) (.lit .non)))] [],
  .ret (.bin .add (.bin .add (.slc (.loc 1) (.lit .non) (.loc 3)) (.tup [(.call 20 [(.loc 0), (.idx (.loc 1) (.loc 3))] [] [0, 1])])) (.slc (.loc 1) (.bin .add (.loc 3) (.lit (.int (1)))) (.lit .non)))]⟩
def D21 : Def := ⟨2, 2, [
  .ret (.and (.blt (.isi .int) [(.loc 0)]) (.and (.not (.blt (.isi .bool) [(.loc 0)])) (.and (.cmp .le (.lit (.int (0))) (.loc 0)) (.or (.cmp .is (.loc 1) (.lit .non)) (.cmp .le (.loc 0) (.loc 1))))))]⟩
def D22 : Def := ⟨2, 4, [
  .ret (.comp [2] (.slot 2) .val [(.blt .sorted [(.blt .dict [(.comp [3] (.slot 3) .val [(.loc 0)] [] (.tup [(.idx (.idx (.loc 3) (.lit (.int (0)))) (.loc 1)), (.lit (.int (1)))]))])])] [] (.tup [(.loc 2), (.blt .tuple [(.comp [3] (.slot 3) .val [(.loc 0)] [(.cmp .eq (.idx (.idx (.loc 3) (.lit (.int (0)))) (.loc 1)) (.loc 2))] (.loc 3))])]))]⟩
def D23 : Def := ⟨3, 10, [
  .ite (.cmp .lt (.blt .len [(.blt .dict [(.comp [7] (.slot 7) .val [(.loc 0)] [] (.tup [(.idx (.loc 7) (.lit (.int (1)))), (.lit (.int (1)))]))])]) (.lit (.int (2)))) [
    .ret (.lit (.int (0)))] [],
  .ite (.cmp .notin (.loc 0) (.loc 2)) [
    .asg (.slot 3) (.lst []),
    .for_ (.slot 4) .range [(.loc 1)] [
      .asg (.slot 5) (.call 22 [(.loc 0), (.loc 4)] [] [0, 1]),
      .asg (.slot 6) (.ife (.cmp .gt (.blt .len [(.loc 5)]) (.lit (.int (1)))) (.comp [8, 9] (.tup [(.slot 8), (.slot 9)]) .val [(.loc 5)] [] (.call 23 [(.loc 9), (.loc 1), (.loc 2)] [] [0, 1, 2])) (.lst [(.lit .non)])),
      .ite (.cmp .notin (.lit .non) (.loc 6)) [
        .expr (.meth .append (.loc 3) [(.bin .add (.lit (.int (1))) (.blt .max1 [(.loc 6)]))])] []],
    .set (.loc 2) (.loc 0) (.ife (.cmp .ne (.loc 3) (.lst [])) (.blt .min1 [(.loc 3)]) (.lit .non))] [],
  .ret (.idx (.loc 2) (.loc 0))]⟩
def D26 : Def := ⟨2, 5, [
  .asg (.slot 2) (.dct []),
  .for_ (.slot 3) .range [(.bin .add (.lit (.int (1))) (.call 17 [(.loc 0), (.lit (.int (8)))] [] [0, 1]))] [
    .set (.loc 2) (.tup [(.blt .tuple [(.comp [4] (.slot 4) .range [(.loc 1)] [] (.call 17 [(.loc 0), (.lit (.int (3)))] [] [0, 1]))]), (.call 17 [(.loc 0), (.lit (.int (3)))] [] [0, 1])]) (.lit (.bl true))],
  .ret (.blt .tuple [(.blt .sorted [(.loc 2)])])]⟩
def D33 : Def := ⟨2, 2, [
  .ret (.and (.blt (.isi .tuple) [(.loc 1)]) (.and (.cmp .eq (.blt .len [(.loc 1)]) (.lit (.int (2)))) (.and (.call 21 [(.idx (.loc 1) (.lit (.int (0)))), (.bin .sub (.loc 0) (.lit (.int (1))))] [] [0, 1]) (.call 21 [(.idx (.loc 1) (.lit (.int (1)))), (.lit .non)] [] [0, 1]))))]⟩
def D34 : Def := ⟨4, 13, [
  .ite (.not (.blt (.isi .tuple) [(.loc 3)])) [
    .ret (.lit (.bl false))] [],
  .for_ (.slot 4) .val [(.loc 3)] [
    .ite (.or (.not (.blt (.isi .tuple) [(.loc 4)])) (.or (.cmp .ne (.blt .len [(.loc 4)]) (.lit (.int (3)))) (.or (.not (.blt (.isi .tuple) [(.idx (.loc 4) (.lit (.int (0))))])) (.or (.not (.call 33 [(.loc 1), (.slc (.loc 4) (.lit (.int (1))) (.lit .non))] [] [0, 1])) (.cmp .ne (.comp [12] (.slot 12) .val [(.idx (.loc 4) (.lit (.int (0))))] [(.not (.call 33 [(.loc 1), (.loc 12)] [] [0, 1]))] (.lit (.int (1)))) (.lst [])))))) [
      .ret (.lit (.bl false))] []],
  .ite (.cmp .ne (.blt .len [(.blt .dict [(.comp [4] (.slot 4) .val [(.loc 3)] [] (.tup [(.slc (.loc 4) (.lit .non) (.lit (.int (2)))), (.lit (.int (1)))]))])]) (.blt .len [(.loc 3)])) [
    .ret (.lit (.bl false))] [],
  .asg (.slot 5) (.lst [(.tup [(.tup []), (.loc 0)])]),
  .for_ (.slot 6) .range [(.loc 2)] [
    .asg (.slot 7) (.lst []),
    .for_ (.tup [(.slot 8), (.slot 9)]) .val [(.loc 5)] [
      .for_ (.slot 10) .range [(.loc 1)] [
        .asg (.slot 11) (.comp [4] (.slot 4) .val [(.loc 3)] [(.cmp .eq (.slc (.loc 4) (.lit .non) (.lit (.int (2)))) (.tup [(.loc 8), (.loc 10)]))] (.idx (.loc 4) (.lit (.int (2))))),
        .ite (.cmp .eq (.loc 11) (.lst [])) [
          .ret (.lit (.bl false))] [],
        .expr (.meth .append (.loc 7) [(.tup [(.bin .add (.loc 8) (.tup [(.tup [(.loc 10), (.idx (.loc 11) (.lit (.int (0))))])])), (.comp [4] (.slot 4) .val [(.loc 9)] [(.cmp .eq (.idx (.idx (.loc 4) (.lit (.int (0)))) (.loc 10)) (.idx (.loc 11) (.lit (.int (0)))))] (.loc 4))])])]],
    .asg (.slot 5) (.loc 7)],
  .ret (.cmp .eq (.comp [8, 9] (.tup [(.slot 8), (.slot 9)]) .val [(.loc 5)] [(.cmp .lt (.blt .len [(.blt .dict [(.comp [4] (.slot 4) .val [(.loc 9)] [] (.tup [(.idx (.loc 4) (.lit (.int (1)))), (.lit (.int (1)))]))])]) (.lit (.int (2))))] (.lit (.int (1)))) (.lst []))]⟩
def D35 : Def := ⟨3, 14, [
  .asg (.tup [(.slot 4), (.slot 5)]) (.tup [(.lst []), (.lst [(.tup [(.tup []), (.loc 0)])])]),
  .for_ (.slot 3) .range [(.loc 2)] [
    .asg (.slot 6) (.lst []),
    .for_ (.tup [(.slot 7), (.slot 8)]) .val [(.loc 5)] [
      .for_ (.slot 9) .range [(.loc 1)] [
        .asg (.slot 10) (.lst []),
        .for_ (.tup [(.slot 11), (.slot 12)]) .val [(.call 22 [(.loc 8), (.loc 9)] [] [0, 1])] [
          .asg (.slot 13) (.call 23 [(.loc 12), (.loc 1), (.dct [])] [] [0, 1, 2]),
          .asg (.slot 10) (.bin .add (.loc 10) (.ife (.or (.cmp .is (.loc 13) (.lit .non)) (.cmp .gt (.loc 13) (.bin .sub (.bin .sub (.loc 2) (.loc 3)) (.lit (.int (1)))))) (.lst [(.tup [(.loc 11), (.loc 12)])]) (.lst [])))],
        .expr (.meth .append (.loc 4) [(.tup [(.loc 7), (.loc 9), (.idx (.idx (.loc 10) (.bin .sub (.blt .len [(.loc 10)]) (.lit (.int (1))))) (.lit (.int (0))))])]),
        .expr (.meth .append (.loc 6) [(.tup [(.bin .add (.loc 7) (.tup [(.tup [(.loc 9), (.idx (.idx (.loc 10) (.bin .sub (.blt .len [(.loc 10)]) (.lit (.int (1))))) (.lit (.int (0))))])])), (.idx (.idx (.loc 10) (.bin .sub (.blt .len [(.loc 10)]) (.lit (.int (1))))) (.lit (.int (1))))])])]],
    .asg (.slot 5) (.loc 6)],
  .ret (.blt .tuple [(.loc 4)])]⟩
def D36 : Def := ⟨1, 12, [
  .for_ (.slot 1) .range [(.blt .max2 [(.lit (.int (3))), (.blt .min2 [(.blt .len [(.loc 0)]), (.lit (.int (6)))])])] [
    .asg (.slot 2) (.call 16 [(.loc 0), (.loc 1)] [] [0, 1]),
    .asg (.slot 3) (.bin .add (.lit (.int (1))) (.call 17 [(.loc 2), (.lit (.int (3)))] [] [0, 1])),
    .asg (.slot 4) (.call 26 [(.loc 2), (.loc 3)] [] [0, 1]),
    .asg (.slot 5) (.call 23 [(.loc 4), (.loc 3), (.dct [])] [] [0, 1, 2]),
    .for_ (.slot 6) .range [(.lit (.int (3)))] [
      .asg (.tup [(.slot 9), (.slot 10)]) (.tup [(.call 30 [(.loc 4), (.loc 3), (.loc 6)] [] [0, 1, 2]), (.or (.cmp .is (.loc 5) (.lit .non)) (.cmp .gt (.loc 5) (.loc 6)))]),
      .ite (.cmp .ne (.cmp .isnt (.loc 9) (.lit .non)) (.loc 10)) [
        .ret (.lit (.bl false))] [],
      .asg (.slot 7) (.ife (.loc 10) (.bin .add (.lst [(.loc 9), (.call 35 [(.loc 4), (.loc 3), (.loc 6)] [] [0, 1, 2])]) (.comp [11] (.slot 11) .range [(.lit (.int (5)))] [] (.call 20 [(.loc 2), (.loc 9)] [] [0, 1]))) (.lst [])),
      .ite (.and (.loc 10) (.or (.not (.call 34 [(.loc 4), (.loc 3), (.loc 6), (.loc 9)] [] [0, 1, 2, 3])) (.cmp .isnt (.call 32 [(.loc 4), (.loc 3), (.loc 6), (.idx (.loc 7) (.lit (.int (1))))] [] [0, 1, 2, 3]) (.lit (.bl true))))) [
        .ret (.lit (.bl false))] [],
      .for_ (.slot 8) .val [(.bin .add (.loc 7) (.lst [(.tup []), (.tup [(.tup [(.tup []), (.lit (.int (0))), (.lit (.int (0)))])]), (.lit .non)]))] [
        .ite (.not (.call 19 [(.call 32 [(.loc 4), (.loc 3), (.loc 6), (.loc 8)] [] [0, 1, 2, 3]), (.call 34 [(.loc 4), (.loc 3), (.loc 6), (.loc 8)] [] [0, 1, 2, 3])] [] [0, 1])) [
          .ret (.lit (.bl false))] []]]],
  .ret (.lit (.bl true))]⟩
def P : Prog := [(1, D1), (2, D2), (3, D3), (4, D4), (5, D5), (7, D7), (8, D8), (29, D29), (30, D30), (31, D31), (32, D32), (16, D16), (17, D17), (18, D18), (19, D19), (20, D20), (21, D21), (22, D22), (23, D23), (26, D26), (33, D33), (34, D34), (35, D35), (36, D36)]
end M47

end
section
set_option Elab.async false
set_option linter.all false
set_option autoImplicit false
namespace M47
open M
theorem take_spec {n : Nat} {h : Hm} {a : Nat} {b0 b1 many : Int} {Q : VQ} {E : XP} (hb : getM h a = some [.int b0, .int b1]) (hm : 0 < many) (hm2 : many < 1000000) (k : ∀ d c0 c1 : Int, 0 ≤ d → d < many → Q (.int d) (h.set a (.lst [.int c0, .int c1]))) : FW P (n + 1) 17 [.ref a, .int many] h Q E := by
  have ha := getM_at' hb
  have ha2 : ∀ xs : List D, (h.set a (.lst xs))[a]? = some (.lst xs) := fun xs => by
    have : a < h.length := (List.getElem?_eq_some_iff.mp ha).1
    rw [List.getElem?_set_self this]
  refine fw_open (d := D17) rfl rfl ?_
  unfold D17
  have m1 : -LINT < (39373 : Int) ∧ (39373 : Int) < LINT := by decide
  have m2 : -LINT < (40692 : Int) ∧ (40692 : Int) < LINT := by decide
  have m3 : -LINT < (2147483629 : Int) ∧ (2147483629 : Int) < LINT := by decide
  simp only [wpSs, wpS, wpE, wpEs, wpP, List.map, List.replicate, List.cons_append, List.nil_append, List.append_nil, List.getElem?_cons_zero, List.getElem?_cons_succ, jn, ws_some, idx_lst ha, at0, at1, c_gt, t_bl, b_int, o_add, List.length_cons, List.length_nil, List.set, o_mulR m1, o_mulR m2, o_mulR m3, o_mod hm, o_fdiv hm (by omega), o_mod (by decide : (0 : Int) < 2147483647), o_mod (by decide : (0 : Int) < 2147483563), o_fdiv (by decide : (0 : Int) < 8287) (by decide), s_lst ha ix00, s_lst ha ix01, idx_lst (ha2 _)]
  by_cases c : (0 : Int) < b0
  · simp only [c, decide_true, if_true]
    refine ⟨by simp, ?_⟩
    exact k _ _ _ (Int.emod_nonneg _ (by omega)) (Int.emod_lt_of_pos _ hm)
  · simp only [c, decide_false, Bool.false_eq_true, if_false]
    refine ⟨by simp, ?_⟩
    exact k _ _ _ (Int.emod_nonneg _ (by omega)) (Int.emod_lt_of_pos _ hm)
theorem pick_spec {n : Nat} {h : Hm} {a : Nat} {b0 b1 : Int} {some : D} {xs : List D} {Q : VQ} {E : XP} (hb : getM h a = Option.some [.int b0, .int b1]) (hs : some = .tup xs ∨ ∃ r, some = .ref r ∧ r ≠ a ∧ h[r]? = Option.some (.lst xs)) (h0 : xs ≠ []) (hl : xs.length < 1000000) (k : ∀ d ∈ xs, ∀ c0 c1 : Int, Q d (h.set a (.lst [.int c0, .int c1]))) : FW P (n + 2) 18 [.ref a, some] h Q E := by
  have hx : 0 < xs.length := List.length_pos_iff.mpr h0
  refine fw_open (d := D18) rfl rfl ?_
  unfold D18
  have fin : ∀ d c0 c1 : Int, 0 ≤ d → d < xs.length → ∀ x, atI xs d = Option.some x → Q x (h.set a (.lst [.int c0, .int c1])) := fun d c0 c1 h1 h2 x hx => by
    have : xs[d.toNat]? = Option.some xs[d.toNat] := List.getElem?_eq_getElem (by omega)
    rw [at_pos h1 this] at hx
    cases hx
    exact k _ (List.getElem_mem _) c0 c1
  have some_at : ∀ d : Int, 0 ≤ d → d < xs.length → ∃ x, atI xs d = Option.some x := fun d h1 h2 => ⟨xs[d.toNat]'(by omega), at_pos h1 (List.getElem?_eq_getElem (by omega))⟩
  rcases hs with rfl | ⟨r, rfl, hr, e⟩
  · simp only [wpSs, wpS, wpE, wpEs, wpCs, wpP, wpPs, List.map, List.replicate, List.cons_append, List.nil_append, List.append_nil, List.getElem?_cons_zero, List.getElem?_cons_succ, jn, ws_some, List.length_cons, List.length_nil, List.set, at0, at1, at2, idx_tup, c_gt, c_lt, c_le, c_ge, c_is, c_isnt, c_eqI, c_neI, c_eqS, c_neS, c_eqB, c_neB, isS, isNonD, isBlD, t_bl, b_int, b_abs, b_max2, b_min2, b_lenT, o_add, o_sub, permD, Option.map_some]
    refine take_spec hb (by omega) (by omega) fun d c0 c1 h1 h2 => ?_
    obtain ⟨x, hx⟩ := some_at d h1 h2
    rw [idx_tup, hx]
    exact fin d c0 c1 h1 h2 x hx
  · simp only [wpSs, wpS, wpE, wpEs, wpCs, wpP, wpPs, List.map, List.replicate, List.cons_append, List.nil_append, List.append_nil, List.getElem?_cons_zero, List.getElem?_cons_succ, jn, ws_some, List.length_cons, List.length_nil, List.set, at0, at1, at2, idx_tup, c_gt, c_lt, c_le, c_ge, c_is, c_isnt, c_eqI, c_neI, c_eqS, c_neS, c_eqB, c_neB, isS, isNonD, isBlD, t_bl, b_int, b_abs, b_max2, b_min2, b_lenT, o_add, o_sub, permD, Option.map_some, b_lenL e]
    refine take_spec hb (by omega) (by omega) fun d c0 c1 h1 h2 => ?_
    have e2 : (h.set a (.lst [.int c0, .int c1]))[r]? = Option.some (.lst xs) := by rw [List.getElem?_set_ne (Ne.symm hr)]; exact e
    obtain ⟨x, hx⟩ := some_at d h1 h2
    rw [idx_lst e2, hx]
    exact fin d c0 c1 h1 h2 x hx
theorem box_spec {n : Nat} {h : Hm} {c : Cell} {ns : List Int} {k : Int} {Q : VQ} {E : XP} (hc : h[0]? = some c) (cc : c = .lst (ns.map D.int) ∨ c = .ro (ns.map D.int)) (h0 : 0 ≤ k) (q : ∀ b0 b1 : Int, Q (.ref h.length) (h ++ [.lst [.int b0, .int b1]])) : FW P (n + 1) 16 [.ref 0, .int k] h Q E := by
  refine fw_open (d := D16) rfl rfl ?_
  unfold D16
  have m1 : -LINT < (31013 : Int) ∧ (31013 : Int) < LINT := by decide
  have m2 : -LINT < (92821 : Int) ∧ (92821 : Int) < LINT := by decide
  have m3 : -LINT < (54250033 : Int) ∧ (54250033 : Int) < LINT := by decide
  have m4 : -LINT < (7103 : Int) ∧ (7103 : Int) < LINT := by decide
  have p1 : (0 : Int) < 2147483563 := by decide
  simp only [wpSs, wpS, wpE, wpEs, wpCs, wpP, wpPs, List.map, List.replicate, List.cons_append, List.nil_append, List.append_nil, List.getElem?_cons_zero, List.getElem?_cons_succ, jn, ws_some, List.length_cons, List.length_nil, List.set, at0, at1, at2, idx_tup, c_gt, c_lt, c_le, c_ge, c_is, c_isnt, c_eqI, c_neI, c_eqS, c_neS, c_eqB, c_neB, isS, isNonD, isBlD, t_bl, b_int, b_abs, b_max2, b_min2, b_lenT, o_add, o_sub, permD, Option.map_some, o_mulL m1, b_lenC hc cc, List.length_map]
  refine ⟨by simp, ?_⟩
  by_cases c1 : k < (ns.length : Int)
  · simp only [wpSs, wpS, wpE, wpEs, wpCs, wpP, wpPs, List.map, List.replicate, List.cons_append, List.nil_append, List.append_nil, List.getElem?_cons_zero, List.getElem?_cons_succ, jn, ws_some, List.length_cons, List.length_nil, List.set, at0, at1, at2, idx_tup, c_gt, c_lt, c_le, c_ge, c_is, c_isnt, c_eqI, c_neI, c_eqS, c_neS, c_eqB, c_neB, isS, isNonD, isBlD, t_bl, b_int, b_abs, b_max2, b_min2, b_lenT, o_add, o_sub, permD, Option.map_some, c1, decide_true, if_true, idx_cell hc cc, at_ints h0 c1]
    refine ⟨by simp, ?_⟩
    simp only [wpSs, wpS, wpE, wpEs, wpCs, wpP, wpPs, List.map, List.replicate, List.cons_append, List.nil_append, List.append_nil, List.getElem?_cons_zero, List.getElem?_cons_succ, jn, ws_some, List.length_cons, List.length_nil, List.set, at0, at1, at2, idx_tup, c_gt, c_lt, c_le, c_ge, c_is, c_isnt, c_eqI, c_neI, c_eqS, c_neS, c_eqB, c_neB, isS, isNonD, isBlD, t_bl, b_int, b_abs, b_max2, b_min2, b_lenT, o_add, o_sub, permD, Option.map_some, o_pow10, o_mulR m3, o_mod p1, o_mulL m4]
    (repeat' split) <;> exact ⟨by simp, q _ _⟩
  · simp only [wpSs, wpS, wpE, wpEs, wpCs, wpP, wpPs, List.map, List.replicate, List.cons_append, List.nil_append, List.append_nil, List.getElem?_cons_zero, List.getElem?_cons_succ, jn, ws_some, List.length_cons, List.length_nil, List.set, at0, at1, at2, idx_tup, c_gt, c_lt, c_le, c_ge, c_is, c_isnt, c_eqI, c_neI, c_eqS, c_neS, c_eqB, c_neB, isS, isNonD, isBlD, t_bl, b_int, b_abs, b_max2, b_min2, b_lenT, o_add, o_sub, permD, Option.map_some, c1, decide_false, Bool.false_eq_true, if_false]
    by_cases c2 : (0 : Int) < ns.length
    · have c3 := Int.emod_nonneg k (by omega : (ns.length : Int) ≠ 0)
      have c4 := Int.emod_lt_of_pos k c2
      simp only [c2, decide_true, if_true, o_mod c2, idx_cell hc cc, at_ints c3 c4, wpSs, wpS, wpE, wpEs, wpCs, wpP, wpPs, List.map, List.replicate, List.cons_append, List.nil_append, List.append_nil, List.getElem?_cons_zero, List.getElem?_cons_succ, jn, ws_some, List.length_cons, List.length_nil, List.set, at0, at1, at2, idx_tup, c_gt, c_lt, c_le, c_ge, c_is, c_isnt, c_eqI, c_neI, c_eqS, c_neS, c_eqB, c_neB, isS, isNonD, isBlD, t_bl, b_int, b_abs, b_max2, b_min2, b_lenT, o_add, o_sub, permD, Option.map_some, o_mod p1, o_mulR m2]
      refine ⟨by simp, ?_⟩
      simp only [wpSs, wpS, wpE, wpEs, wpCs, wpP, wpPs, List.map, List.replicate, List.cons_append, List.nil_append, List.append_nil, List.getElem?_cons_zero, List.getElem?_cons_succ, jn, ws_some, List.length_cons, List.length_nil, List.set, at0, at1, at2, idx_tup, c_gt, c_lt, c_le, c_ge, c_is, c_isnt, c_eqI, c_neI, c_eqS, c_neS, c_eqB, c_neB, isS, isNonD, isBlD, t_bl, b_int, b_abs, b_max2, b_min2, b_lenT, o_add, o_sub, permD, Option.map_some, o_pow10, o_mulR m3, o_mod p1, o_mulL m4]
      (repeat' split) <;> exact ⟨by simp, q _ _⟩
    · simp only [c2, decide_false, Bool.false_eq_true, if_false]
      simp only [wpSs, wpS, wpE, wpEs, wpCs, wpP, wpPs, List.map, List.replicate, List.cons_append, List.nil_append, List.append_nil, List.getElem?_cons_zero, List.getElem?_cons_succ, jn, ws_some, List.length_cons, List.length_nil, List.set, at0, at1, at2, idx_tup, c_gt, c_lt, c_le, c_ge, c_is, c_isnt, c_eqI, c_neI, c_eqS, c_neS, c_eqB, c_neB, isS, isNonD, isBlD, t_bl, b_int, b_abs, b_max2, b_min2, b_lenT, o_add, o_sub, permD, Option.map_some, o_pow10, o_mulR m3, o_mod p1, o_mulL m4]
      (repeat' split) <;> exact ⟨by simp, q _ _⟩
theorem int_spec {n : Nat} {h : Hm} {d : D} {Q : VQ} {E : XP} (ok : okR h d) (q : Q (.bl (isInt d)) h) : FW P (n + 1) 1 [d] h Q E := by
  refine fw_open (d := D1) rfl rfl ?_
  unfold D1
  simp only [wpSs, wpS, wpE, wpEs, wpCs, wpP, wpPs, List.map, List.replicate, List.cons_append, List.nil_append, List.append_nil, List.getElem?_cons_zero, List.getElem?_cons_succ, jn, ws_some, List.length_cons, List.length_nil, List.set, at0, at1, at2, idx_tup, c_gt, c_lt, c_le, c_ge, c_is, c_isnt, c_eqI, c_neI, c_eqS, c_neS, c_eqB, c_neB, isS, isNonD, isBlD, t_bl, b_int, b_abs, b_max2, b_min2, b_lenT, o_add, o_sub, permD, Option.map_some, isi_ok ok]
  cases d <;> simp [kindB, isInt] at q ⊢ <;> exact q
theorem num_spec {n : Nat} {h : Hm} {d : D} {lo : Int} {hi : Option Int} {Q : VQ} {E : XP} (ok : okR h d) (q : Q (.bl (numB lo hi d)) h) : FW P (n + 2) 2 [d, .int lo, hiD hi] h Q E := by
  refine fw_open (d := D2) rfl rfl ?_
  unfold D2
  simp only [wpSs, wpS, wpE, wpEs, wpCs, wpP, wpPs, List.map, List.replicate, List.cons_append, List.nil_append, List.append_nil, List.getElem?_cons_zero, List.getElem?_cons_succ, jn, ws_some, List.length_cons, List.length_nil, List.set, at0, at1, at2, idx_tup, c_gt, c_lt, c_le, c_ge, c_is, c_isnt, c_eqI, c_neI, c_eqS, c_neS, c_eqB, c_neB, isS, isNonD, isBlD, t_bl, b_int, b_abs, b_max2, b_min2, b_lenT, o_add, o_sub, permD, Option.map_some]
  refine int_spec ok ?_
  simp only [t_bl, ws_some]
  cases d with
  | int i =>
    simp only [isInt, if_true, wpSs, wpS, wpE, wpEs, wpCs, wpP, wpPs, List.map, List.replicate, List.cons_append, List.nil_append, List.append_nil, List.getElem?_cons_zero, List.getElem?_cons_succ, jn, ws_some, List.length_cons, List.length_nil, List.set, at0, at1, at2, idx_tup, c_gt, c_lt, c_le, c_ge, c_is, c_isnt, c_eqI, c_neI, c_eqS, c_neS, c_eqB, c_neB, isS, isNonD, isBlD, t_bl, b_int, b_abs, b_max2, b_min2, b_lenT, o_add, o_sub, permD, Option.map_some]
    by_cases c : lo ≤ i
    · simp only [c, decide_true, if_true]
      cases hi with
      | none => simpa [hiD, wpSs, wpS, wpE, wpEs, wpCs, wpP, wpPs, List.map, List.replicate, List.cons_append, List.nil_append, List.append_nil, List.getElem?_cons_zero, List.getElem?_cons_succ, jn, ws_some, List.length_cons, List.length_nil, List.set, at0, at1, at2, idx_tup, c_gt, c_lt, c_le, c_ge, c_is, c_isnt, c_eqI, c_neI, c_eqS, c_neS, c_eqB, c_neB, isS, isNonD, isBlD, t_bl, b_int, b_abs, b_max2, b_min2, b_lenT, o_add, o_sub, permD, Option.map_some, numB, c] using q
      | some m => simpa [hiD, wpSs, wpS, wpE, wpEs, wpCs, wpP, wpPs, List.map, List.replicate, List.cons_append, List.nil_append, List.append_nil, List.getElem?_cons_zero, List.getElem?_cons_succ, jn, ws_some, List.length_cons, List.length_nil, List.set, at0, at1, at2, idx_tup, c_gt, c_lt, c_le, c_ge, c_is, c_isnt, c_eqI, c_neI, c_eqS, c_neS, c_eqB, c_neB, isS, isNonD, isBlD, t_bl, b_int, b_abs, b_max2, b_min2, b_lenT, o_add, o_sub, permD, Option.map_some, numB, c] using q
    · simp only [c, decide_false, Bool.false_eq_true, if_false]
      simpa [numB, c] using q
  | _ => simpa [isInt, numB] using q
theorem num2_spec {n : Nat} {h : Hm} {d : D} {hi : Option Int} {Q : VQ} {E : XP} (ok : okR h d) (q : Q (.bl (numB 0 hi d)) h) : FW P (n + 1) 21 [d, hiD hi] h Q E := by
  refine fw_open (d := D21) rfl rfl ?_
  unfold D21
  simp only [wpSs, wpS, wpE, wpEs, wpCs, wpP, wpPs, List.map, List.replicate, List.cons_append, List.nil_append, List.append_nil, List.getElem?_cons_zero, List.getElem?_cons_succ, jn, ws_some, List.length_cons, List.length_nil, List.set, at0, at1, at2, idx_tup, c_gt, c_lt, c_le, c_ge, c_is, c_isnt, c_eqI, c_neI, c_eqS, c_neS, c_eqB, c_neB, isS, isNonD, isBlD, t_bl, b_int, b_abs, b_max2, b_min2, b_lenT, o_add, o_sub, permD, Option.map_some, isi_ok ok]
  cases d with
  | int i =>
    simp only [kindB, wpSs, wpS, wpE, wpEs, wpCs, wpP, wpPs, List.map, List.replicate, List.cons_append, List.nil_append, List.append_nil, List.getElem?_cons_zero, List.getElem?_cons_succ, jn, ws_some, List.length_cons, List.length_nil, List.set, at0, at1, at2, idx_tup, c_gt, c_lt, c_le, c_ge, c_is, c_isnt, c_eqI, c_neI, c_eqS, c_neS, c_eqB, c_neB, isS, isNonD, isBlD, t_bl, b_int, b_abs, b_max2, b_min2, b_lenT, o_add, o_sub, permD, Option.map_some]
    by_cases c : (0 : Int) ≤ i
    · cases hi with
      | none => simpa [hiD, wpSs, wpS, wpE, wpEs, wpCs, wpP, wpPs, List.map, List.replicate, List.cons_append, List.nil_append, List.append_nil, List.getElem?_cons_zero, List.getElem?_cons_succ, jn, ws_some, List.length_cons, List.length_nil, List.set, at0, at1, at2, idx_tup, c_gt, c_lt, c_le, c_ge, c_is, c_isnt, c_eqI, c_neI, c_eqS, c_neS, c_eqB, c_neB, isS, isNonD, isBlD, t_bl, b_int, b_abs, b_max2, b_min2, b_lenT, o_add, o_sub, permD, Option.map_some, numB, c] using q
      | some m => simpa [hiD, wpSs, wpS, wpE, wpEs, wpCs, wpP, wpPs, List.map, List.replicate, List.cons_append, List.nil_append, List.append_nil, List.getElem?_cons_zero, List.getElem?_cons_succ, jn, ws_some, List.length_cons, List.length_nil, List.set, at0, at1, at2, idx_tup, c_gt, c_lt, c_le, c_ge, c_is, c_isnt, c_eqI, c_neI, c_eqS, c_neS, c_eqB, c_neB, isS, isNonD, isBlD, t_bl, b_int, b_abs, b_max2, b_min2, b_lenT, o_add, o_sub, permD, Option.map_some, numB, c] using q
    · simpa [numB, c] using q
  | bl b => simpa [kindB, numB] using q
  | _ => simpa [kindB, numB] using q
abbrev Rw := List Int × Int
def rowD (r : Rw) : D := .tup [.tup (r.1.map D.int), .int r.2]
def rowsD (rs : List Rw) : D := .tup (rs.map rowD)
/-- the answers, distinct, in order -/
def ans (rs : List Rw) : List Int := lin (rs.map (·.2))
theorem answers_spec {n : Nat} {h : Hm} {rs : List Rw} {Q : VQ} {E : XP} (hl : rs.length ≤ 1000) (q : ∀ h', h <+: h' → Q (.tup ((ans rs).map D.int)) h') : FW P (n + 1) 4 [rowsD rs] h Q E := by
  refine fw_open (d := D4) rfl rfl ?_
  unfold D4
  simp only [wpSs, wpS, wpE, wpEs, wpCs, wpP, wpPs, List.map, List.replicate, List.cons_append, List.nil_append, List.append_nil, List.getElem?_cons_zero, List.getElem?_cons_succ, jn, ws_some, List.length_cons, List.length_nil, List.set, at0, at1, at2, idx_tup, c_gt, c_lt, c_le, c_ge, c_is, c_isnt, c_eqI, c_neI, c_eqS, c_neS, c_eqB, c_neB, isS, isNonD, isBlD, t_bl, b_int, b_abs, b_max2, b_min2, b_lenT, o_add, o_sub, permD, Option.map_some, rowsD, it_tup]
  refine dcomp_new (fun x => match x with
    | .tup [_, b] => (b, .bl true)
    | _ => (.non, .bl true)) still_nil (by rw [List.length_map]; unfold LIM; omega) (fun x hx => ?_) (fun x hx h R p k => ?_) fun h' kvs p e1 e => ?_
  · obtain ⟨r, _, rfl⟩ := List.mem_map.mp hx
    rfl
  · obtain ⟨r, _, rfl⟩ := List.mem_map.mp hx
    simp only [rowD, wpSs, wpS, wpE, wpEs, wpCs, wpP, wpPs, List.map, List.replicate, List.cons_append, List.nil_append, List.append_nil, List.getElem?_cons_zero, List.getElem?_cons_succ, jn, ws_some, List.length_cons, List.length_nil, List.set, at0, at1, at2, idx_tup, c_gt, c_lt, c_le, c_ge, c_is, c_isnt, c_eqI, c_neI, c_eqS, c_neS, c_eqB, c_neB, isS, isNonD, isBlD, t_bl, b_int, b_abs, b_max2, b_min2, b_lenT, o_add, o_sub, permD, Option.map_some, wipeE]
    exact ⟨by simp, by simp, k h (List.prefix_refl _)⟩
  · have e2 : kvs.map (·.1) = ((rs.map (·.2)).foldl uq []).map D.int := by
      rw [e1, ← dk_ints, List.map_map, List.map_map]
      rfl
    rw [b_sortedD e e2]
    simp only [wpSs, wpS, wpE, wpEs, wpCs, wpP, wpPs, List.map, List.replicate, List.cons_append, List.nil_append, List.append_nil, List.getElem?_cons_zero, List.getElem?_cons_succ, jn, ws_some, List.length_cons, List.length_nil, List.set, at0, at1, at2, idx_tup, c_gt, c_lt, c_le, c_ge, c_is, c_isnt, c_eqI, c_neI, c_eqS, c_neS, c_eqB, c_neB, isS, isNonD, isBlD, t_bl, b_int, b_abs, b_max2, b_min2, b_lenT, o_add, o_sub, permD, Option.map_some]
    rw [b_tupleL last_at]
    exact q _ (p.trans pre_one)
/-- the value of an ask in a row -/
def col (a : Int) (r : Rw) : Int := r.1.getD a.toNat 0
def part (rs : List Rw) (a v : Int) : List Rw := rs.filter fun r => decide (col a r = v)
def parts (rs : List Rw) (a : Int) : List (Int × List Rw) := (lin (rs.map (col a))).map fun v => (v, part rs a v)
def partD (p : Int × List Rw) : D := .tup [.int p.1, rowsD p.2]
def WF (many : Int) (rs : List Rw) : Prop := ∀ r ∈ rs, (r.1.length : Int) = many
theorem col_at {many a : Int} {r : Rw} (hr : (r.1.length : Int) = many) (h0 : 0 ≤ a) (h1 : a < many) : atI (r.1.map D.int) a = some (.int (col a r)) := by
  have hl : a.toNat < r.1.length := by omega
  refine at_pos h0 ?_
  rw [List.getElem?_map, List.getElem?_eq_getElem hl, col, List.getD_eq_getElem?_getD, List.getElem?_eq_getElem hl]
  rfl
theorem fm_congr {α β : Type} {f g : α → Option β} : ∀ {l : List α}, (∀ x ∈ l, f x = g x) → l.filterMap f = l.filterMap g
  | [], _ => rfl
  | x :: l, h => by
    rw [List.filterMap_cons, List.filterMap_cons, h x List.mem_cons_self, fm_congr fun y hy => h y (List.mem_cons_of_mem _ hy)]
theorem filterMap_map {α β γ : Type} (f : α → β) (g : β → Option γ) : ∀ l : List α, (l.map f).filterMap g = l.filterMap fun x => g (f x)
  | [] => rfl
  | x :: l => by rw [List.map_cons, List.filterMap_cons, List.filterMap_cons, filterMap_map f g l]
theorem filterMap_some {α β : Type} (f : α → β) : ∀ l : List α, l.filterMap (fun x => some (f x)) = l.map f
  | [] => rfl
  | x :: l => by rw [List.filterMap_cons, List.map_cons, filterMap_some f l]
theorem filterMap_if {α β : Type} (p : α → Bool) (f : α → β) : ∀ l : List α, l.filterMap (fun x => if p x = true then some (f x) else none) = (l.filter p).map f
  | [] => rfl
  | x :: l => by
    rw [List.filterMap_cons, List.filter_cons]
    cases p x with
    | true => simp [filterMap_if p f l]
    | false => simp [filterMap_if p f l]
theorem insI_length (x : Int) : ∀ ys : List Int, (insI x ys).length = ys.length + 1
  | [] => rfl
  | y :: ys => by
    unfold insI
    split
    · rw [List.length_cons, insI_length x ys, List.length_cons]
    · rfl
theorem sortI_length : ∀ xs : List Int, (sortI xs).length = xs.length
  | [] => rfl
  | x :: xs => by rw [sortI, insI_length, sortI_length xs, List.length_cons]
theorem uq_length : ∀ (ks acc : List Int), (ks.foldl uq acc).length ≤ acc.length + ks.length
  | [], acc => by simp
  | k :: ks, acc => by
    have := uq_length ks (uq acc k)
    have h2 : (uq acc k).length ≤ acc.length + 1 := by unfold uq; split <;> simp
    rw [List.foldl_cons, List.length_cons]
    omega
theorem lin_length (ks : List Int) : (lin ks).length ≤ ks.length := by
  unfold lin
  rw [sortI_length]
  simpa using uq_length ks []
theorem parted_spec {n : Nat} {h : Hm} {rs : List Rw} {many a : Int} {Q : VQ} {E : XP} (hw : WF many rs) (h0 : 0 ≤ a) (h1 : a < many) (hl : rs.length ≤ 1000) (q : ∀ h', h <+: h' → Q (.tup ((parts rs a).map partD)) h') : FW P (n + 1) 5 [rowsD rs, .int a] h Q E := by
  refine fw_open (d := D5) rfl rfl ?_
  unfold D5
  simp only [wpSs, wpS, wpE, wpEs, wpCs, wpP, wpPs, List.map, List.replicate, List.cons_append, List.nil_append, List.append_nil, List.getElem?_cons_zero, List.getElem?_cons_succ, jn, ws_some, List.length_cons, List.length_nil, List.set, at0, at1, at2, idx_tup, c_gt, c_lt, c_le, c_ge, c_is, c_isnt, c_eqI, c_neI, c_eqS, c_neS, c_eqB, c_neB, isS, isNonD, isBlD, t_bl, b_int, b_abs, b_max2, b_min2, b_lenT, o_add, o_sub, permD, Option.map_some, rowsD, it_tup]
  refine dcomp_new (fun x => match x with
    | .tup [.tup ts, _] => ((atI ts a).getD .non, .bl true)
    | _ => (.non, .bl true)) still_nil (by rw [List.length_map]; unfold LIM; omega) (fun x hx => ?_) (fun x hx h R p k => ?_) fun h' kvs p e1 e => ?_
  · obtain ⟨r, hr, rfl⟩ := List.mem_map.mp hx
    simp only [rowD, col_at (hw r hr) h0 h1]
    rfl
  · obtain ⟨r, hr, rfl⟩ := List.mem_map.mp hx
    simp only [rowD, wpSs, wpS, wpE, wpEs, wpCs, wpP, wpPs, List.map, List.replicate, List.cons_append, List.nil_append, List.append_nil, List.getElem?_cons_zero, List.getElem?_cons_succ, jn, ws_some, List.length_cons, List.length_nil, List.set, at0, at1, at2, idx_tup, c_gt, c_lt, c_le, c_ge, c_is, c_isnt, c_eqI, c_neI, c_eqS, c_neS, c_eqB, c_neB, isS, isNonD, isBlD, t_bl, b_int, b_abs, b_max2, b_min2, b_lenT, o_add, o_sub, permD, Option.map_some, wipeE, col_at (hw r hr) h0 h1]
    refine ⟨by simp, by simp, ?_⟩
    have := k h (List.prefix_refl _)
    simp only [rowD, col_at (hw r hr) h0 h1] at this
    exact this
  · have e2 : kvs.map (·.1) = ((rs.map (col a)).foldl uq []).map D.int := by
      rw [e1, ← dk_ints, List.map_map, List.map_map]
      congr 1
      refine List.map_congr_left fun r hr => ?_
      simp only [Function.comp, rowD, col_at (hw r hr) h0 h1]
      rfl
    rw [b_sortedD e e2]
    simp only [wpSs, wpS, wpE, wpEs, wpCs, wpP, wpPs, List.map, List.replicate, List.cons_append, List.nil_append, List.append_nil, List.getElem?_cons_zero, List.getElem?_cons_succ, jn, ws_some, List.length_cons, List.length_nil, List.set, at0, at1, at2, idx_tup, c_gt, c_lt, c_le, c_ge, c_is, c_isnt, c_eqI, c_neI, c_eqS, c_neS, c_eqB, c_neB, isS, isNonD, isBlD, t_bl, b_int, b_abs, b_max2, b_min2, b_lenT, o_add, o_sub, permD, Option.map_some]
    refine ⟨by simp, ?_⟩
    rw [it_lst last_at]
    simp only [wpSs, wpS, wpE, wpEs, wpCs, wpP, wpPs, List.map, List.replicate, List.cons_append, List.nil_append, List.append_nil, List.getElem?_cons_zero, List.getElem?_cons_succ, jn, ws_some, List.length_cons, List.length_nil, List.set, at0, at1, at2, idx_tup, c_gt, c_lt, c_le, c_ge, c_is, c_isnt, c_eqI, c_neI, c_eqS, c_neS, c_eqB, c_neB, isS, isNonD, isBlD, t_bl, b_int, b_abs, b_max2, b_min2, b_lenT, o_add, o_sub, permD, Option.map_some]
    refine comp_new (fun x => match x with
      | .int v => some (partD (v, part rs a v))
      | _ => none) (still_one last_at) (by
        have := lin_length (rs.map (col a))
        unfold lin at this
        rw [List.length_map] at this
        rw [List.length_map]; unfold LIM; omega) (fun x hx h2 R p2 k => ?_) fun h2 p2 e3 => ?_
    · obtain ⟨v, _, rfl⟩ := List.mem_map.mp hx
      simp only [wpSs, wpS, wpE, wpEs, wpCs, wpP, wpPs, List.map, List.replicate, List.cons_append, List.nil_append, List.append_nil, List.getElem?_cons_zero, List.getElem?_cons_succ, jn, ws_some, List.length_cons, List.length_nil, List.set, at0, at1, at2, idx_tup, c_gt, c_lt, c_le, c_ge, c_is, c_isnt, c_eqI, c_neI, c_eqS, c_neS, c_eqB, c_neB, isS, isNonD, isBlD, t_bl, b_int, b_abs, b_max2, b_min2, b_lenT, o_add, o_sub, permD, Option.map_some, wipeE, it_tup]
      refine ⟨by simp, ?_⟩
      refine comp_new (fun x => match x with
        | .tup [.tup ts, b] => if ((atI ts a).any fun y => match y with | .int z => decide (z = v) | _ => false) = true then some x else none
        | _ => none) still_nil (by rw [List.length_map]; unfold LIM; omega) (fun y hy h3 R' p3 k' => ?_) fun h3 p3 e4 => ?_
      · obtain ⟨r, hr, rfl⟩ := List.mem_map.mp hy
        simp only [rowD, wpSs, wpS, wpE, wpEs, wpCs, wpP, wpPs, List.map, List.replicate, List.cons_append, List.nil_append, List.append_nil, List.getElem?_cons_zero, List.getElem?_cons_succ, jn, ws_some, List.length_cons, List.length_nil, List.set, at0, at1, at2, idx_tup, c_gt, c_lt, c_le, c_ge, c_is, c_isnt, c_eqI, c_neI, c_eqS, c_neS, c_eqB, c_neB, isS, isNonD, isBlD, t_bl, b_int, b_abs, b_max2, b_min2, b_lenT, o_add, o_sub, permD, Option.map_some, wipeE, col_at (hw r hr) h0 h1]
        refine ⟨by simp, ?_⟩
        have := k' h3 (List.prefix_refl _)
        simp only [rowD, col_at (hw r hr) h0 h1, Option.any_some] at this
        by_cases c : col a r = v
        · simp only [c, decide_true, if_true] at this ⊢
          exact this
        · simp only [c, decide_false, Bool.false_eq_true, if_false] at this ⊢
          exact this
      · rw [b_tupleL e4]
        simp only [wpSs, wpS, wpE, wpEs, wpCs, wpP, wpPs, List.map, List.replicate, List.cons_append, List.nil_append, List.append_nil, List.getElem?_cons_zero, List.getElem?_cons_succ, jn, ws_some, List.length_cons, List.length_nil, List.set, at0, at1, at2, idx_tup, c_gt, c_lt, c_le, c_ge, c_is, c_isnt, c_eqI, c_neI, c_eqS, c_neS, c_eqB, c_neB, isS, isNonD, isBlD, t_bl, b_int, b_abs, b_max2, b_min2, b_lenT, o_add, o_sub, permD, Option.map_some]
        have e5 : (rs.map rowD).filterMap (fun x => match x with
          | .tup [.tup ts, b] => if ((atI ts a).any fun y => match y with | .int z => decide (z = v) | _ => false) = true then some x else none
          | _ => none) = (part rs a v).map rowD := by
          rw [filterMap_map]
          unfold part
          rw [← filterMap_if]
          refine fm_congr fun r hr => ?_
          simp only [rowD, col_at (hw r hr) h0 h1, Option.any_some]
        rw [e5]
        exact k h3 p3
    · rw [b_tupleL e3]
      have e6 : ((sortI ((rs.map (col a)).foldl uq [])).map D.int).filterMap (fun x => match x with
        | .int v => some (partD (v, part rs a v))
        | _ => none) = (parts rs a).map partD := by
        rw [filterMap_map, filterMap_some, parts, List.map_map]
        rfl
      rw [e6]
      exact q h2 (p.trans (pre_one.trans p2))
theorem parts_spec {n : Nat} {h : Hm} {rs : List Rw} {many a : Int} {Q : VQ} {E : XP} (hw : WF many rs) (h0 : 0 ≤ a) (h1 : a < many) (hl : rs.length ≤ 1000) (q : ∀ h' r, h <+: h' → h'[r]? = some (.lst ((parts rs a).map partD)) → h.length ≤ r → Q (.ref r) h') : FW P (n + 1) 22 [rowsD rs, .int a] h Q E := by
  refine fw_open (d := D22) rfl rfl ?_
  unfold D22
  simp only [wpSs, wpS, wpE, wpEs, wpCs, wpP, wpPs, List.map, List.replicate, List.cons_append, List.nil_append, List.append_nil, List.getElem?_cons_zero, List.getElem?_cons_succ, jn, ws_some, List.length_cons, List.length_nil, List.set, at0, at1, at2, idx_tup, c_gt, c_lt, c_le, c_ge, c_is, c_isnt, c_eqI, c_neI, c_eqS, c_neS, c_eqB, c_neB, isS, isNonD, isBlD, t_bl, b_int, b_abs, b_max2, b_min2, b_lenT, o_add, o_sub, permD, Option.map_some, rowsD, it_tup]
  refine comp_new (fun x => match x with
    | .tup [.tup ts, _] => some (.tup [(atI ts a).getD .non, .int 1])
    | _ => none) still_nil (by rw [List.length_map]; unfold LIM; omega) (fun x hx h R p k => ?_) fun h' p e => ?_
  · obtain ⟨r, hr, rfl⟩ := List.mem_map.mp hx
    simp only [rowD, wpSs, wpS, wpE, wpEs, wpCs, wpP, wpPs, List.map, List.replicate, List.cons_append, List.nil_append, List.append_nil, List.getElem?_cons_zero, List.getElem?_cons_succ, jn, ws_some, List.length_cons, List.length_nil, List.set, at0, at1, at2, idx_tup, c_gt, c_lt, c_le, c_ge, c_is, c_isnt, c_eqI, c_neI, c_eqS, c_neS, c_eqB, c_neB, isS, isNonD, isBlD, t_bl, b_int, b_abs, b_max2, b_min2, b_lenT, o_add, o_sub, permD, Option.map_some, wipeE, col_at (hw r hr) h0 h1]
    refine ⟨by simp, ?_⟩
    have := k h (List.prefix_refl _)
    simp only [rowD, col_at (hw r hr) h0 h1] at this
    exact this
  · have e1 : (rs.map rowD).filterMap (fun x => match x with
      | .tup [.tup ts, _] => some (.tup [(atI ts a).getD .non, .int 1])
      | _ => none) = (rs.map fun r => (D.int (col a r), D.int 1)).map fun p => D.tup [p.1, p.2] := by
      rw [filterMap_map, List.map_map, ← filterMap_some]
      refine fm_congr fun r hr => ?_
      simp only [rowD, col_at (hw r hr) h0 h1]
      rfl
    rw [e1] at e
    obtain ⟨kvs, e2, e3⟩ := b_dictL e (by rw [List.length_map]; unfold LIM; omega) fun p hp => by
      obtain ⟨r, _, rfl⟩ := List.mem_map.mp hp
      rfl
    rw [e2]
    have e4 : kvs.map (·.1) = ((rs.map (col a)).foldl uq []).map D.int := by
      rw [e3, ← dk_ints, List.map_map, List.map_map]
      rfl
    simp only [ws_some]
    rw [b_sortedD last_at e4]
    simp only [wpSs, wpS, wpE, wpEs, wpCs, wpP, wpPs, List.map, List.replicate, List.cons_append, List.nil_append, List.append_nil, List.getElem?_cons_zero, List.getElem?_cons_succ, jn, ws_some, List.length_cons, List.length_nil, List.set, at0, at1, at2, idx_tup, c_gt, c_lt, c_le, c_ge, c_is, c_isnt, c_eqI, c_neI, c_eqS, c_neS, c_eqB, c_neB, isS, isNonD, isBlD, t_bl, b_int, b_abs, b_max2, b_min2, b_lenT, o_add, o_sub, permD, Option.map_some]
    rw [it_lst last_at]
    simp only [wpSs, wpS, wpE, wpEs, wpCs, wpP, wpPs, List.map, List.replicate, List.cons_append, List.nil_append, List.append_nil, List.getElem?_cons_zero, List.getElem?_cons_succ, jn, ws_some, List.length_cons, List.length_nil, List.set, at0, at1, at2, idx_tup, c_gt, c_lt, c_le, c_ge, c_is, c_isnt, c_eqI, c_neI, c_eqS, c_neS, c_eqB, c_neB, isS, isNonD, isBlD, t_bl, b_int, b_abs, b_max2, b_min2, b_lenT, o_add, o_sub, permD, Option.map_some]
    refine comp_new (fun x => match x with
      | .int v => some (partD (v, part rs a v))
      | _ => none) (still_one last_at) (by
        have := lin_length (rs.map (col a))
        unfold lin at this
        rw [List.length_map] at this
        rw [List.length_map]; unfold LIM; omega) (fun x hx h2 R p2 k => ?_) fun h2 p2 e5 => ?_
    · obtain ⟨v, _, rfl⟩ := List.mem_map.mp hx
      simp only [wpSs, wpS, wpE, wpEs, wpCs, wpP, wpPs, List.map, List.replicate, List.cons_append, List.nil_append, List.append_nil, List.getElem?_cons_zero, List.getElem?_cons_succ, jn, ws_some, List.length_cons, List.length_nil, List.set, at0, at1, at2, idx_tup, c_gt, c_lt, c_le, c_ge, c_is, c_isnt, c_eqI, c_neI, c_eqS, c_neS, c_eqB, c_neB, isS, isNonD, isBlD, t_bl, b_int, b_abs, b_max2, b_min2, b_lenT, o_add, o_sub, permD, Option.map_some, wipeE, it_tup]
      refine ⟨by simp, ?_⟩
      refine comp_new (fun x => match x with
        | .tup [.tup ts, b] => if ((atI ts a).any fun y => match y with | .int z => decide (z = v) | _ => false) = true then some x else none
        | _ => none) still_nil (by rw [List.length_map]; unfold LIM; omega) (fun y hy h3 R' p3 k' => ?_) fun h3 p3 e4 => ?_
      · obtain ⟨r, hr, rfl⟩ := List.mem_map.mp hy
        simp only [rowD, wpSs, wpS, wpE, wpEs, wpCs, wpP, wpPs, List.map, List.replicate, List.cons_append, List.nil_append, List.append_nil, List.getElem?_cons_zero, List.getElem?_cons_succ, jn, ws_some, List.length_cons, List.length_nil, List.set, at0, at1, at2, idx_tup, c_gt, c_lt, c_le, c_ge, c_is, c_isnt, c_eqI, c_neI, c_eqS, c_neS, c_eqB, c_neB, isS, isNonD, isBlD, t_bl, b_int, b_abs, b_max2, b_min2, b_lenT, o_add, o_sub, permD, Option.map_some, wipeE, col_at (hw r hr) h0 h1]
        refine ⟨by simp, ?_⟩
        have := k' h3 (List.prefix_refl _)
        simp only [rowD, col_at (hw r hr) h0 h1, Option.any_some] at this
        by_cases c : col a r = v
        · simp only [c, decide_true, if_true] at this ⊢
          exact this
        · simp only [c, decide_false, Bool.false_eq_true, if_false] at this ⊢
          exact this
      · rw [b_tupleL e4]
        simp only [wpSs, wpS, wpE, wpEs, wpCs, wpP, wpPs, List.map, List.replicate, List.cons_append, List.nil_append, List.append_nil, List.getElem?_cons_zero, List.getElem?_cons_succ, jn, ws_some, List.length_cons, List.length_nil, List.set, at0, at1, at2, idx_tup, c_gt, c_lt, c_le, c_ge, c_is, c_isnt, c_eqI, c_neI, c_eqS, c_neS, c_eqB, c_neB, isS, isNonD, isBlD, t_bl, b_int, b_abs, b_max2, b_min2, b_lenT, o_add, o_sub, permD, Option.map_some]
        have e5 : (rs.map rowD).filterMap (fun x => match x with
          | .tup [.tup ts, b] => if ((atI ts a).any fun y => match y with | .int z => decide (z = v) | _ => false) = true then some x else none
          | _ => none) = (part rs a v).map rowD := by
          rw [filterMap_map]
          unfold part
          rw [← filterMap_if]
          refine fm_congr fun r hr => ?_
          simp only [rowD, col_at (hw r hr) h0 h1, Option.any_some]
        rw [e5]
        exact k h3 p3
    · have e6 : ((sortI ((rs.map (col a)).foldl uq [])).map D.int).filterMap (fun x => match x with
        | .int v => some (partD (v, part rs a v))
        | _ => none) = (parts rs a).map partD := by
        rw [filterMap_map, filterMap_some, parts, List.map_map]
        rfl
      rw [e6] at e5
      have p5 : h <+: h2 := p.trans (pre_one.trans (pre_one.trans p2))
      refine q h2 _ p5 e5 ?_
      obtain ⟨t, rfl⟩ := p
      simp
theorem eqDs_ints : ∀ a b : List Int, eqDs (a.map D.int) (b.map D.int) = decide (a = b)
  | [], [] => rfl
  | [], _ :: _ => rfl
  | _ :: _, [] => rfl
  | x :: a, y :: b => by
    rw [List.map_cons, List.map_cons, eqDs, eqDs_ints a b]
    simp only [eqD, List.cons.injEq]
    by_cases h : x = y <;> by_cases h2 : a = b <;> simp [h, h2]
theorem eqD_row (a b : Rw) : eqD (rowD a) (rowD b) = decide (a = b) := by
  obtain ⟨a1, a2⟩ := a
  obtain ⟨b1, b2⟩ := b
  simp only [rowD, eqD, eqDs, eqDs_ints, Bool.and_true]
  by_cases h : a1 = b1 <;> by_cases h2 : a2 = b2 <;> simp [h, h2]
theorem eqDs_rows : ∀ a b : List Rw, eqDs (a.map rowD) (b.map rowD) = decide (a = b)
  | [], [] => rfl
  | [], _ :: _ => rfl
  | _ :: _, [] => rfl
  | x :: a, y :: b => by
    rw [List.map_cons, List.map_cons, eqDs, eqDs_rows a b, eqD_row]
    by_cases h : x = y <;> by_cases h2 : a = b <;> simp [h, h2]
theorem rows_pure : ∀ a : List Rw, pureDs (a.map rowD) = true ∧ deps (a.map rowD) ≤ 2
  | [] => ⟨rfl, Nat.zero_le _⟩
  | x :: a => by
    obtain ⟨h1, h2⟩ := rows_pure a
    obtain ⟨h3, h4⟩ := pure_ints x.1
    refine ⟨by simp [rowD, pureDs, pureD, h1, h3], ?_⟩
    simp only [List.map_cons, deps, rowD, dep, h4]
    omega
def encR : Enc (List Rw) where
  e := rowsD
  eq := fun a b => by simp only [rowsD, eqD]; exact eqDs_rows a b
  ok := fun a => by
    obtain ⟨h1, h2⟩ := rows_pure a
    simp only [rowsD, keyOK, h1, Bool.true_and, decide_eq_true_eq]
    omega
  tup := true
  tp := fun _ => rfl
def encRD : Enc (List Rw × Int) where
  e := fun p => .tup [rowsD p.1, .int p.2]
  eq := fun a b => by
    obtain ⟨a1, a2⟩ := a
    obtain ⟨b1, b2⟩ := b
    simp only [rowsD, eqD, eqDs, eqDs_rows, Bool.and_true]
    by_cases h : a1 = b1 <;> by_cases h2 : a2 = b2 <;> simp [h, h2]
  ok := fun a => by
    obtain ⟨h1, h2⟩ := rows_pure a.1
    simp only [rowsD, keyOK, pureDs, pureD, h1, deps, dep, Bool.true_and, Bool.and_true, decide_eq_true_eq]
    omega
  tup := true
  tp := fun _ => rfl
/-- two rows alike in what they are told, unlike in the answer -/
def conf (rs : List Rw) : Prop := ∃ r ∈ rs, ∃ s ∈ rs, r.1 = s.1 ∧ r.2 ≠ s.2
def isI (j : Int) : D → Bool
  | .int i => decide (i = j)
  | _ => false
def isBb (b : Bool) : D → Bool
  | .bl c => c == b
  | _ => false
theorem same_int {n : Nat} {h : Hm} {d : D} {j : Int} {Q : VQ} {E : XP} (ok : okR h d) (q : Q (.bl (isI j d)) h) : FW P (n + 1) 19 [d, .int j] h Q E := by
  refine fw_open (d := D19) rfl rfl ?_
  unfold D19
  have o2 : okR h (.int j) := trivial
  simp only [wpSs, wpS, wpE, wpEs, wpCs, wpP, wpPs, List.map, List.replicate, List.cons_append, List.nil_append, List.append_nil, List.getElem?_cons_zero, List.getElem?_cons_succ, jn, ws_some, List.length_cons, List.length_nil, List.set, at0, at1, at2, idx_tup, c_gt, c_lt, c_le, c_ge, c_is, c_isnt, c_eqI, c_neI, c_eqS, c_neS, c_eqB, c_neB, isS, isNonD, isBlD, t_bl, b_int, b_abs, b_max2, b_min2, b_lenT, o_add, o_sub, permD, Option.map_some, isi_ok ok, isi_ok o2, kindB]
  simp only [decide_eq_true_eq, reduceCtorEq, decide_false, or_self, or_false, or_true, decide_true, Bool.false_eq_true, if_false, if_true]
  cases d with
  | int i => simpa [kindB, isI, c_eqI] using q
  | bl b => simpa [kindB, isI] using q
  | _ => simpa [kindB, isI] using q
theorem same_bool {n : Nat} {h : Hm} {d : D} {b : Bool} {Q : VQ} {E : XP} (ok : okR h d) (q : Q (.bl (isBb b d)) h) : FW P (n + 1) 19 [d, .bl b] h Q E := by
  refine fw_open (d := D19) rfl rfl ?_
  unfold D19
  have o2 : okR h (.bl b) := trivial
  simp only [wpSs, wpS, wpE, wpEs, wpCs, wpP, wpPs, List.map, List.replicate, List.cons_append, List.nil_append, List.append_nil, List.getElem?_cons_zero, List.getElem?_cons_succ, jn, ws_some, List.length_cons, List.length_nil, List.set, at0, at1, at2, idx_tup, c_gt, c_lt, c_le, c_ge, c_is, c_isnt, c_eqI, c_neI, c_eqS, c_neS, c_eqB, c_neB, isS, isNonD, isBlD, t_bl, b_int, b_abs, b_max2, b_min2, b_lenT, o_add, o_sub, permD, Option.map_some, isi_ok ok, isi_ok o2, kindB]
  cases b with
  | true =>
    cases d with
    | bl c => simpa [kindB, isBb, c_eqB] using q
    | _ => simpa [kindB, isBb] using q
  | false =>
    cases d with
    | bl c => simpa [kindB, isBb, c_eqB] using q
    | _ => simpa [kindB, isBb] using q
theorem mem_uq : ∀ (ks acc : List Int) (x : Int), x ∈ ks.foldl uq acc ↔ x ∈ acc ∨ x ∈ ks
  | [], acc, x => by simp
  | k :: ks, acc, x => by
    rw [List.foldl_cons, mem_uq ks]
    unfold uq
    split
    · rename_i h
      constructor
      · rintro (a | a)
        · exact .inl a
        · exact .inr (List.mem_cons_of_mem _ a)
      · rintro (a | a)
        · exact .inl a
        · rcases List.mem_cons.mp a with rfl | a
          · exact .inl h
          · exact .inr a
    · simp [or_assoc]
theorem nodup_uq : ∀ (ks acc : List Int), acc.Nodup → (ks.foldl uq acc).Nodup
  | [], acc, h => h
  | k :: ks, acc, h => by
    rw [List.foldl_cons]
    refine nodup_uq ks _ ?_
    unfold uq
    split
    · exact h
    · rename_i hk
      rw [List.nodup_append]
      exact ⟨h, by simp, fun a ha b hb e => hk (by rw [← List.mem_singleton.mp hb, ← e]; exact ha)⟩
theorem insI_perm (x : Int) : ∀ ys : List Int, (insI x ys).Perm (x :: ys)
  | [] => .refl _
  | y :: ys => by
    unfold insI
    split
    · exact ((insI_perm x ys).cons y).trans (.swap x y ys)
    · exact .refl _
theorem sortI_perm : ∀ xs : List Int, (sortI xs).Perm xs
  | [] => .refl _
  | x :: xs => by
    rw [sortI]
    exact (insI_perm x _).trans ((sortI_perm xs).cons x)
theorem mem_lin {ks : List Int} {x : Int} : x ∈ lin ks ↔ x ∈ ks := by
  unfold lin
  rw [(sortI_perm _).mem_iff, mem_uq]
  simp
theorem nodup_lin (ks : List Int) : (lin ks).Nodup := (sortI_perm _).nodup_iff.mpr (nodup_uq ks [] List.nodup_nil)
theorem mem_parts {rs : List Rw} {a : Int} {p : Int × List Rw} : p ∈ parts rs a ↔ p.2 = part rs a p.1 ∧ ∃ r ∈ rs, col a r = p.1 := by
  unfold parts
  rw [List.mem_map]
  constructor
  · rintro ⟨v, hv, rfl⟩
    rw [mem_lin, List.mem_map] at hv
    exact ⟨rfl, hv⟩
  · rintro ⟨h1, h2⟩
    exact ⟨p.1, by rw [mem_lin, List.mem_map]; exact h2, by rw [← h1]⟩
theorem mem_part {rs : List Rw} {a v : Int} {r : Rw} : r ∈ part rs a v ↔ r ∈ rs ∧ col a r = v := by
  unfold part
  rw [List.mem_filter, decide_eq_true_eq]
theorem part_sub {rs : List Rw} {a v : Int} : (part rs a v).Sublist rs := List.filter_sublist
theorem lin_two {ks : List Int} (h : 1 < (lin ks).length) (v : Int) : ∃ w ∈ ks, w ≠ v := by
  apply Classical.byContradiction
  intro hn
  have : ∀ x ∈ lin ks, x = v := fun x hx => Classical.byContradiction fun z => hn ⟨x, mem_lin.mp hx, z⟩
  have h2 : (lin ks).length ≤ [v].length := (nodup_lin ks).length_le_of_subset fun x hx => by rw [this x hx]; simp
  simp at h2
  omega
theorem part_lt {rs : List Rw} {a v : Int} (h : 1 < (parts rs a).length) : (part rs a v).length < rs.length := by
  unfold parts at h
  rw [List.length_map] at h
  obtain ⟨w, hw, hne⟩ := lin_two h v
  obtain ⟨r, hr, rfl⟩ := List.mem_map.mp hw
  have h1 := (part_sub (rs := rs) (a := a) (v := v)).length_le
  rcases Nat.lt_or_ge (part rs a v).length rs.length with h2 | h2
  · exact h2
  · have := (part_sub (rs := rs) (a := a) (v := v)).eq_of_length (by omega)
    rw [← this] at hr
    exact absurd (mem_part.mp hr).2 hne
theorem conf_sub {rs ss : List Rw} (h : ∀ r ∈ ss, r ∈ rs) (c : conf ss) : conf rs := by
  obtain ⟨r, hr, s, hs, e, n⟩ := c
  exact ⟨r, h r hr, s, h s hs, e, n⟩
theorem conf_part {rs : List Rw} (a : Int) (c : conf rs) : ∃ p ∈ parts rs a, conf p.2 := by
  obtain ⟨r, hr, s, hs, e, n⟩ := c
  refine ⟨(col a r, part rs a (col a r)), mem_parts.mpr ⟨rfl, r, hr, rfl⟩, r, mem_part.mpr ⟨hr, rfl⟩, s, mem_part.mpr ⟨hs, ?_⟩, e, n⟩
  unfold col
  rw [e]
/-- without conflict, two answers are told apart by some ask -/
theorem split_ask {rs : List Rw} {many : Int} (hw : WF many rs) (nc : ¬ conf rs) (h2 : 1 < (ans rs).length) : ∃ a : Int, 0 ≤ a ∧ a < many ∧ 1 < (parts rs a).length := by
  unfold ans at h2
  obtain ⟨x, hx⟩ : ∃ x, x ∈ lin (rs.map (·.2)) := by
    cases hl : lin (rs.map (·.2)) with
    | nil => rw [hl] at h2; simp at h2
    | cons x l => exact ⟨x, List.mem_cons_self⟩
  obtain ⟨r, hr, rfl⟩ := List.mem_map.mp (mem_lin.mp hx)
  obtain ⟨w, hw2, hne⟩ := lin_two h2 r.2
  obtain ⟨s, hs, rfl⟩ := List.mem_map.mp hw2
  have hd : r.1 ≠ s.1 := fun e => nc ⟨r, hr, s, hs, e, fun z => hne z.symm⟩
  have l1 := hw r hr
  have l2 := hw s hs
  obtain ⟨i, hi⟩ : ∃ i : Nat, r.1[i]? ≠ s.1[i]? := Classical.byContradiction fun z => hd (List.ext_getElem? fun i => Classical.byContradiction fun q => z ⟨i, q⟩)
  have hlt : i < r.1.length := by
    rcases Nat.lt_or_ge i r.1.length with h | h
    · exact h
    · exact absurd (by rw [List.getElem?_eq_none h, List.getElem?_eq_none (by omega)]) hi
  refine ⟨(i : Int), by omega, by omega, ?_⟩
  have hcol : col (i : Int) r ≠ col (i : Int) s := fun e => hi (by
    unfold col at e
    rw [Int.toNat_natCast, List.getD_eq_getElem?_getD, List.getD_eq_getElem?_getD, List.getElem?_eq_getElem hlt, List.getElem?_eq_getElem (by omega)] at e
    rw [List.getElem?_eq_getElem hlt, List.getElem?_eq_getElem (by omega)]
    exact congrArg some e)
  unfold parts
  rw [List.length_map]
  have hsub : [col (i : Int) r, col (i : Int) s].length ≤ (lin (rs.map (col i))).length := List.Nodup.length_le_of_subset (by simp [hcol]) fun y hy => by
    rw [mem_lin, List.mem_map]
    rcases List.mem_cons.mp hy with rfl | hy
    · exact ⟨r, hr, rfl⟩
    · rw [List.mem_singleton.mp hy]; exact ⟨s, hs, rfl⟩
  have h3 : 2 ≤ (lin (rs.map (col i))).length := by simpa using hsub
  omega
def ndD : Option Int → D
  | none => .non
  | some i => .int i
theorem few_no_conf {rs : List Rw} (h : (ans rs).length < 2) : ¬ conf rs := by
  rintro ⟨r, hr, s, hs, _, n⟩
  have hsub : [r.2, s.2].length ≤ (lin (rs.map (·.2))).length := List.Nodup.length_le_of_subset (by simp [n]) fun y hy => by
    rw [mem_lin]
    rcases List.mem_cons.mp hy with rfl | hy
    · exact List.mem_map_of_mem hr
    · rw [List.mem_singleton.mp hy]; exact List.mem_map_of_mem hs
  unfold ans at h
  simp at hsub
  omega
theorem in_dict {h : Hm} {a : Nat} {kvs : List (D × D)} {x : D} (e : h[a]? = some (.dct kvs)) (hk : keyIn kvs x = true) : cmpS .notin x (.ref a) h = some (!(dget kvs x).isSome) := by
  simp [cmpS, inS, e, hk]
theorem snap_vals {f : Nat → Option (List D)} : ∀ vs : List (Option Int), snapDs f (vs.map ndD) = some (vs.map ndD)
  | [] => rfl
  | v :: vs => by
    rw [List.map_cons, snapDs, snap_vals vs]
    cases v <;> rfl
theorem deps_vals : ∀ vs : List (Option Int), deps (vs.map ndD) = 0
  | [] => rfl
  | v :: vs => by
    rw [List.map_cons, deps, deps_vals vs]
    cases v <;> rfl
theorem any_none : ∀ vs : List (Option Int), ((vs.map ndD).any fun b => eqD b .non) = decide (none ∈ vs)
  | [] => rfl
  | v :: vs => by
    rw [List.map_cons, List.any_cons, any_none vs]
    cases v with
    | none => simp [ndD, eqD]
    | some i => simp [ndD, eqD]
theorem notin_none {h : Hm} {a : Nat} {vs : List (Option Int)} (e : h[a]? = some (.lst (vs.map ndD))) : cmpS .notin .non (.ref a) h = some (!decide (none ∈ vs)) := by
  have e1 : anyEq h .non (vs.map ndD) = some (decide (none ∈ vs)) := by
    simp only [anyEq, snap, snapD, snap_vals, deps_vals, dep]
    rw [if_pos (by omega), any_none]
  simp only [cmpS, inS, e, e1, Option.map_some]
theorem ints_vals : ∀ vs : List (Option Int), none ∉ vs → ∃ is : List Int, vs = is.map some ∧ intsOf (vs.map ndD) = some is
  | [], _ => ⟨[], rfl, rfl⟩
  | none :: vs, h => absurd List.mem_cons_self h
  | some i :: vs, h => by
    obtain ⟨is, e1, e2⟩ := ints_vals vs fun z => h (List.mem_cons_of_mem _ z)
    refine ⟨i :: is, by rw [e1]; rfl, ?_⟩
    rw [List.map_cons, ndD, intsOf, e2]; rfl
theorem ints_of : ∀ is : List Int, intsOf (is.map D.int) = some is
  | [] => rfl
  | i :: is => by rw [List.map_cons, intsOf, ints_of is]; rfl
theorem snap_ints {f : Nat → Option (List D)} : ∀ is : List Int, snapDs f (is.map D.int) = some (is.map D.int)
  | [] => rfl
  | i :: is => by rw [List.map_cons, snapDs, snap_ints is]; rfl
theorem ne_empty {h : Hm} {a b : Nat} {is : List Int} (e1 : h[a]? = some (.lst (is.map D.int))) (e2 : h[b]? = some (.lst [])) : cmpS .ne (.ref a) (.ref b) h = some (!decide (is = [])) := by
  have s1 : snap h (.ref a) = some (.lst (is.map D.int)) := by
    simp only [snap, snapD, snapN, getL, e1, snap_ints, Option.map_some]
  have s2 : snap h (.ref b) = some (.lst []) := by
    simp only [snap, snapD, snapN, getL, e2, snapDs, Option.map_some]
  have s3 : eqv h (.ref a) (.ref b) = some (decide (is = [])) := by
    simp only [eqv, s1, s2, dep, deps, (pure_ints is).2]
    rw [if_pos (by omega)]
    cases is <;> simp [eqD, eqDs]
  simp only [cmpS, s3, Option.map_some]
/-- whether an ask divides the rows, each part told within -/
def good (many : Nat) (t : List Rw → Bool) (rs : List Rw) (a : Nat) : Bool := decide (1 < (parts rs (a : Int)).length) && (parts rs (a : Int)).all fun p => t p.2
def tell (many : Nat) : Nat → List Rw → Bool
  | 0, rs => decide ((ans rs).length < 2)
  | d + 1, rs => decide ((ans rs).length < 2) || (List.range many).any (good many (tell many d) rs)
/-- the first ask that does -/
def firstAsk (many d : Nat) (rs : List Rw) : Option Nat := (List.range many).find? (good many (tell many d) rs)
def askD : Option Nat → D
  | none => .non
  | some a => .int a
structure NT (many : Nat) (rs0 : List Rw) (h : Hm) (m : Nat) : Prop where
  ex : ∃ ps : List ((List Rw × Int) × Bool), h[m]? = some (.dct (encL encRD D.bl ps)) ∧ (ps.map (·.1)).Nodup ∧ (∀ p ∈ ps, p.1.1 ∈ subs rs0 ∧ 0 ≤ p.1.2 ∧ p.1.2 ≤ 50) ∧ ∀ k v, look ps k = some v → v = tell many k.2.toNat k.1
theorem NT.pre {many : Nat} {rs0 : List Rw} {h h' : Hm} {m : Nat} (a : NT many rs0 h m) (p : h <+: h') : NT many rs0 h' m := by
  obtain ⟨ps, e, r⟩ := a.ex
  exact ⟨ps, pre_at p e, r⟩
theorem NT.set_ne {many : Nat} {rs0 : List Rw} {h : Hm} {m i : Nat} (a : NT many rs0 h m) (hi : i ≠ m) (c : Cell) : NT many rs0 (h.set i c) m := by
  obtain ⟨ps, e, r⟩ := a.ex
  exact ⟨ps, by rw [List.getElem?_set_ne hi]; exact e, r⟩
theorem NT.lt {many : Nat} {rs0 : List Rw} {h : Hm} {m : Nat} (a : NT many rs0 h m) : m < h.length := by
  obtain ⟨ps, e, _⟩ := a.ex
  exact (List.getElem?_eq_some_iff.mp e).1
def prods (l : List (List Rw)) (n : Nat) : List (List Rw × Int) := l.flatMap fun x => (List.range n).map fun (i : Nat) => (x, (i : Int))
theorem prods_length (n : Nat) : ∀ l : List (List Rw), (prods l n).length = l.length * n
  | [] => by simp [prods]
  | x :: l => by
    have := prods_length n l
    unfold prods at this ⊢
    rw [List.flatMap_cons, List.length_append, this, List.length_map, List.length_range, List.length_cons, Nat.succ_mul]
    omega
theorem mem_prods {l : List (List Rw)} {n : Nat} {x : List Rw} {i : Int} (hx : x ∈ l) (h0 : 0 ≤ i) (h1 : i < n) : (x, i) ∈ prods l n := by
  unfold prods
  rw [List.mem_flatMap]
  refine ⟨x, hx, List.mem_map.mpr ⟨i.toNat, List.mem_range.mpr (by omega), ?_⟩⟩
  rw [Int.toNat_of_nonneg h0]
theorem tell_store {many : Nat} {rs0 rs : List Rw} {h : Hm} {m : Nat} {d : Int} (hl0 : rs0.length ≤ 12) (nm : NT many rs0 h m) (hs : rs.Sublist rs0) (h0 : 0 ≤ d) (h50 : d ≤ 50) : ∃ h4, setS (.ref m) (.tup [rowsD rs, .int d]) (.bl (tell many d.toNat rs)) h = some h4 ∧ NT many rs0 h4 m ∧ MX m h h4 ∧ idxS (.ref m) (.tup [rowsD rs, .int d]) h4 = some (.bl (tell many d.toNat rs)) := by
  obtain ⟨ps, e, nd, hk, hq⟩ := nm.ex
  have hin : keyIn (encL encRD D.bl ps) (.tup [rowsD rs, .int d]) = true := enc_in encRD D.bl ps (rs, d)
  have hlen : ps.length ≤ 2 ^ 12 * 51 := by
    have h1 : (ps.map (·.1)).length ≤ (prods (subs rs0) 51).length := nd.length_le_of_subset fun x hx => by
      obtain ⟨p, hp, rfl⟩ := List.mem_map.mp hx
      obtain ⟨a, b, c⟩ := hk p hp
      exact mem_prods (x := p.1.1) (i := p.1.2) a b (by omega)
    rw [List.length_map, prods_length, subs_length] at h1
    exact Nat.le_trans h1 (Nat.mul_le_mul_right _ (Nat.pow_le_pow_right (by omega) hl0))
  have hlim : (encL encRD D.bl ps).length < LIM := by
    unfold encL LIM
    rw [List.length_map]
    omega
  refine ⟨h.set m (.dct (encL encRD D.bl (put ps (rs, d) (tell many d.toNat rs)))), ?_, ⟨put ps (rs, d) (tell many d.toNat rs), set_at e, ?_, fun p hp => ?_, fun k w hw => ?_⟩, (MX.refl m h).set _, ?_⟩
  · have : dput (encL encRD D.bl ps) (.tup [rowsD rs, .int d]) (.bl (tell many d.toNat rs)) = encL encRD D.bl (put ps (rs, d) (tell many d.toNat rs)) := enc_put encRD D.bl ps (rs, d) _
    simp only [setS, e]
    rw [if_pos ⟨hin, hlim⟩, this]
  · rw [put_keys]
    split
    · exact nd
    · rename_i hn
      rw [List.nodup_append]
      exact ⟨nd, by simp, fun a ha b hb e => hn (by rw [← List.mem_singleton.mp hb, ← e]; exact ha)⟩
  · have hm : p.1 ∈ (put ps (rs, d) (tell many d.toNat rs)).map (·.1) := List.mem_map_of_mem hp
    rw [put_keys] at hm
    split at hm
    · obtain ⟨q, hq, e⟩ := List.mem_map.mp hm
      rw [← e]; exact hk q hq
    · rcases List.mem_append.mp hm with hm | hm
      · obtain ⟨q, hq, e⟩ := List.mem_map.mp hm
        rw [← e]; exact hk q hq
      · rw [List.mem_singleton.mp hm]; exact ⟨mem_subs hs, h0, h50⟩
  · by_cases hkr : k = (rs, d)
    · subst hkr
      rw [look_put_same] at hw
      cases hw
      rfl
    · rw [look_put_ne ps _ hkr] at hw
      exact hq k w hw
  · have hin2 : keyIn (encL encRD D.bl (put ps (rs, d) (tell many d.toNat rs))) (.tup [rowsD rs, .int d]) = true := enc_in encRD D.bl _ (rs, d)
    have hg2 : dget (encL encRD D.bl (put ps (rs, d) (tell many d.toNat rs))) (.tup [rowsD rs, .int d]) = (look (put ps (rs, d) (tell many d.toNat rs)) (rs, d)).map D.bl := enc_get encRD D.bl _ (rs, d)
    simp only [idxS, set_at e, hin2, if_true]
    rw [hg2, look_put_same]
    rfl
/-- what can_tell keeps, at one depth -/
def TellOk (many : Nat) (rs0 : List Rw) (d : Nat) (n : Nat) : Prop := ∀ (rs : List Rw) (h : Hm) (m : Nat) (Q : VQ) (E : XP), rs.Sublist rs0 → WF many rs → NT many rs0 h m → (∀ h', MX m h h' → NT many rs0 h' m → Q (.bl (tell many d rs)) h') → FW P n 7 [rowsD rs, .int many, .int d, .ref m] h Q E
theorem bools_of : ∀ bs : List Bool, boolsOf (bs.map D.bl) = some bs
  | [] => rfl
  | b :: bs => by rw [List.map_cons, boolsOf, bools_of bs]; rfl
theorem b_all {h : Hm} {a : Nat} {bs : List Bool} (e : h[a]? = some (.lst (bs.map D.bl))) : bltS .all [.ref a] h = some (.bl (bs.all id), h) := by
  simp only [bltS, lstOf, getL, e, Option.bind_some, bools_of, Option.map_some]
theorem ask_spec {many d n : Nat} {rs0 : List Rw} (hl0 : rs0.length ≤ 12) (hm1 : many ≤ 1000) (T : TellOk many rs0 d (n + 1)) {rs : List Rw} {h : Hm} {m : Nat} {Q : VQ} {E : XP} (hsub : rs.Sublist rs0) (hw : WF many rs) (hm : NT many rs0 h m)
    (q : ∀ h', MX m h h' → NT many rs0 h' m → Q (askD (firstAsk many d rs)) h') : FW P (n + 2) 8 [rowsD rs, .int many, .int ((d : Int) + 1), .ref m] h Q E := by
  have hl : rs.length ≤ 1000 := by have := hsub.length_le; omega
  refine fw_open (d := D8) rfl rfl ?_
  unfold D8
  simp only [wpSs, wpS, wpE, wpEs, wpCs, wpP, wpPs, List.map, List.replicate, List.cons_append, List.nil_append, List.append_nil, List.getElem?_cons_zero, List.getElem?_cons_succ, jn, ws_some, List.length_cons, List.length_nil, List.set, at0, at1, at2, idx_tup, c_gt, c_lt, c_le, c_ge, c_is, c_isnt, c_eqI, c_neI, c_eqS, c_neS, c_eqB, c_neB, isS, isNonD, isBlD, t_bl, b_int, b_abs, b_max2, b_min2, b_lenT, o_add, o_sub, permD, Option.map_some]
  rw [it_range (by omega) (by omega)]
  simp only [ws_some]
  have hmlt := hm.lt
  refine forL_inv (fun l env h' => ∃ (j : Nat) (e4 e5 e6 e7 : Option D), l = (rngD 0 (many : Int).toNat).drop j ∧ MX m h h' ∧ NT many rs0 h' m ∧ env = [some (rowsD rs), some (.int many), some (.int ((d : Int) + 1)), some (.ref m), e4, e5, e6, e7] ∧ ∀ a < j, good many (tell many d) rs a = false)
    (fun _ _ _ _ => still_nil) (fun x l env h' R hi k => ?_) (fun env h' hi => ?_) _ _ _ ⟨0, none, none, none, none, rfl, MX.refl _ _, hm, rfl, fun a ha => absurd ha (Nat.not_lt_zero a)⟩
  · obtain ⟨j, e4, e5, e6, e7, hj, mx, nm, rfl, hg⟩ := hi
    have hjn : j < (many : Int).toNat := by
      rcases Nat.lt_or_ge j (many : Int).toNat with z | z
      · exact z
      · rw [rng_end z] at hj; cases hj
    rw [rng_drop hjn] at hj
    cases hj
    simp only [wpSs, wpS, wpE, wpEs, wpCs, wpP, wpPs, List.map, List.replicate, List.cons_append, List.nil_append, List.append_nil, List.getElem?_cons_zero, List.getElem?_cons_succ, jn, ws_some, List.length_cons, List.length_nil, List.set, at0, at1, at2, idx_tup, c_gt, c_lt, c_le, c_ge, c_is, c_isnt, c_eqI, c_neI, c_eqS, c_neS, c_eqB, c_neB, isS, isNonD, isBlD, t_bl, b_int, b_abs, b_max2, b_min2, b_lenT, o_add, o_sub, permD, Option.map_some]
    refine ⟨by simp, ?_⟩
    refine parted_spec hw (by omega) (by omega) hl fun h2 p2 => ?_
    refine ⟨by simp, ?_⟩
    rw [b_lenT]
    simp only [ws_some, c_gt, List.length_map]
    have mx2 : MX m h h2 := mx.trans (MX.pre p2)
    have nm2 := nm.pre p2
    have kn : good many (tell many d) rs j = false → R [some (rowsD rs), some (D.int (many : Int)), some (D.int ((d : Int) + 1)), some (D.ref m), some (D.int (j : Int)), some (D.tup (List.map partD (parts rs (j : Int)))), e6, e7] h2 := fun hgj =>
      k _ _ ⟨j + 1, _, _, _, _, rfl, mx2, nm2, rfl, fun a ha => by
        rcases Nat.lt_or_eq_of_le (Nat.le_of_lt_succ ha) with z | z
        · exact hg a z
        · rw [z]; exact hgj⟩
    by_cases c2 : (1 : Int) < ((parts rs (j : Int)).length : Int)
    · simp only [c2, decide_true, if_true]
      rw [it_tup]
      simp only [ws_some]
      refine comp_inv (fun l acc hh => ∃ done rest, parts rs (j : Int) = done ++ rest ∧ l = rest.map partD ∧ acc = (done.map fun p => tell many d p.2).map D.bl ∧ MX m h hh ∧ NT many rs0 hh m ∧ hh[h2.length]? = some (.lst acc))
        (fun _ _ _ _ => still_nil) (fun x l acc hh R' hi k1 k2 => ?_) (fun acc hh hi => ?_) _ _ _ ⟨[], parts rs (j : Int), rfl, rfl, rfl, mx2.trans (MX.pre pre_one), nm2.pre pre_one, last_at⟩
      · obtain ⟨done, rest, hp, hx, rfl, mxa, nma, ca⟩ := hi
        cases rest with
        | nil => cases hx
        | cons p rest =>
          rw [List.map_cons] at hx
          cases hx
          have hpm : p ∈ parts rs (j : Int) := by rw [hp]; simp
          have hpe := (mem_parts.mp hpm).1
          have hsub2 : p.2.Sublist rs := by rw [hpe]; exact part_sub
          simp only [partD, wpSs, wpS, wpE, wpEs, wpCs, wpP, wpPs, List.map, List.replicate, List.cons_append, List.nil_append, List.append_nil, List.getElem?_cons_zero, List.getElem?_cons_succ, jn, ws_some, List.length_cons, List.length_nil, List.set, at0, at1, at2, idx_tup, c_gt, c_lt, c_le, c_ge, c_is, c_isnt, c_eqI, c_neI, c_eqS, c_neS, c_eqB, c_neB, isS, isNonD, isBlD, t_bl, b_int, b_abs, b_max2, b_min2, b_lenT, o_add, o_sub, permD, Option.map_some, wipeE]
          refine ⟨by simp, by simp, ?_⟩
          rw [show ((d : Int) + 1 - 1) = (d : Int) from by omega]
          refine T p.2 hh m _ _ (hsub2.trans hsub) (fun q hq => hw q (hsub2.subset hq)) nma fun h3 mx3 nm3 => ?_
          have hl2 : h.length ≤ h2.length := mx2.len
          have n1 : h2.length ≠ m := by omega
          have hpl : (parts rs (j : Int)).length ≤ 1000 := by
            unfold parts
            rw [List.length_map]
            have := lin_length (rs.map (col (j : Int)))
            rw [List.length_map] at this
            omega
          refine k1 _ h3 (mx3.cell ca n1) (by
            rw [List.length_map, List.length_map]
            have := congrArg List.length hp
            rw [List.length_append] at this
            unfold LIM; omega) ⟨done ++ [p], rest, by rw [hp]; simp, rfl, by simp, (mxa.trans mx3).set_new hl2 _, nm3.set_ne n1 _, set_at (mx3.cell ca n1)⟩
      · obtain ⟨done, rest, hp, hx, rfl, mxa, nma, ca⟩ := hi
        have hr0 : rest = [] := List.map_eq_nil_iff.mp hx.symm
        subst hr0
        rw [List.append_nil] at hp
        rw [b_all ca]
        simp only [ws_some, t_bl, List.all_map]
        have ee : good many (tell many d) rs j = done.all (id ∘ fun p => tell many d p.2) := by
          unfold good
          rw [hp]
          have : 1 < done.length := by rw [← hp]; omega
          simp [this, Function.comp_def]
        rw [← ee]
        by_cases c3 : good many (tell many d) rs j = true
        · simp only [c3, if_true]
          have e : firstAsk many d rs = some j := by
            unfold firstAsk
            rw [List.find?_range_eq_some]
            refine ⟨c3, by simp; omega, fun a ha => ?_⟩
            simp [hg a ha]
          have := q hh mxa nma
          rw [e] at this
          exact this
        · rw [Bool.not_eq_true] at c3
          simp only [c3, Bool.false_eq_true, if_false]
          refine k _ _ ⟨j + 1, _, _, _, _, rfl, mxa, nma, rfl, fun a ha => by
            rcases Nat.lt_or_eq_of_le (Nat.le_of_lt_succ ha) with z | z
            · exact hg a z
            · rw [z]; exact c3⟩
    · simp only [c2, decide_false, Bool.false_eq_true, if_false]
      refine kn ?_
      unfold good
      have : ¬ 1 < (parts rs (j : Int)).length := by omega
      simp [this]
  · obtain ⟨j, e4, e5, e6, e7, hj, mx, nm, rfl, hg⟩ := hi
    have hjn : (many : Int).toNat ≤ j := by
      rcases Nat.lt_or_ge j (many : Int).toNat with z | z
      · rw [rng_drop z] at hj; cases hj
      · exact z
    have e : firstAsk many d rs = none := by
      unfold firstAsk
      rw [List.find?_eq_none]
      intro a ha hb
      rw [hg a (by have := List.mem_range.mp ha; omega)] at hb
      cases hb
    have := q h' mx nm
    rw [e] at this
    exact this
theorem firstAsk_some {many d : Nat} {rs : List Rw} : (firstAsk many d rs).isSome = (List.range many).any (good many (tell many d) rs) := by
  unfold firstAsk
  rw [Bool.eq_iff_iff, List.find?_isSome, List.any_eq_true]
theorem askD_some (o : Option Nat) : cmpS .isnt (askD o) .non = fun _ => some o.isSome := by
  cases o <;> rfl
theorem tell_ok {many : Nat} {rs0 : List Rw} (hl0 : rs0.length ≤ 12) (hm1 : many ≤ 1000) : ∀ d n, 2 * d + 2 ≤ n → d ≤ 50 → TellOk many rs0 d n := by
  intro d
  induction d with
  | zero =>
    intro n hn h50 rs h m Q E hsub hw hm q
    obtain ⟨n, rfl⟩ : ∃ n', n = n' + 2 := ⟨n - 2, by omega⟩
    have hl : rs.length ≤ 1000 := by have := hsub.length_le; omega
    refine fw_open (d := D7) rfl rfl ?_
    unfold D7
    simp only [wpSs, wpS, wpE, wpEs, wpCs, wpP, wpPs, List.map, List.replicate, List.cons_append, List.nil_append, List.append_nil, List.getElem?_cons_zero, List.getElem?_cons_succ, jn, ws_some, List.length_cons, List.length_nil, List.set, at0, at1, at2, idx_tup, c_gt, c_lt, c_le, c_ge, c_is, c_isnt, c_eqI, c_neI, c_eqS, c_neS, c_eqB, c_neB, isS, isNonD, isBlD, t_bl, b_int, b_abs, b_max2, b_min2, b_lenT, o_add, o_sub, permD, Option.map_some]
    refine answers_spec hl fun h1 p1 => ?_
    rw [b_lenT]
    simp only [ws_some, c_lt, List.length_map]
    have q' := q h1 (MX.pre p1) (hm.pre p1)
    unfold tell at q'
    by_cases c : (ans rs).length < 2
    · have c' : ((ans rs).length : Int) < 2 := by omega
      simp only [c', decide_true, if_true]
      rw [decide_eq_true c] at q'
      exact q'
    · have c' : ¬ ((ans rs).length : Int) < 2 := by omega
      simp only [c', decide_false, Bool.false_eq_true, if_false]
      rw [decide_eq_false c] at q'
      exact q'
  | succ d IH =>
    intro n hn h50 rs h m Q E hsub hw hm q
    obtain ⟨n, rfl⟩ : ∃ n', n = n' + 3 := ⟨n - 3, by omega⟩
    have hl : rs.length ≤ 1000 := by have := hsub.length_le; omega
    refine fw_open (d := D7) rfl rfl ?_
    unfold D7
    simp only [wpSs, wpS, wpE, wpEs, wpCs, wpP, wpPs, List.map, List.replicate, List.cons_append, List.nil_append, List.append_nil, List.getElem?_cons_zero, List.getElem?_cons_succ, jn, ws_some, List.length_cons, List.length_nil, List.set, at0, at1, at2, idx_tup, c_gt, c_lt, c_le, c_ge, c_is, c_isnt, c_eqI, c_neI, c_eqS, c_neS, c_eqB, c_neB, isS, isNonD, isBlD, t_bl, b_int, b_abs, b_max2, b_min2, b_lenT, o_add, o_sub, permD, Option.map_some]
    refine answers_spec hl fun h1 p1 => ?_
    rw [b_lenT]
    simp only [ws_some, c_lt, List.length_map]
    have hm1' := hm.pre p1
    by_cases c : (ans rs).length < 2
    · have q' := q h1 (MX.pre p1) hm1'
      have c' : ((ans rs).length : Int) < 2 := by omega
      simp only [c', decide_true, if_true]
      unfold tell at q'
      rw [decide_eq_true c] at q'
      exact q'
    · have c' : ¬ ((ans rs).length : Int) < 2 := by omega
      simp only [c', decide_false, Bool.false_eq_true, if_false]
      have z0 : ¬ (((d + 1 : Nat) : Int) = 0) := by omega
      simp only [z0, decide_false, Bool.false_eq_true, if_false]
      obtain ⟨ps, e, nd, hk, hq⟩ := hm1'.ex
      have hin : keyIn (encL encRD D.bl ps) (.tup [rowsD rs, .int ((d + 1 : Nat) : Int)]) = true := enc_in encRD D.bl ps (rs, ((d + 1 : Nat) : Int))
      have hg : dget (encL encRD D.bl ps) (.tup [rowsD rs, .int ((d + 1 : Nat) : Int)]) = (look ps (rs, ((d + 1 : Nat) : Int))).map D.bl := enc_get encRD D.bl ps (rs, ((d + 1 : Nat) : Int))
      rw [in_dict e hin, hg]
      simp only [ws_some, Option.isSome_map]
      cases hlk : look ps (rs, ((d + 1 : Nat) : Int)) with
      | some v =>
        simp only [Option.isSome_some, Bool.not_true, Bool.false_eq_true, if_false]
        simp only [idxS, e, hin, if_true]
        rw [hg, hlk]
        simp only [Option.map_some, ws_some]
        have := hq _ _ hlk
        rw [this, Int.toNat_natCast]
        exact q h1 (MX.pre p1) hm1'
      | none =>
        simp only [Option.isSome_none, Bool.not_false, if_true]
        have T := IH (n + 1) (by omega) (by omega)
        have hd : ((d + 1 : Nat) : Int) = (d : Int) + 1 := by omega
        rw [hd]
        refine ask_spec hl0 hm1 T hsub hw hm1' fun h2 mx2 nm2 => ?_
        have he : tell many (d + 1) rs = (firstAsk many d rs).isSome := by
          rw [firstAsk_some, tell, decide_eq_false c, Bool.false_or]
        have hb : ∀ o : Option Nat, (!isNonD (askD o)) = o.isSome := fun o => by cases o <;> rfl
        show ws (setS (.ref m) _ (.bl (!isNonD (askD (firstAsk many d rs)))) h2) _
        rw [hb]
        obtain ⟨h4, s1, s2, s3, s4⟩ := tell_store (d := ((d + 1 : Nat) : Int)) hl0 nm2 hsub (by omega) (by omega)
        rw [Int.toNat_natCast, he, hd] at s1 s4
        rw [s1]
        simp only [ws_some]
        rw [s4]
        simp only [ws_some]
        rw [← he]
        exact q h4 ((MX.pre p1).trans (mx2.trans s3)) s2
theorem parts_len {rs : List Rw} {a : Int} : (parts rs a).length ≤ rs.length := by
  unfold parts
  rw [List.length_map]
  have := lin_length (rs.map (col a))
  rw [List.length_map] at this
  exact this
theorem part_ne {rs : List Rw} {a : Int} {p : Int × List Rw} (hp : p ∈ parts rs a) : p.2 ≠ [] := by
  obtain ⟨e, r, hr, hc⟩ := mem_parts.mp hp
  rw [e]
  exact List.ne_nil_of_mem (mem_part.mpr ⟨hr, hc⟩)
theorem ans_ne {rs : List Rw} (h : rs ≠ []) : ∃ a l, ans rs = a :: l := by
  obtain ⟨r, l, rfl⟩ := List.exists_cons_of_ne_nil h
  have : r.2 ∈ ans (r :: l) := mem_lin.mpr (by simp)
  exact List.exists_cons_of_ne_nil (List.ne_nil_of_mem this)
theorem pre_iff {h h' : Hm} : h <+: h' ↔ h.length ≤ h'.length ∧ ∀ i, i < h.length → h'[i]? = h[i]? := by
  constructor
  · rintro ⟨t, rfl⟩
    exact ⟨by simp, fun i hi => List.getElem?_append_left hi⟩
  · rintro ⟨hl, he⟩
    rw [List.prefix_iff_eq_take]
    refine List.ext_getElem? fun i => ?_
    rw [List.getElem?_take]
    split
    · rename_i hi; exact (he i hi).symm
    · rename_i hi; exact List.getElem?_eq_none (by omega)
/-- only a cell behind h changes -/
theorem mx_pre {m : Nat} {h h1 h' : Hm} (p : h <+: h1) (hm : h.length ≤ m) (x : MX m h1 h') : h <+: h' := by
  obtain ⟨p1, p2⟩ := pre_iff.mp p
  exact pre_iff.mpr ⟨Nat.le_trans p1 x.len, fun i hi => (x.at_ i (by omega) (by omega)).trans (p2 i hi)⟩
theorem NT.new {many : Nat} {rs0 : List Rw} {h : Hm} : NT many rs0 (h ++ [.dct []]) h.length :=
  ⟨[], last_at, List.nodup_nil, (fun _ h => nomatch h), fun k v e => by simp [look] at e⟩
def BX (h : Hm) (a : Nat) : Prop := ∃ b0 b1 : Int, h[a]? = some (.lst [.int b0, .int b1])
theorem BX.mx {m a : Nat} {h h' : Hm} (b : BX h a) (x : MX m h h') (hm : a ≠ m) : BX h' a := by
  obtain ⟨b0, b1, e⟩ := b
  exact ⟨b0, b1, x.cell e hm⟩
theorem BX.pre {a : Nat} {h h' : Hm} (b : BX h a) (x : h <+: h') : BX h' a := by
  obtain ⟨b0, b1, e⟩ := b
  exact ⟨b0, b1, pre_at x e⟩
theorem BX.set {a i : Nat} {h : Hm} (b : BX h a) (hi : i ≠ a) (c : Cell) : BX (h.set i c) a := by
  obtain ⟨b0, b1, e⟩ := b
  exact ⟨b0, b1, by rw [List.getElem?_set_ne hi]; exact e⟩
theorem BX.lt {a : Nat} {h : Hm} (b : BX h a) : a < h.length := by
  obtain ⟨b0, b1, e⟩ := b
  exact (List.getElem?_eq_some_iff.mp e).1
theorem take_bx {n : Nat} {h : Hm} {a : Nat} {many : Int} {Q : VQ} {E : XP} (hb : BX h a) (hm : 0 < many) (hm2 : many < 1000000) (k : ∀ (d : Int) h', 0 ≤ d → d < many → BX h' a → MX a h h' → Q (.int d) h') : FW P (n + 1) 17 [.ref a, .int many] h Q E := by
  obtain ⟨b0, b1, e⟩ := hb
  have em : getM h a = some [.int b0, .int b1] := by unfold getM; rw [e]
  exact take_spec em hm hm2 fun d c0 c1 h1 h2 => k d _ h1 h2 ⟨c0, c1, set_at e⟩ ((MX.refl a h).set _)
theorem pick_bx {n : Nat} {h : Hm} {a r : Nat} {xs : List D} {Q : VQ} {E : XP} (hb : BX h a) (hr : r ≠ a) (er : h[r]? = some (.lst xs)) (h0 : xs ≠ []) (hl : xs.length < 1000000) (k : ∀ d ∈ xs, ∀ h', BX h' a → MX a h h' → Q d h') : FW P (n + 2) 18 [.ref a, .ref r] h Q E := by
  obtain ⟨b0, b1, e⟩ := hb
  have em : getM h a = some [.int b0, .int b1] := by unfold getM; rw [e]
  exact pick_spec em (.inr ⟨r, rfl, hr, er⟩) h0 hl fun d hd c0 c1 => k d hd _ ⟨c0, c1, set_at e⟩ ((MX.refl a h).set _)
def encRw : Enc Rw where
  e := rowD
  eq := eqD_row
  ok := fun a => by
    obtain ⟨h1, h2⟩ := pure_ints a.1
    simp only [rowD, keyOK, pureDs, pureD, h1, deps, dep, h2, Bool.true_and, Bool.and_true, decide_eq_true_eq]
    omega
  tup := true
  tp := fun _ => rfl
/-- rows as drawn -/
structure OkRows (many : Int) (rs : List Rw) : Prop where
  wf : WF many rs
  lo : ∀ r ∈ rs, (∀ i ∈ r.1, 0 ≤ i) ∧ 0 ≤ r.2
theorem insD_rows (x : Rw) : ∀ rs : List Rw, ∃ ss : List Rw, insD (rowD x) (rs.map rowD) = ss.map rowD ∧ ss.Perm (x :: rs)
  | [] => ⟨[x], rfl, List.Perm.refl _⟩
  | y :: rs => by
    rw [List.map_cons, insD]
    split
    · obtain ⟨ss, e, p⟩ := insD_rows x rs
      exact ⟨y :: ss, by rw [e]; rfl, (p.cons y).trans (List.Perm.swap x y rs)⟩
    · exact ⟨x :: y :: rs, rfl, List.Perm.refl _⟩
theorem sortD_rows : ∀ rs : List Rw, ∃ ss : List Rw, sortD (rs.map rowD) = ss.map rowD ∧ ss.Perm rs
  | [] => ⟨[], rfl, List.Perm.refl _⟩
  | x :: rs => by
    obtain ⟨ss, e, p⟩ := sortD_rows rs
    obtain ⟨tt, e2, p2⟩ := insD_rows x ss
    exact ⟨tt, by rw [List.map_cons, sortD, e, e2], p2.trans (p.cons x)⟩
theorem alike_ints : ∀ a b : List Int, alikeDs (a.map D.int) (b.map D.int) = true
  | [], [] => rfl
  | [], _ :: _ => rfl
  | _ :: _, [] => rfl
  | x :: a, y :: b => by simp only [List.map_cons, alikeDs, alikeD, alike_ints a b, Bool.and_self]
theorem sortOK_rows (rs : List Rw) : sortOK (rs.map rowD) = true := by
  obtain ⟨a, b⟩ := rows_pure rs
  unfold sortOK
  rw [a]
  have h1 : ((rs.map rowD).all fun x => (rs.map rowD).all fun y => alikeD x y) = true := by
    rw [List.all_eq_true]
    intro x hx
    rw [List.all_eq_true]
    intro y hy
    obtain ⟨i, _, rfl⟩ := List.mem_map.mp hx
    obtain ⟨j, _, rfl⟩ := List.mem_map.mp hy
    simp [rowD, alikeD, alikeDs, alike_ints]
  have h2 : (rs.map rowD).all consTup = true := by
    rw [List.all_eq_true]
    intro x hx
    obtain ⟨i, _, rfl⟩ := List.mem_map.mp hx
    rfl
  rw [h1, h2]
  simp
  omega
theorem rows_spec {n : Nat} {many : Int} {h : Hm} {a : Nat} {Q : VQ} {E : XP} (hm0 : 0 < many) (hm1 : many ≤ 1000) (hb : BX h a) (q : ∀ rs h', OkRows many rs → rs ≠ [] → rs.length ≤ 8 → BX h' a → MX a h h' → Q (rowsD rs) h') : FW P (n + 2) 26 [.ref a, .int many] h Q E := by
  refine fw_open (d := D26) rfl rfl ?_
  unfold D26
  simp only [wpSs, wpS, wpE, wpEs, wpCs, wpP, wpPs, List.map, List.replicate, List.cons_append, List.nil_append, List.append_nil, List.getElem?_cons_zero, List.getElem?_cons_succ, jn, ws_some, List.length_cons, List.length_nil, List.set, at0, at1, at2, idx_tup, c_gt, c_lt, c_le, c_ge, c_is, c_isnt, c_eqI, c_neI, c_eqS, c_neS, c_eqB, c_neB, isS, isNonD, isBlD, t_bl, b_int, b_abs, b_max2, b_min2, b_lenT, o_add, o_sub, permD, Option.map_some]
  simp only [evens, mergeK, ws_some]
  refine ⟨by simp, ?_⟩
  have hal := hb.lt
  refine take_bx (hb.pre pre_one) (by omega) (by omega) fun t h1 t0 t1 b1 m1 => ?_
  simp only [o_add, ws_some]
  rw [it_range (by omega) (by omega)]
  simp only [ws_some]
  have e1 : h1[h.length]? = some (.dct []) := m1.cell last_at (by omega)
  have mx1 : MX a h h1 := (MX.pre pre_one).trans m1
  refine forL_inv (fun l env h' => ∃ (j : Nat) (e3 e4 : Option D) (ps : List (Rw × Bool)), l = (rngD 0 (1 + t).toNat).drop j ∧ MX a h h' ∧ BX h' a ∧ h'[h.length]? = some (.dct (encL encRw D.bl ps)) ∧ env = [some (.ref a), some (.int many), some (.ref h.length), e3, e4] ∧ OkRows many (ps.map (·.1)) ∧ ps.length ≤ j ∧ (0 < j → ps ≠ []) ∧ j ≤ 8)
    (fun _ _ _ _ => still_nil) (fun x l env h' R hi k => ?_) (fun env h' hi => ?_) _ _ _ ⟨0, none, none, [], rfl, mx1, b1, e1, rfl, ⟨(fun _ h => nomatch h), fun _ h => nomatch h⟩, by simp, by simp, by omega⟩
  · obtain ⟨j, e3, e4, ps, hj, mx, bx, ed, rfl, ok, pl, pn, j8⟩ := hi
    have hjn : j < (1 + t).toNat := by
      rcases Nat.lt_or_ge j (1 + t).toNat with z | z
      · exact z
      · rw [rng_end z] at hj; cases hj
    rw [rng_drop hjn] at hj
    cases hj
    simp only [wpSs, wpS, wpE, wpEs, wpCs, wpP, wpPs, List.map, List.replicate, List.cons_append, List.nil_append, List.append_nil, List.getElem?_cons_zero, List.getElem?_cons_succ, jn, ws_some, List.length_cons, List.length_nil, List.set, at0, at1, at2, idx_tup, c_gt, c_lt, c_le, c_ge, c_is, c_isnt, c_eqI, c_neI, c_eqS, c_neS, c_eqB, c_neB, isS, isNonD, isBlD, t_bl, b_int, b_abs, b_max2, b_min2, b_lenT, o_add, o_sub, permD, Option.map_some]
    refine ⟨by simp, ?_⟩
    rw [it_range (by omega) (by omega)]
    simp only [ws_some]
    have hll : h.length ≤ h'.length := mx.len
    have hdl : h.length < h'.length := (List.getElem?_eq_some_iff.mp ed).1
    refine comp_inv (fun l acc hh => ∃ (i : Nat) (is : List Int), l = (rngD 0 many.toNat).drop i ∧ acc = is.map D.int ∧ is.length = i ∧ i ≤ many.toNat ∧ (∀ x ∈ is, 0 ≤ x) ∧ MX a h hh ∧ BX hh a ∧ hh[h.length]? = some (.dct (encL encRw D.bl ps)) ∧ hh[h'.length]? = some (.lst acc))
      (fun _ _ _ _ => still_nil) (fun x l acc hh R' hi k1 k2 => ?_) (fun acc hh hi => ?_) _ _ _ ⟨0, [], rfl, rfl, rfl, by omega, (fun _ h => nomatch h), mx.trans (MX.pre pre_one), bx.pre pre_one, pre_at pre_one ed, last_at⟩
    · obtain ⟨i, is, hi, rfl, il, im, ip, mxa, bxa, eda, ea⟩ := hi
      have hin : i < many.toNat := by
        rcases Nat.lt_or_ge i many.toNat with z | z
        · exact z
        · rw [rng_end z] at hi; cases hi
      rw [rng_drop hin] at hi
      cases hi
      simp only [wpSs, wpS, wpE, wpEs, wpCs, wpP, wpPs, List.map, List.replicate, List.cons_append, List.nil_append, List.append_nil, List.getElem?_cons_zero, List.getElem?_cons_succ, jn, ws_some, List.length_cons, List.length_nil, List.set, at0, at1, at2, idx_tup, c_gt, c_lt, c_le, c_ge, c_is, c_isnt, c_eqI, c_neI, c_eqS, c_neS, c_eqB, c_neB, isS, isNonD, isBlD, t_bl, b_int, b_abs, b_max2, b_min2, b_lenT, o_add, o_sub, permD, Option.map_some, wipeE]
      refine ⟨by simp, ?_⟩
      refine take_bx bxa (by omega) (by omega) fun d h2 d0 d1 b2 m2 => ?_
      have hne : h'.length ≠ a := by omega
      refine k1 _ h2 (m2.cell ea hne) (by rw [List.length_map]; unfold LIM; omega) ⟨i + 1, is ++ [d], rfl, by simp, by simp [il], by omega, fun x hx => by
        rcases List.mem_append.mp hx with hx | hx
        · exact ip x hx
        · rw [List.mem_singleton.mp hx]; exact d0, (mxa.trans m2).set_new hll _, b2.set hne _, ?_, set_at (m2.cell ea hne)⟩
      rw [List.getElem?_set_ne (by omega)]
      exact m2.cell eda (by omega)
    · obtain ⟨i, is, hi, rfl, il, im, ip, mxa, bxa, eda, ea⟩ := hi
      have hin : many.toNat ≤ i := by
        rcases Nat.lt_or_ge i many.toNat with z | z
        · rw [rng_drop z] at hi; cases hi
        · exact z
      rw [b_tupleL ea]
      simp only [ws_some]
      refine take_bx bxa (by omega) (by omega) fun d h2 d0 d1 b2 m2 => ?_
      have ed2 := m2.cell eda (show h.length ≠ a by omega)
      have hin2 : keyIn (encL encRw D.bl ps) (rowD (is, d)) = true := enc_in encRw D.bl ps (is, d)
      have hput : dput (encL encRw D.bl ps) (rowD (is, d)) (.bl true) = encL encRw D.bl (put ps (is, d) true) := enc_put encRw D.bl ps (is, d) _
      have hset : setS (.ref h.length) (.tup [.tup (is.map D.int), .int d]) (.bl true) h2 = some (h2.set h.length (.dct (encL encRw D.bl (put ps (is, d) true)))) := by
        simp only [setS, ed2]
        have : D.tup [.tup (is.map D.int), .int d] = rowD (is, d) := rfl
        rw [this, if_pos ⟨hin2, by unfold encL LIM; rw [List.length_map]; omega⟩, hput]
      rw [hset]
      simp only [ws_some]
      have hkeys : ∀ x ∈ (put ps (is, d) true).map (·.1), x ∈ ps.map (·.1) ∨ x = (is, d) := fun x hx => by
        rw [put_keys] at hx
        split at hx
        · exact .inl hx
        · rcases List.mem_append.mp hx with hx | hx
          · exact .inl hx
          · exact .inr (List.mem_singleton.mp hx)
      refine k _ _ ⟨j + 1, _, _, put ps (is, d) true, rfl, (mxa.trans m2).set_new (Nat.le_refl _) _, b2.set (by omega) _, set_at ed2, rfl, ⟨fun r hr => ?_, fun r hr => ?_⟩, Nat.le_trans (put_length ps (is, d) true) (by omega), fun _ e => ?_, by omega⟩
      · rcases hkeys r hr with hr | rfl
        · exact ok.wf r hr
        · simp only [il]; omega
      · rcases hkeys r hr with hr | rfl
        · exact ok.lo r hr
        · exact ⟨ip, d0⟩
      · have := look_put_same ps (is, d) true
        rw [e] at this
        simp [look] at this
  · obtain ⟨j, e3, e4, ps, hj, mx, bx, ed, rfl, ok, pl, pn, j8⟩ := hi
    have hjn : (1 + t).toNat ≤ j := by
      rcases Nat.lt_or_ge j (1 + t).toNat with z | z
      · rw [rng_drop z] at hj; cases hj
      · exact z
    simp only [wpSs, wpS, wpE, wpEs, wpCs, wpP, wpPs, List.map, List.replicate, List.cons_append, List.nil_append, List.append_nil, List.getElem?_cons_zero, List.getElem?_cons_succ, jn, ws_some, List.length_cons, List.length_nil, List.set, at0, at1, at2, idx_tup, c_gt, c_lt, c_le, c_ge, c_is, c_isnt, c_eqI, c_neI, c_eqS, c_neS, c_eqB, c_neB, isS, isNonD, isBlD, t_bl, b_int, b_abs, b_max2, b_min2, b_lenT, o_add, o_sub, permD, Option.map_some]
    have ek : (encL encRw D.bl ps).map (fun p => p.1) = (ps.map (·.1)).map rowD := by
      unfold encL
      rw [List.map_map, List.map_map]
      rfl
    obtain ⟨ss, es, pm⟩ := sortD_rows (ps.map (·.1))
    have hs : bltS .sorted [.ref h.length] h' = some (.ref h'.length, h' ++ [.lst (ss.map rowD)]) := by
      simp only [bltS, itemsOf, ed, Option.bind_some]
      rw [ek, if_pos (sortOK_rows _), es]
      rfl
    rw [hs]
    simp only [ws_some]
    rw [b_tupleL last_at]
    simp only [ws_some]
    have hp0 : ps ≠ [] := pn (by omega)
    have hlen := pm.length_eq
    rw [List.length_map] at hlen
    refine q ss _ ⟨fun r hr => ok.wf r (pm.mem_iff.mp hr), fun r hr => ok.lo r (pm.mem_iff.mp hr)⟩ (fun e => hp0 (List.eq_nil_of_length_eq_zero (by rw [← hlen, e]; rfl))) (by omega) (bx.pre pre_one) (mx.trans (MX.pre pre_one))
/-- values of data: at most k tuples deep, of at most w parts; lists only in reach -/
def VA (h : Hm) (w : Nat) : Nat → D → Prop
  | 0, .tup _ => False
  | k + 1, .tup xs => xs.length ≤ w ∧ ∀ x ∈ xs, VA h w k x
  | _, d => okR h d
theorem VA.ok {h : Hm} {w k : Nat} {d : D} (a : VA h w k d) : okR h d := by
  cases d with
  | tup xs => trivial
  | _ => cases k <;> exact a
theorem VA.of {h : Hm} {w k : Nat} {d : D} (ht : isTupD d = false) (a : okR h d) : VA h w k d := by
  cases d with
  | tup xs => cases ht
  | _ => cases k <;> exact a
theorem VA.mono {h h' : Hm} {w w' : Nat} (hw : w ≤ w') (hk : ∀ d, okR h d → okR h' d) : ∀ (k k' : Nat) (d : D), k ≤ k' → VA h w k d → VA h' w' k' d
  | 0, k', .tup _, _, a => a.elim
  | k + 1, 0, .tup xs, l, a => by omega
  | k + 1, k' + 1, .tup xs, l, a => ⟨Nat.le_trans a.1 hw, fun x hx => VA.mono hw hk k k' x (by omega) (a.2 x hx)⟩
  | _, _, .non, _, a => VA.of rfl (hk _ a.ok)
  | _, _, .bl _, _, a => VA.of rfl (hk _ a.ok)
  | _, _, .int _, _, a => VA.of rfl (hk _ a.ok)
  | _, _, .str _, _, a => VA.of rfl (hk _ a.ok)
  | _, _, .lst _, _, a => VA.of rfl (hk _ a.ok)
  | _, _, .ref _, _, a => VA.of rfl (hk _ a.ok)
theorem okR_pre {h h' : Hm} (p : h <+: h') (d : D) (a : okR h d) : okR h' d := by
  cases d with
  | ref r =>
    obtain ⟨xs, e | e⟩ := a
    · exact ⟨xs, .inl (pre_at p e)⟩
    · exact ⟨xs, .inr (pre_at p e)⟩
  | _ => exact a
theorem okR_mx {m : Nat} {h h' : Hm} (b : BX h' m) (x : MX m h h') (d : D) (a : okR h d) : okR h' d := by
  cases d with
  | ref r =>
    by_cases hr : r = m
    · subst hr
      obtain ⟨b0, b1, e⟩ := b
      exact ⟨_, .inl e⟩
    · obtain ⟨xs, e | e⟩ := a
      · exact ⟨xs, .inl (x.cell e hr)⟩
      · exact ⟨xs, .inr (x.cell e hr)⟩
  | _ => exact a
theorem okR_nil {h : Hm} (d : D) (a : okR [] d) : okR h d := okR_pre ⟨h, rfl⟩ d a
theorem VA.pure {w : Nat} : ∀ (k : Nat) (d : D), VA [] w k d → pureD d = true ∧ dep d ≤ k
  | 0, .tup _, a => a.elim
  | k + 1, .tup xs, a => by
    have : pureDs xs = true ∧ deps xs ≤ k := by
      obtain ⟨hl, a⟩ := a
      clear hl
      induction xs with
      | nil => exact ⟨rfl, Nat.zero_le _⟩
      | cons x xs ih =>
        obtain ⟨h1, h2⟩ := VA.pure k x (a x List.mem_cons_self)
        obtain ⟨h3, h4⟩ := ih fun y hy => a y (List.mem_cons_of_mem _ hy)
        exact ⟨by simp [pureDs, h1, h3], by simp only [deps]; omega⟩
    exact ⟨by simp only [pureD]; exact this.1, by simp only [dep]; omega⟩
  | _, .non, _ => ⟨rfl, Nat.zero_le _⟩
  | _, .bl _, _ => ⟨rfl, Nat.zero_le _⟩
  | _, .int _, _ => ⟨rfl, Nat.zero_le _⟩
  | _, .str _, _ => ⟨rfl, Nat.zero_le _⟩
  | _, .lst _, a => (VA.ok a).elim
  | _, .ref _, a => by
    obtain ⟨xs, e | e⟩ := VA.ok a <;> simp at e
mutual
theorem snapD_pure (f : Nat → Option (List D)) : ∀ d : D, pureD d = true → snapD f d = some d
  | .non, _ => rfl
  | .bl _, _ => rfl
  | .int _, _ => rfl
  | .str _, _ => rfl
  | .tup xs, h => by rw [snapD, snapDs_pure f xs h]; rfl
  | .lst _, h => by cases h
  | .ref _, h => by cases h
theorem snapDs_pure (f : Nat → Option (List D)) : ∀ ds : List D, pureDs ds = true → snapDs f ds = some ds
  | [], _ => rfl
  | d :: ds, h => by
    simp only [pureDs, Bool.and_eq_true] at h
    simp only [snapDs, snapD_pure f d h.1, snapDs_pure f ds h.2]
end
theorem eqv_pure {h : Hm} {x y : D} (hx : pureD x = true) (hy : pureD y = true) (hd : dep x ≤ 60 ∨ dep y ≤ 60) : eqv h x y = some (eqD x y) := by
  have e1 : snap h x = some x := snapD_pure _ x hx
  have e2 : snap h y = some y := snapD_pure _ y hy
  simp only [eqv, e1, e2]
  rw [if_pos (by omega)]
theorem cut_mem {xs : List D} {lo hi : Option Int} {x : D} (h : x ∈ cutL xs lo hi) : x ∈ xs := List.mem_of_mem_drop (List.mem_of_mem_take h)
theorem cut_len {xs : List D} {lo hi : Option Int} : (cutL xs lo hi).length ≤ xs.length := by
  unfold cutL
  rw [List.length_take, List.length_drop]
  omega
theorem o_addT {h : Hm} {xs ys : List D} (hl : xs.length + ys.length ≤ LIM) : binS .add (.tup xs) (.tup ys) h = some (.tup (xs ++ ys), h) := by
  simp [binS, hl]
mutual
def vaB (w : Nat) : Nat → D → Bool
  | _, .ref _ => false
  | _, .lst _ => false
  | 0, .tup _ => false
  | k + 1, .tup xs => decide (xs.length ≤ w) && vaBs w k xs
  | _, _ => true
def vaBs (w : Nat) : Nat → List D → Bool
  | _, [] => true
  | k, x :: xs => vaB w k x && vaBs w k xs
end
mutual
theorem vaB_ok {w : Nat} : ∀ (k : Nat) (d : D), vaB w k d = true → VA [] w k d
  | 0, .tup _, a => by simp [vaB] at a
  | k + 1, .tup xs, a => by
    simp only [vaB, Bool.and_eq_true, decide_eq_true_eq] at a
    exact ⟨a.1, vaBs_ok k xs a.2⟩
  | _, .non, _ => VA.of rfl trivial
  | _, .bl _, _ => VA.of rfl trivial
  | _, .int _, _ => VA.of rfl trivial
  | _, .str _, _ => VA.of rfl trivial
  | k, .lst _, a => by cases k <;> simp [vaB] at a
  | k, .ref _, a => by cases k <;> simp [vaB] at a
theorem vaBs_ok {w : Nat} : ∀ (k : Nat) (ds : List D), vaBs w k ds = true → ∀ d ∈ ds, VA [] w k d
  | _, [], _ => fun _ h => nomatch h
  | k, x :: xs, a => fun d hd => by
    simp only [vaBs, Bool.and_eq_true] at a
    rcases List.mem_cons.mp hd with e | hd
    · rw [e]; exact vaB_ok k x a.1
    · exact vaBs_ok k xs a.2 d hd
end
def odds : List D := [D.non, D.bl true, D.bl false, D.int 0, D.int 1, D.int 2, D.int 3, D.int (0 - 1), D.int 7, D.tup [], D.tup [D.int 0], D.tup [D.int 1], D.tup [D.tup []], D.str [115, 104, 117, 116], D.tup [D.str [104, 111, 108, 100, 115]], D.tup [D.str [115, 104, 117, 116], D.int 0], D.tup [D.str [115, 104, 117, 116], D.int 1], D.str [120]]
theorem eqD_nil (xs : List D) : eqD (.tup xs) (.tup []) = decide (xs = []) := by
  cases xs <;> simp [eqD, eqDs]
theorem slc_tup {h : Hm} {xs : List D} {o o' : Option Int} : slcS (.tup xs) o o' h = some (.tup (cutL xs o o'), h) := rfl
theorem optI_int {i : Int} : optI (.int i) = some (some i) := rfl
theorem optI_non : optI .non = some none := rfl
theorem VA.nil {h : Hm} {w w' k k' : Nat} {d : D} (a : VA [] w k d) (hw : w ≤ w') (hk : k ≤ k') : VA h w' k' d := VA.mono hw okR_nil k k' d hk a
set_option maxRecDepth 20000 in
theorem bent_ok : ∀ (k n : Nat) (v : D) (h : Hm) (a : Nat) (Q : VQ) (E : XP), k + 4 ≤ n → VA [] 50 k v → BX h a → (∀ w h', VA h' 101 (k + 2) w → BX h' a → MX a h h' → Q w h') → FW P n 20 [.ref a, v] h Q E := by
  intro k
  induction k using Nat.strongRecOn with
  | ind k IH =>
    intro n v h a Q E hn hv hb q
    obtain ⟨n, rfl⟩ : ∃ n', n = n' + 4 := ⟨n - 4, by omega⟩
    have hal := hb.lt
    refine fw_open (d := D20) rfl rfl ?_
    unfold D20
    simp only [wpSs, wpS, wpE, wpEs, wpCs, wpP, wpPs, List.map, List.replicate, List.cons_append, List.nil_append, List.append_nil, List.getElem?_cons_zero, List.getElem?_cons_succ, jn, ws_some, List.length_cons, List.length_nil, List.set, at0, at1, at2, idx_tup, c_gt, c_lt, c_le, c_ge, c_is, c_isnt, c_eqI, c_neI, c_eqS, c_neS, c_eqB, c_neB, isS, isNonD, isBlD, t_bl, b_int, b_abs, b_max2, b_min2, b_lenT, o_add, o_sub, permD, Option.map_some]
    have er : (h ++ [Cell.lst [D.int 0]] ++ [Cell.lst (odds ++ [D.ref (List.length h)])])[(h ++ [Cell.lst [D.int 0]]).length]? = some (Cell.lst (odds ++ [D.ref (List.length h)])) := last_at
    refine pick_bx (n := n + 1) (xs := odds ++ [D.ref h.length]) ((hb.pre pre_one).pre pre_one) (by simp; omega) er (by simp) (by simp [odds]) fun o ho h1 b1 m1 => ?_
    have hp : h <+: h ++ [Cell.lst [D.int 0]] ++ [Cell.lst (odds ++ [D.ref (List.length h)])] := pre_one.trans pre_one
    have mx1 : MX a h h1 := (MX.pre hp).trans m1
    have oV : ∀ h2, MX a h1 h2 → VA h2 101 (k + 2) o := fun h2 m2 => by
      rcases List.mem_append.mp ho with ho | ho
      · exact (vaBs_ok (w := 50) 2 odds (by decide) o ho).nil (by omega) (by omega)
      · rw [List.mem_singleton.mp ho]
        refine VA.of rfl ⟨[.int 0], .inl ?_⟩
        have e0 : (h ++ [Cell.lst [D.int 0]] ++ [Cell.lst (odds ++ [D.ref (List.length h)])])[h.length]? = some (Cell.lst [D.int 0]) := pre_at pre_one last_at
        exact m2.cell (m1.cell e0 (by omega)) (by omega)
    refine ⟨by omega, ?_⟩
    rw [isi_ok (okR_nil v hv.ok)]
    simp only [ws_some, t_bl]
    cases v with
    | tup xs =>
      obtain ⟨k, rfl⟩ : ∃ k', k = k' + 1 := by
        cases k with
        | zero => exact hv.elim
        | succ k => exact ⟨k, rfl⟩
      obtain ⟨hxl, hxs⟩ := hv
      obtain ⟨hpu, hdp⟩ := VA.pure (w := 50) (k + 1) (.tup xs) ⟨hxl, hxs⟩
      simp only [kindB, decide_true, Bool.not_true, Bool.false_eq_true, if_false]
      have ec : cmpS .eq (.tup xs) (.tup []) h1 = some (decide (xs = [])) := by
        have : eqv h1 (.tup xs) (.tup []) = some (eqD (.tup xs) (.tup [])) := eqv_pure hpu rfl (.inr (by simp [dep, deps]))
        rw [eqD_nil] at this
        exact this
      rw [ec]
      simp only [ws_some]
      by_cases c0 : xs = []
      · simp only [c0, decide_true, if_true]
        exact q _ _ (oV _ (MX.refl _ _)) b1 mx1
      simp only [c0, decide_false, Bool.false_eq_true, if_false]
      have hx0 : 0 < xs.length := List.length_pos_iff.mpr c0
      refine take_bx b1 (by omega) (by omega) fun t h2 t0 t1 b2 m2 => ?_
      simp only [c_eqI, ws_some]
      by_cases c1 : t = 0
      · simp only [c1, decide_true, if_true]
        exact q _ _ (oV _ m2) b2 (mx1.trans m2)
      simp only [c1, decide_false, Bool.false_eq_true, if_false]
      rw [b_lenT]
      simp only [ws_some]
      refine take_bx b2 (by omega) (by omega) fun d h3 d0 d1 b3 m3 => ?_
      refine take_bx b3 (by omega) (by omega) fun t h4 _ _ b4 m4 => ?_
      have mx4 : MX a h h4 := mx1.trans (m2.trans (m3.trans m4))
      have hat : atI xs d = some (xs[d.toNat]'(by omega)) := at_pos d0 (List.getElem?_eq_getElem (by omega))
      have hmem : xs[d.toNat]'(by omega) ∈ xs := List.getElem_mem _
      refine ⟨by omega, by omega, ?_⟩
      have cl1 : ∀ lo hi, (cutL xs lo hi).length ≤ 50 := fun lo hi => Nat.le_trans cut_len hxl
      have cm1 : ∀ lo hi h', ∀ x ∈ cutL xs lo hi, VA h' 101 (k + 2) x := fun lo hi h' x hx => (hxs x (cut_mem hx)).nil (by omega) (by omega)
      have cut2 : ∀ lo hi lo' hi' h', VA h' 101 (k + 1 + 2) (.tup (cutL xs lo hi ++ cutL xs lo' hi')) := fun lo hi lo' hi' h' => by
        have l1 := cl1 lo hi
        have l2 := cl1 lo' hi'
        exact ⟨by rw [List.length_append]; omega, fun x hx => by
          rcases List.mem_append.mp hx with hx | hx
          · exact cm1 _ _ _ x hx
          · exact cm1 _ _ _ x hx⟩
      have cut3 : ∀ lo hi lo' hi' h' y, VA h' 101 (k + 2) y → VA h' 101 (k + 1 + 2) (.tup (cutL xs lo hi ++ [y] ++ cutL xs lo' hi')) := fun lo hi lo' hi' h' y hy => by
        have l1 := cl1 lo hi
        have l2 := cl1 lo' hi'
        exact ⟨by rw [List.length_append, List.length_append]; simp; omega, fun x hx => by
          rcases List.mem_append.mp hx with hx | hx
          · rcases List.mem_append.mp hx with hx | hx
            · exact cm1 _ _ _ x hx
            · rw [List.mem_singleton.mp hx]; exact hy
          · exact cm1 _ _ _ x hx⟩
      have add1 : ∀ lo hi ys h', ys.length ≤ 60 → binS .add (.tup (cutL xs lo hi)) (.tup ys) h' = some (.tup (cutL xs lo hi ++ ys), h') := fun lo hi ys h' hy => o_addT (by have := cl1 lo hi; unfold LIM; omega)
      have add2 : ∀ lo hi y lo' hi' h', binS .add (.tup (cutL xs lo hi ++ [y])) (.tup (cutL xs lo' hi')) h' = some (.tup (cutL xs lo hi ++ [y] ++ cutL xs lo' hi'), h') := fun lo hi y lo' hi' h' => o_addT (by have := cl1 lo hi; have := cl1 lo' hi'; rw [List.length_append]; simp; unfold LIM; omega)
      have cl60 : ∀ lo hi, (cutL xs lo hi).length ≤ 60 := fun lo hi => Nat.le_trans (cl1 lo hi) (by omega)
      simp only [c_eqI, ws_some, optI_int, optI_non, slc_tup, o_add, idx_tup, hat, b_lenT]
      by_cases c2 : t = 0
      · simp only [c2, decide_true, if_true]
        rw [add1 _ _ _ _ (cl60 _ _)]
        exact q _ _ (cut2 _ _ _ _ _) b4 mx4
      simp only [c2, decide_false, Bool.false_eq_true, if_false]
      by_cases c3 : t = 1
      · simp only [c3, decide_true, if_true]
        rw [add1 _ _ _ _ (by simp)]
        simp only [ws_some]
        rw [add2]
        exact q _ _ (cut3 _ _ _ _ _ _ ((hxs _ hmem).nil (by omega) (by omega))) b4 mx4
      simp only [c3, decide_false, Bool.false_eq_true, if_false]
      by_cases c4 : t = 2
      · simp only [c4, decide_true, if_true]
        refine take_bx b4 (by omega) (by omega) fun e h5 e0 e1 b5 m5 => ?_
        have hat2 : atI xs e = some (xs[e.toNat]'(by omega)) := at_pos e0 (List.getElem?_eq_getElem (by omega))
        have hmem2 : xs[e.toNat]'(by omega) ∈ xs := List.getElem_mem _
        rw [idx_tup, hat2]
        simp only [ws_some]
        rw [add1 _ _ _ _ (by simp)]
        simp only [ws_some]
        rw [add2]
        exact q _ _ (cut3 _ _ _ _ _ _ ((hxs _ hmem2).nil (by omega) (by omega))) b5 (mx4.trans m5)
      simp only [c4, decide_false, Bool.false_eq_true, if_false]
      refine IH k (by omega) _ _ _ _ _ _ (by omega) (hxs _ hmem) b4 fun w h5 wv b5 m5 => ?_
      rw [add1 _ _ _ _ (by simp)]
      simp only [ws_some]
      rw [add2]
      exact q _ _ (cut3 _ _ _ _ _ _ wv) b5 (mx4.trans m5)
    | _ =>
      simp only [kindB, Bool.not_false, if_true, decide_true, decide_false, reduceCtorEq, or_self, or_false]
      exact q _ _ (oV _ (MX.refl _ _)) b1 mx1
theorem eq_ints {h : Hm} {a b : Nat} {is js : List Int} (e1 : h[a]? = some (.lst (is.map D.int))) (e2 : h[b]? = some (.lst (js.map D.int))) : cmpS .eq (.ref a) (.ref b) h = some (decide (is = js)) := by
  have g1 : getL h a = some (is.map D.int) := by unfold getL; rw [e1]
  have g2 : getL h b = some (js.map D.int) := by unfold getL; rw [e2]
  have s1 : snap h (.ref a) = some (.lst (is.map D.int)) := by simp [snap, snapD, snapN, g1, snap_ints]
  have s2 : snap h (.ref b) = some (.lst (js.map D.int)) := by simp [snap, snapD, snapN, g2, snap_ints]
  obtain ⟨_, d1⟩ := pure_ints is
  obtain ⟨_, d2⟩ := pure_ints js
  simp only [cmpS, eqv, s1, s2, dep, d1, d2, eqD, eqDs_ints]
  rw [if_pos (by omega)]
theorem tuple_spec {n : Nat} {h : Hm} {d : D} {Q : VQ} {E : XP} (ok : okR h d) (q : Q (.bl (isTupD d)) h) : FW P (n + 1) 3 [d, .non] h Q E := by
  refine fw_open (d := D3) rfl rfl ?_
  unfold D3
  simp only [wpSs, wpS, wpE, wpEs, wpCs, wpP, wpPs, List.map, List.replicate, List.cons_append, List.nil_append, List.append_nil, List.getElem?_cons_zero, List.getElem?_cons_succ, jn, ws_some, List.length_cons, List.length_nil, List.set, at0, at1, at2, idx_tup, c_gt, c_lt, c_le, c_ge, c_is, c_isnt, c_eqI, c_neI, c_eqS, c_neS, c_eqB, c_neB, isS, isNonD, isBlD, t_bl, b_int, b_abs, b_max2, b_min2, b_lenT, o_add, o_sub, permD, Option.map_some, isi_ok ok]
  cases d <;> simp [kindB, isTupD] at q ⊢ <;> exact q
/-- a value that can be walked as rows -/
def RV (h : Hm) (rv : D) (rs : List Rw) : Prop := rv = rowsD rs ∨ ∃ r, rv = .ref r ∧ h[r]? = some (.lst (rs.map rowD))
theorem RV.it {h : Hm} {rv : D} {rs : List Rw} (a : RV h rv rs) : ∃ g, iterS .val [rv] h = some (rs.map rowD, g) ∧ still g h := by
  rcases a with rfl | ⟨r, rfl, e⟩
  · exact ⟨[], it_tup, still_nil⟩
  · exact ⟨_, it_lst e, still_one e⟩
theorem RV.mx {m : Nat} {h h' : Hm} {rv : D} {rs : List Rw} (a : RV h rv rs) (x : MX m h h') (hm : rv ≠ .ref m) : RV h' rv rs := by
  rcases a with rfl | ⟨r, rfl, e⟩
  · exact .inl rfl
  · exact .inr ⟨r, rfl, x.cell e (fun z => hm (by rw [z]))⟩
theorem RV.pre {h h' : Hm} {rv : D} {rs : List Rw} (a : RV h rv rs) (x : h <+: h') : RV h' rv rs := by
  rcases a with rfl | ⟨r, rfl, e⟩
  · exact .inl rfl
  · exact .inr ⟨r, rfl, pre_at x e⟩
theorem answersV_spec {n : Nat} {h : Hm} {rv : D} {rs : List Rw} {Q : VQ} {E : XP} (hv : RV h rv rs) (hl : rs.length ≤ 1000) (q : ∀ h', h <+: h' → Q (.tup ((ans rs).map D.int)) h') : FW P (n + 1) 4 [rv] h Q E := by
  obtain ⟨g, hit, st⟩ := hv.it
  refine fw_open (d := D4) rfl rfl ?_
  unfold D4
  simp only [wpSs, wpS, wpE, wpEs, wpCs, wpP, wpPs, List.map, List.replicate, List.cons_append, List.nil_append, List.append_nil, List.getElem?_cons_zero, List.getElem?_cons_succ, jn, ws_some, List.length_cons, List.length_nil, List.set, at0, at1, at2, idx_tup, c_gt, c_lt, c_le, c_ge, c_is, c_isnt, c_eqI, c_neI, c_eqS, c_neS, c_eqB, c_neB, isS, isNonD, isBlD, t_bl, b_int, b_abs, b_max2, b_min2, b_lenT, o_add, o_sub, permD, Option.map_some]
  rw [hit]
  simp only [ws_some]
  refine dcomp_new (fun x => match x with
    | .tup [_, b] => (b, .bl true)
    | _ => (.non, .non)) st (by rw [List.length_map]; unfold LIM; omega) (fun x hx => ?_) (fun x hx h R p k => ?_) fun h' kvs p e1 e => ?_
  · obtain ⟨r, _, rfl⟩ := List.mem_map.mp hx
    rfl
  · obtain ⟨r, _, rfl⟩ := List.mem_map.mp hx
    simp only [rowD, wpSs, wpS, wpE, wpEs, wpCs, wpP, wpPs, List.map, List.replicate, List.cons_append, List.nil_append, List.append_nil, List.getElem?_cons_zero, List.getElem?_cons_succ, jn, ws_some, List.length_cons, List.length_nil, List.set, at0, at1, at2, idx_tup, c_gt, c_lt, c_le, c_ge, c_is, c_isnt, c_eqI, c_neI, c_eqS, c_neS, c_eqB, c_neB, isS, isNonD, isBlD, t_bl, b_int, b_abs, b_max2, b_min2, b_lenT, o_add, o_sub, permD, Option.map_some, wipeE]
    exact ⟨by simp, by simp, k h (List.prefix_refl _)⟩
  · have e2 : kvs.map (·.1) = ((rs.map (·.2)).foldl uq []).map D.int := by
      rw [e1, ← dk_ints, List.map_map, List.map_map]
      rfl
    rw [b_sortedD e e2]
    simp only [wpSs, wpS, wpE, wpEs, wpCs, wpP, wpPs, List.map, List.replicate, List.cons_append, List.nil_append, List.append_nil, List.getElem?_cons_zero, List.getElem?_cons_succ, jn, ws_some, List.length_cons, List.length_nil, List.set, at0, at1, at2, idx_tup, c_gt, c_lt, c_le, c_ge, c_is, c_isnt, c_eqI, c_neI, c_eqS, c_neS, c_eqB, c_neB, isS, isNonD, isBlD, t_bl, b_int, b_abs, b_max2, b_min2, b_lenT, o_add, o_sub, permD, Option.map_some]
    rw [b_tupleL last_at]
    exact q _ (p.trans pre_one)
def mx (ns : List Int) : Int := ns.foldl max (ns.headD 0)
theorem b_maxI {h : Hm} {a : Nat} {ns : List Int} (e : h[a]? = some (.lst (ns.map D.int))) (h0 : ns ≠ []) : bltS .max1 [.ref a] h = some (.int (mx ns), h) := by
  simp only [bltS, lstOf, getL, e, Option.bind_some, ints_of]
  rw [if_pos h0]
  rfl
theorem o_addL {h : Hm} {a b : Nat} {xs ys : List D} (e1 : h[a]? = some (.lst xs)) (e2 : h[b]? = some (.lst ys)) (hl : xs.length + ys.length ≤ 1000) : binS .add (.ref a) (.ref b) h = some (.ref h.length, h ++ [.lst (xs ++ ys)]) := by
  have g1 : getM h a = some xs := by unfold getM; rw [e1]
  have g2 : getM h b = some ys := by unfold getM; rw [e2]
  simp only [binS, g1, g2]
  rw [if_pos (by unfold LIM; omega)]
  rfl
theorem okR_setL {h : Hm} {i : Nat} {ys : List D} (d : D) (a : okR h d) : okR (h.set i (.lst ys)) d := by
  cases d with
  | ref r =>
    by_cases hr : i = r
    · subst hr
      obtain ⟨xs, e | e⟩ := a
      · exact ⟨ys, .inl (set_at e)⟩
      · exact ⟨ys, .inl (set_at e)⟩
    · obtain ⟨xs, e | e⟩ := a
      · exact ⟨xs, .inl (by rw [List.getElem?_set_ne hr]; exact e)⟩
      · exact ⟨xs, .inr (by rw [List.getElem?_set_ne hr]; exact e)⟩
  | _ => exact a
end M47

end
section
set_option Elab.async false
set_option linter.all false
set_option autoImplicit false
namespace M47
open M
def ndLe : Option Int → Nat → Bool
  | none, _ => false
  | some i, d => decide (i ≤ (d : Int))
/-- v is the needs of rows -/
structure NV (many : Nat) (rs : List Rw) (v : Option Int) : Prop where
  lo : ∀ i, v = some i → 0 ≤ i
  le : ∀ d, tell many d rs = ndLe v d
/-- the memo of _law_needs -/
structure NM (many : Nat) (rs0 : List Rw) (h : Hm) (m : Nat) : Prop where
  ex : ∃ ps : List (List Rw × Option Int), h[m]? = some (.dct (encL encR ndD ps)) ∧ (ps.map (·.1)).Nodup ∧ (∀ p ∈ ps, p.1 ∈ subs rs0) ∧ ∀ k v, look ps k = some v → (NV many k v)
theorem NM.pre {many : Nat} {rs0 : List Rw} {h h' : Hm} {m : Nat} (a : NM many rs0 h m) (p : h <+: h') : NM many rs0 h' m := by
  obtain ⟨ps, e, r⟩ := a.ex
  exact ⟨ps, pre_at p e, r⟩
theorem NM.set_ne {many : Nat} {rs0 : List Rw} {h : Hm} {m i : Nat} (a : NM many rs0 h m) (hi : i ≠ m) (c : Cell) : NM many rs0 (h.set i c) m := by
  obtain ⟨ps, e, r⟩ := a.ex
  exact ⟨ps, by rw [List.getElem?_set_ne hi]; exact e, r⟩
theorem NM.lt {many : Nat} {rs0 : List Rw} {h : Hm} {m : Nat} (a : NM many rs0 h m) : m < h.length := by
  obtain ⟨ps, e, _⟩ := a.ex
  exact (List.getElem?_eq_some_iff.mp e).1
theorem NM.new {many : Nat} {rs0 : List Rw} {h : Hm} : NM many rs0 (h ++ [.dct []]) h.length := by
  refine ⟨[], last_at, List.nodup_nil, (fun _ h => nomatch h), fun k v e => by simp [look] at e⟩
theorem fold_max : ∀ (l : List Int) (a : Int), a ≤ l.foldl max a ∧ (∀ x ∈ l, x ≤ l.foldl max a) ∧ (l.foldl max a = a ∨ l.foldl max a ∈ l)
  | [], a => ⟨Int.le_refl _, (fun _ h => nomatch h), .inl rfl⟩
  | x :: l, a => by
    obtain ⟨h1, h2, h3⟩ := fold_max l (max a x)
    rw [List.foldl_cons]
    refine ⟨by omega, fun y hy => ?_, ?_⟩
    · rcases List.mem_cons.mp hy with rfl | hy
      · omega
      · exact h2 y hy
    · rcases h3 with h3 | h3
      · rw [h3]
        rcases Int.le_total a x with z | z
        · right; rw [Int.max_eq_right z]; exact List.mem_cons_self
        · left; exact Int.max_eq_left z
      · exact .inr (List.mem_cons_of_mem _ h3)
theorem fold_min : ∀ (l : List Int) (a : Int), l.foldl min a ≤ a ∧ (∀ x ∈ l, l.foldl min a ≤ x) ∧ (l.foldl min a = a ∨ l.foldl min a ∈ l)
  | [], a => ⟨Int.le_refl _, (fun _ h => nomatch h), .inl rfl⟩
  | x :: l, a => by
    obtain ⟨h1, h2, h3⟩ := fold_min l (min a x)
    rw [List.foldl_cons]
    refine ⟨by omega, fun y hy => ?_, ?_⟩
    · rcases List.mem_cons.mp hy with rfl | hy
      · omega
      · exact h2 y hy
    · rcases h3 with h3 | h3
      · rw [h3]
        rcases Int.le_total a x with z | z
        · left; exact Int.min_eq_left z
        · right; rw [Int.min_eq_right z]; exact List.mem_cons_self
      · exact .inr (List.mem_cons_of_mem _ h3)
theorem max_in {l : List Int} (h : l ≠ []) : l.foldl max (l.headD 0) ∈ l ∧ ∀ x ∈ l, x ≤ l.foldl max (l.headD 0) := by
  obtain ⟨h1, h2, h3⟩ := fold_max l (l.headD 0)
  refine ⟨?_, h2⟩
  rcases h3 with h3 | h3
  · rw [h3]; cases l with
    | nil => exact absurd rfl h
    | cons a l => exact List.mem_cons_self
  · exact h3
theorem min_in {l : List Int} (h : l ≠ []) : l.foldl min (l.headD 0) ∈ l ∧ ∀ x ∈ l, l.foldl min (l.headD 0) ≤ x := by
  obtain ⟨h1, h2, h3⟩ := fold_min l (l.headD 0)
  refine ⟨?_, h2⟩
  rcases h3 with h3 | h3
  · rw [h3]; cases l with
    | nil => exact absurd rfl h
    | cons a l => exact List.mem_cons_self
  · exact h3
theorem b_max1 {h : Hm} {a : Nat} {vs : List (Option Int)} (e : h[a]? = some (.lst (vs.map ndD))) (h0 : vs ≠ []) (h1 : none ∉ vs) : ∃ i : Int, bltS .max1 [.ref a] h = some (.int i, h) ∧ some i ∈ vs ∧ ∀ d, vs.all (fun v => ndLe v d) = decide (i ≤ (d : Int)) := by
  obtain ⟨is, e1, e2⟩ := ints_vals vs h1
  have hne : is ≠ [] := fun z => by rw [z] at e1; exact h0 e1
  obtain ⟨m1, m2⟩ := max_in hne
  refine ⟨is.foldl max (is.headD 0), ?_, by rw [e1]; exact List.mem_map_of_mem m1, fun d => ?_⟩
  · simp only [bltS, lstOf, getL, e, Option.bind_some, e2]
    rw [if_pos hne]
  · rw [Bool.eq_iff_iff, e1, List.all_map, List.all_eq_true, decide_eq_true_eq]
    constructor
    · intro z
      have := z _ m1
      simpa [ndLe] using this
    · intro z x hx
      have := m2 x hx
      simp [ndLe]; omega
theorem b_min1 {h : Hm} {a : Nat} {is : List Int} (e : h[a]? = some (.lst (is.map D.int))) (h0 : is ≠ []) : ∃ i : Int, bltS .min1 [.ref a] h = some (.int i, h) ∧ i ∈ is ∧ ∀ d : Int, is.any (fun v => decide (v ≤ d)) = decide (i ≤ d) := by
  obtain ⟨m1, m2⟩ := min_in h0
  refine ⟨is.foldl min (is.headD 0), ?_, m1, fun d => ?_⟩
  · simp only [bltS, lstOf, getL, e, Option.bind_some, ints_of]
    rw [if_pos h0]
  · rw [Bool.eq_iff_iff, List.any_eq_true, decide_eq_true_eq]
    constructor
    · rintro ⟨x, hx, z⟩
      have := m2 x hx
      simp at z; omega
    · intro z
      exact ⟨_, m1, by simpa using z⟩
theorem met_store {many : Nat} {rs0 rs : List Rw} {h : Hm} {m : Nat} {v : Option Int} (hl0 : rs0.length ≤ 20) (nm : NM many rs0 h m) (hs : rs.Sublist rs0) (hv : NV many rs v) : ∃ h4, setS (.ref m) (rowsD rs) (ndD v) h = some h4 ∧ NM many rs0 h4 m ∧ MX m h h4 ∧ idxS (.ref m) (rowsD rs) h4 = some (ndD v) := by
  obtain ⟨ps, e, nd, hk, hq⟩ := nm.ex
  have hin : keyIn (encL encR ndD ps) (rowsD rs) = true := enc_in encR ndD ps rs
  have hlen : ps.length ≤ 2 ^ 20 := by
    have h1 : (ps.map (·.1)).length ≤ (subs rs0).length := nd.length_le_of_subset fun x hx => by
      obtain ⟨p, hp, rfl⟩ := List.mem_map.mp hx
      exact hk p hp
    rw [List.length_map, subs_length] at h1
    exact Nat.le_trans h1 (Nat.pow_le_pow_right (by omega) hl0)
  have hlim : (encL encR ndD ps).length < LIM := by
    unfold encL LIM
    rw [List.length_map]
    omega
  refine ⟨h.set m (.dct (encL encR ndD (put ps rs v))), ?_, ⟨put ps rs v, set_at e, ?_, fun p hp => ?_, fun k w hw => ?_⟩, (MX.refl m h).set _, ?_⟩
  · have : dput (encL encR ndD ps) (rowsD rs) (ndD v) = encL encR ndD (put ps rs v) := enc_put encR ndD ps rs v
    simp only [setS, e]
    rw [if_pos ⟨hin, hlim⟩, this]
  · rw [put_keys]
    split
    · exact nd
    · rename_i hn
      rw [List.nodup_append]
      exact ⟨nd, by simp, fun a ha b hb e => hn (by rw [← List.mem_singleton.mp hb, ← e]; exact ha)⟩
  · have hm : p.1 ∈ (put ps rs v).map (·.1) := List.mem_map_of_mem hp
    rw [put_keys] at hm
    split at hm
    · obtain ⟨q, hq, e⟩ := List.mem_map.mp hm
      rw [← e]; exact hk q hq
    · rcases List.mem_append.mp hm with hm | hm
      · obtain ⟨q, hq, e⟩ := List.mem_map.mp hm
        rw [← e]; exact hk q hq
      · rw [List.mem_singleton.mp hm]; exact mem_subs hs
  · by_cases hkr : k = rs
    · subst hkr
      rw [look_put_same] at hw
      cases hw
      exact hv
    · rw [look_put_ne ps v hkr] at hw
      exact hq k w hw
  · have hin2 : keyIn (encL encR ndD (put ps rs v)) (rowsD rs) = true := enc_in encR ndD _ rs
    have hg2 : dget (encL encR ndD (put ps rs v)) (rowsD rs) = (look (put ps rs v) rs).map ndD := enc_get encR ndD _ rs
    simp only [idxS, set_at e, hin2, if_true]
    rw [hg2, look_put_same]
    rfl
theorem needs_spec {many : Nat} {rs0 : List Rw} (hl0 : rs0.length ≤ 20) : ∀ (n : Nat) (rs : List Rw) (h : Hm) (m : Nat) (Q : VQ) (E : XP), rs.length + 2 ≤ n → rs.Sublist rs0 → WF many rs → NM many rs0 h m → many ≤ 1000 →
    (∀ v h', MX m h h' → NM many rs0 h' m → NV many rs v → Q (ndD v) h') → FW P n 23 [rowsD rs, .int (many : Int), .ref m] h Q E
  | 0, rs, h, m, Q, E, hn, _, _, _, _, _ => by omega
  | n + 1, rs, h, m, Q, E, hn, hsub, hw, hm, hm1, q => by
    have IH := needs_spec (many := many) hl0 n
    have hl : rs.length ≤ 1000 := by have := hsub.length_le; omega
    refine fw_open (d := D23) rfl rfl ?_
    unfold D23
    simp only [wpSs, wpS, wpE, wpEs, wpCs, wpP, wpPs, List.map, List.replicate, List.cons_append, List.nil_append, List.append_nil, List.getElem?_cons_zero, List.getElem?_cons_succ, jn, ws_some, List.length_cons, List.length_nil, List.set, at0, at1, at2, idx_tup, c_gt, c_lt, c_le, c_ge, c_is, c_isnt, c_eqI, c_neI, c_eqS, c_neS, c_eqB, c_neB, isS, isNonD, isBlD, t_bl, b_int, b_abs, b_max2, b_min2, b_lenT, o_add, o_sub, permD, Option.map_some, rowsD, it_tup]
    refine comp_new (fun x => match x with
      | .tup [_, b] => some (.tup [b, .int 1])
      | _ => none) still_nil (by rw [List.length_map]; unfold LIM; omega) (fun x hx h R p k => ?_) fun h1 p1 e1 => ?_
    · obtain ⟨r, _, rfl⟩ := List.mem_map.mp hx
      simp only [rowD, wpSs, wpS, wpE, wpEs, wpCs, wpP, wpPs, List.map, List.replicate, List.cons_append, List.nil_append, List.append_nil, List.getElem?_cons_zero, List.getElem?_cons_succ, jn, ws_some, List.length_cons, List.length_nil, List.set, at0, at1, at2, idx_tup, c_gt, c_lt, c_le, c_ge, c_is, c_isnt, c_eqI, c_neI, c_eqS, c_neS, c_eqB, c_neB, isS, isNonD, isBlD, t_bl, b_int, b_abs, b_max2, b_min2, b_lenT, o_add, o_sub, permD, Option.map_some, wipeE]
      exact ⟨by simp, k h (List.prefix_refl _)⟩
    · have e2 : (rs.map rowD).filterMap (fun x => match x with
        | .tup [_, b] => some (.tup [b, .int 1])
        | _ => none) = (rs.map fun r => (D.int r.2, D.int 1)).map fun p => D.tup [p.1, p.2] := by
        rw [filterMap_map, List.map_map, ← filterMap_some]
        exact fm_congr fun r hr => rfl
      rw [e2] at e1
      obtain ⟨kvs, e3, e4⟩ := b_dictL e1 (by rw [List.length_map]; unfold LIM; omega) fun p hp => by
        obtain ⟨r, _, rfl⟩ := List.mem_map.mp hp
        rfl
      rw [e3]
      simp only [ws_some]
      rw [b_lenD last_at]
      have e5 : kvs.length = (ans rs).length := by
        have : kvs.map (·.1) = ((rs.map (·.2)).foldl uq []).map D.int := by
          rw [e4, ← dk_ints, List.map_map, List.map_map]
          rfl
        have := congrArg List.length this
        rw [List.length_map, List.length_map] at this
        rw [this, ans, lin, sortI_length]
      rw [e5]
      simp only [wpSs, wpS, wpE, wpEs, wpCs, wpP, wpPs, List.map, List.replicate, List.cons_append, List.nil_append, List.append_nil, List.getElem?_cons_zero, List.getElem?_cons_succ, jn, ws_some, List.length_cons, List.length_nil, List.set, at0, at1, at2, idx_tup, c_gt, c_lt, c_le, c_ge, c_is, c_isnt, c_eqI, c_neI, c_eqS, c_neS, c_eqB, c_neB, isS, isNonD, isBlD, t_bl, b_int, b_abs, b_max2, b_min2, b_lenT, o_add, o_sub, permD, Option.map_some]
      have p2 : h <+: h1 ++ [.dct kvs] := p1.trans pre_one
      by_cases c : ((ans rs).length : Int) < 2
      · simp only [c, decide_true, if_true]
        exact q (some 0) _ (MX.pre p2) (hm.pre p2) ⟨(fun i z => by cases z; omega), fun d => by rw [show tell many d rs = true by cases d <;> simp [tell, show (ans rs).length < 2 by omega]]; simp [ndLe]⟩
      · simp only [c, decide_false, Bool.false_eq_true, if_false]
        obtain ⟨ps, hps, nd, hk, hv⟩ := hm.ex
        have hin : keyIn (encL encR ndD ps) (.tup (rs.map rowD)) = true := enc_in encR ndD ps rs
        have hget : dget (encL encR ndD ps) (.tup (rs.map rowD)) = (look ps rs).map ndD := enc_get encR ndD ps rs
        rw [in_dict (pre_at p2 hps) hin, hget]
        cases hq : look ps rs with
        | some v =>
          simp only [wpSs, wpS, wpE, wpEs, wpCs, wpP, wpPs, List.map, List.replicate, List.cons_append, List.nil_append, List.append_nil, List.getElem?_cons_zero, List.getElem?_cons_succ, jn, ws_some, List.length_cons, List.length_nil, List.set, at0, at1, at2, idx_tup, c_gt, c_lt, c_le, c_ge, c_is, c_isnt, c_eqI, c_neI, c_eqS, c_neS, c_eqB, c_neB, isS, isNonD, isBlD, t_bl, b_int, b_abs, b_max2, b_min2, b_lenT, o_add, o_sub, permD, Option.map_some, Option.isSome_some, Bool.not_true, Bool.false_eq_true, if_false]
          have hi : idxS (.ref m) (.tup (rs.map rowD)) (h1 ++ [.dct kvs]) = some (ndD v) := by
            simp only [idxS, pre_at p2 hps, hin, if_true, hget, hq, Option.map_some]
          rw [hi]
          exact q v _ (MX.pre p2) (hm.pre p2) (hv rs v hq)
        | none =>
          simp only [wpSs, wpS, wpE, wpEs, wpCs, wpP, wpPs, List.map, List.replicate, List.cons_append, List.nil_append, List.append_nil, List.getElem?_cons_zero, List.getElem?_cons_succ, jn, ws_some, List.length_cons, List.length_nil, List.set, at0, at1, at2, idx_tup, c_gt, c_lt, c_le, c_ge, c_is, c_isnt, c_eqI, c_neI, c_eqS, c_neS, c_eqB, c_neB, isS, isNonD, isBlD, t_bl, b_int, b_abs, b_max2, b_min2, b_lenT, o_add, o_sub, permD, Option.map_some, Option.map_none, Option.isSome_none, Bool.not_false, if_true]
          refine ⟨by simp, ?_⟩
          rw [it_range (by omega) (by omega)]
          simp only [ws_some]
          have hmlt := hm.lt
          have hH : h.length ≤ (h1 ++ [Cell.dct kvs]).length := by
            obtain ⟨t, ht⟩ := p2
            rw [← ht]; simp
          generalize hF : (h1 ++ [Cell.dct kvs]) = H0 at p2 hH ⊢
          refine forL_inv (fun l env h' => ∃ (j : Nat) (fs : List Int) (e4 e5 e6 e7 e8 e9 : Option D), l = (rngD 0 ((many : Nat) : Int).toNat).drop j ∧ MX m h h' ∧ NM many rs0 h' m ∧ h'[H0.length]? = some (.lst (fs.map D.int)) ∧ env = [some (rowsD rs), some (.int (many : Int)), some (.ref m), some (.ref H0.length), e4, e5, e6, e7, e8, e9] ∧ (∀ f ∈ fs, 1 ≤ f) ∧ (∀ d : Nat, fs.any (fun f => decide (f ≤ (d : Int) + 1)) = (List.range j).any (good many (tell many d) rs)) ∧ fs.length ≤ j ∧ j ≤ many)
            (fun _ _ _ _ => still_nil) (fun x l env h' R hi k => ?_) (fun env h' hi => ?_) _ _ _ ⟨0, [], none, none, none, none, none, none, rfl, MX.pre (p2.trans pre_one), hm.pre (p2.trans pre_one), last_at, rfl, (fun _ h => nomatch h), fun _ => rfl, by simp⟩
          · obtain ⟨j, fs, e4, e5, e6, e7, e8, e9, hj, mx, nm, ef, rfl, f1, f2, f3⟩ := hi
            have hjn : j < ((many : Nat) : Int).toNat := by
              rcases Nat.lt_or_ge j ((many : Nat) : Int).toNat with z | z
              · exact z
              · rw [rng_end z] at hj; cases hj
            rw [rng_drop hjn] at hj
            cases hj
            simp only [wpSs, wpS, wpE, wpEs, wpCs, wpP, wpPs, List.map, List.replicate, List.cons_append, List.nil_append, List.append_nil, List.getElem?_cons_zero, List.getElem?_cons_succ, jn, ws_some, List.length_cons, List.length_nil, List.set, at0, at1, at2, idx_tup, c_gt, c_lt, c_le, c_ge, c_is, c_isnt, c_eqI, c_neI, c_eqS, c_neS, c_eqB, c_neB, isS, isNonD, isBlD, t_bl, b_int, b_abs, b_max2, b_min2, b_lenT, o_add, o_sub, permD, Option.map_some]
            refine ⟨by simp, ?_⟩
            obtain ⟨n', rfl⟩ : ∃ n', n = n' + 1 := ⟨n - 1, by omega⟩
            refine parts_spec hw (by omega) (by omega) hl fun h2 r p3 er hr => ?_
            refine ⟨by simp, ?_⟩
            rw [b_lenL er]
            simp only [wpSs, wpS, wpE, wpEs, wpCs, wpP, wpPs, List.map, List.replicate, List.cons_append, List.nil_append, List.append_nil, List.getElem?_cons_zero, List.getElem?_cons_succ, jn, ws_some, List.length_cons, List.length_nil, List.set, at0, at1, at2, idx_tup, c_gt, c_lt, c_le, c_ge, c_is, c_isnt, c_eqI, c_neI, c_eqS, c_neS, c_eqB, c_neB, isS, isNonD, isBlD, t_bl, b_int, b_abs, b_max2, b_min2, b_lenT, o_add, o_sub, permD, Option.map_some, List.length_map]
            have mx2 : MX m h h2 := mx.trans (MX.pre p3)
            have nm2 := nm.pre p3
            have ef2 := pre_at p3 ef
            by_cases c2 : (1 : Int) < ((parts rs (j : Int)).length : Int)
            · simp only [c2, decide_true, if_true]
              rw [it_lst er]
              simp only [ws_some]
              refine comp_inv (fun l acc hh => ∃ done rest vals, parts rs (j : Int) = done ++ rest ∧ l = rest.map partD ∧ acc = vals.map ndD ∧ MX m h hh ∧ NM many rs0 hh m ∧ hh[H0.length]? = some (.lst (fs.map D.int)) ∧ hh[r]? = some (.lst ((parts rs (j : Int)).map partD)) ∧ hh[h2.length]? = some (.lst acc) ∧ ((∀ v ∈ vals, ∀ i, v = some i → 0 ≤ i) ∧ ∀ d, vals.all (fun v => ndLe v d) = done.all fun p => tell many d p.2) ∧ vals.length = done.length)
                (fun l acc hh ⟨_, _, _, _, _, _, _, _, _, q1, _⟩ => still_one q1) (fun x l acc hh R' hi k1 k2 => ?_) (fun acc hh hi => ?_) _ _ _ ⟨[], parts rs (j : Int), [], rfl, rfl, rfl, mx2.trans (MX.pre pre_one), nm2.pre pre_one, pre_at pre_one ef2, pre_at pre_one er, last_at, ⟨(fun _ h => nomatch h), fun _ => rfl⟩, rfl⟩
              · obtain ⟨done, rest, vals, hp, hx, rfl, mxa, nma, ea, ra, ca, va, la⟩ := hi
                cases rest with
                | nil => cases hx
                | cons p rest =>
                  rw [List.map_cons] at hx
                  cases hx
                  have hpm : p ∈ parts rs (j : Int) := by rw [hp]; simp
                  have hpe := (mem_parts.mp hpm).1
                  have hlt : p.2.length < rs.length := by rw [hpe]; exact part_lt (by omega)
                  have hsub2 : p.2.Sublist rs := by rw [hpe]; exact part_sub
                  simp only [partD, wpSs, wpS, wpE, wpEs, wpCs, wpP, wpPs, List.map, List.replicate, List.cons_append, List.nil_append, List.append_nil, List.getElem?_cons_zero, List.getElem?_cons_succ, jn, ws_some, List.length_cons, List.length_nil, List.set, at0, at1, at2, idx_tup, c_gt, c_lt, c_le, c_ge, c_is, c_isnt, c_eqI, c_neI, c_eqS, c_neS, c_eqB, c_neB, isS, isNonD, isBlD, t_bl, b_int, b_abs, b_max2, b_min2, b_lenT, o_add, o_sub, permD, Option.map_some, wipeE]
                  refine ⟨by simp, by simp, ?_⟩
                  refine IH p.2 hh m _ _ (by omega) (hsub2.trans hsub) (fun q hq => hw q (hsub2.subset hq)) nma hm1 fun v h3 mx3 nm3 hv => ?_
                  have hl2 : h.length ≤ h2.length := mx2.len
                  have n1 : h2.length ≠ m := by omega
                  have n2 : H0.length ≠ m := by omega
                  have hle : h'.length ≤ h2.length := by obtain ⟨t, rfl⟩ := p3; simp
                  have hf2 : H0.length < h'.length := (List.getElem?_eq_some_iff.mp ef).1
                  have hr2 : r < h2.length := (List.getElem?_eq_some_iff.mp er).1
                  have hpl : (parts rs (j : Int)).length ≤ 1000 := by
                    unfold parts
                    rw [List.length_map]
                    have := lin_length (rs.map (col (j : Int)))
                    rw [List.length_map] at this
                    omega
                  refine k1 _ h3 (mx3.cell ca n1) (by
                    rw [List.length_map, la]
                    have := congrArg List.length hp
                    rw [List.length_append] at this
                    unfold LIM; omega) ⟨done ++ [p], rest, vals ++ [v], by rw [hp]; simp, rfl, by simp, (mxa.trans mx3).set_new hl2 _, nm3.set_ne n1 _, ?_, ?_, set_at (mx3.cell ca n1), ?_, by simp [la]⟩
                  · rw [List.getElem?_set_ne (by omega)]
                    exact mx3.cell ea n2
                  · rw [List.getElem?_set_ne (by omega)]
                    exact mx3.cell ra (by omega)
                  · refine ⟨fun w hw i e => ?_, fun d => ?_⟩
                    · rcases List.mem_append.mp hw with hw | hw
                      · exact va.1 w hw i e
                      · rw [List.mem_singleton.mp hw] at e; exact hv.lo i e
                    · rw [List.all_append, List.all_append, va.2 d, List.all_cons, List.all_nil, List.all_cons, List.all_nil, hv.le d]
              · obtain ⟨done, rest, vals, hp, hx, rfl, mxa, nma, ea, ra, ca, va, la⟩ := hi
                have hr0 : rest = [] := List.map_eq_nil_iff.mp hx.symm
                subst hr0
                rw [List.append_nil] at hp
                refine ⟨by simp, ?_⟩
                rw [notin_none ca]
                simp only [ws_some]
                by_cases hno : none ∈ vals
                · simp only [hno, decide_true, Bool.not_true, Bool.false_eq_true, if_false]
                  refine k _ _ ⟨j + 1, fs, _, _, _, _, _, _, rfl, mxa, nma, ea, rfl, f1, fun d => ?_, by omega⟩
                  rw [List.range_succ, List.any_append, f2 d, List.any_cons, List.any_nil, Bool.or_false]
                  have : good many (tell many d) rs j = false := by
                    unfold good
                    rw [hp, ← va.2 d, Bool.and_eq_false_iff]
                    right
                    rw [Bool.eq_false_iff]
                    intro z
                    have := List.all_eq_true.mp z none hno
                    exact Bool.noConfusion this
                  rw [this, Bool.or_false]
                · simp only [hno, decide_false, Bool.not_false, if_true]
                  have hv0 : vals ≠ [] := fun z => by
                    subst z
                    have : (parts rs (j : Int)).length = 0 := by rw [hp, ← la]; rfl
                    omega
                  obtain ⟨i, hi, hi2, hi3⟩ := b_max1 ca hv0 hno
                  have hi0 := va.1 _ hi2 i rfl
                  have eg : getL hh H0.length = some (fs.map D.int) := by unfold getL; rw [ea]
                  have em : getM hh H0.length = some (fs.map D.int) := by unfold getM; rw [ea]
                  refine ⟨by simp [recvOK, eg], ?_⟩
                  rw [hi]
                  simp only [wpSs, wpS, wpE, wpEs, wpCs, wpP, wpPs, List.map, List.replicate, List.cons_append, List.nil_append, List.append_nil, List.getElem?_cons_zero, List.getElem?_cons_succ, jn, ws_some, List.length_cons, List.length_nil, List.set, at0, at1, at2, idx_tup, c_gt, c_lt, c_le, c_ge, c_is, c_isnt, c_eqI, c_neI, c_eqS, c_neS, c_eqB, c_neB, isS, isNonD, isBlD, t_bl, b_int, b_abs, b_max2, b_min2, b_lenT, o_add, o_sub, permD, Option.map_some]
                  have ha : bltS .append [.ref H0.length, .int (1 + i)] hh = some (.non, hh.set H0.length (.lst ((fs ++ [1 + i]).map D.int))) := by
                    simp only [bltS, em, Option.bind_some]
                    rw [if_pos (by rw [List.length_map]; unfold LIM; omega), List.map_append]
                    rfl
                  rw [ha]
                  simp only [ws_some]
                  have hl2 : h.length ≤ H0.length := hH
                  refine k _ _ ⟨j + 1, fs ++ [1 + i], _, _, _, _, _, _, rfl, mxa.set_new hl2 _, nma.set_ne (by omega) _, set_at ea, rfl, fun f hf => ?_, fun d => ?_, by simp; omega⟩
                  · rcases List.mem_append.mp hf with hf | hf
                    · exact f1 f hf
                    · rw [List.mem_singleton.mp hf]; omega
                  · rw [List.range_succ, List.any_append, List.any_append, f2 d, List.any_cons, List.any_nil, Bool.or_false, List.any_cons, List.any_nil, Bool.or_false]
                    have : good many (tell many d) rs j = decide (1 + i ≤ (d : Int) + 1) := by
                      unfold good
                      rw [decide_eq_true (by omega : 1 < (parts rs (j : Int)).length), Bool.true_and, hp, ← va.2 d, hi3 d]
                      exact decide_eq_decide.mpr (by omega)
                    rw [this]
            · simp only [c2, decide_false, Bool.false_eq_true, if_false]
              refine ⟨by simp, ?_⟩
              have hnn : cmpS .notin .non (.ref h2.length) (h2 ++ [.lst [.non]]) = some false := notin_none (vs := [none]) last_at
              rw [hnn]
              simp only [ws_some, Bool.false_eq_true, if_false]
              refine k _ _ ⟨j + 1, fs, _, _, _, _, _, _, rfl, mx2.trans (MX.pre pre_one), nm2.pre pre_one, pre_at pre_one ef2, rfl, f1, fun d => ?_, by omega⟩
              rw [List.range_succ, List.any_append, f2 d, List.any_cons, List.any_nil, Bool.or_false]
              have : good many (tell many d) rs j = false := by
                unfold good
                rw [decide_eq_false (by omega), Bool.false_and]
              rw [this, Bool.or_false]
          · obtain ⟨j, fs, e4, e5, e6, e7, e8, e9, hj, mx, nm, ef, rfl, f1, f2, f3⟩ := hi
            have hjn : ((many : Nat) : Int).toNat ≤ j := by
              rcases Nat.lt_or_ge j ((many : Nat) : Int).toNat with z | z
              · rw [rng_drop z] at hj; cases hj
              · exact z
            simp only [wpSs, wpS, wpE, wpEs, wpCs, wpP, wpPs, List.map, List.replicate, List.cons_append, List.nil_append, List.append_nil, List.getElem?_cons_zero, List.getElem?_cons_succ, jn, ws_some, List.length_cons, List.length_nil, List.set, at0, at1, at2, idx_tup, c_gt, c_lt, c_le, c_ge, c_is, c_isnt, c_eqI, c_neI, c_eqS, c_neS, c_eqB, c_neB, isS, isNonD, isBlD, t_bl, b_int, b_abs, b_max2, b_min2, b_lenT, o_add, o_sub, permD, Option.map_some]
            rw [ne_empty (a := H0.length) (b := h'.length) (pre_at pre_one ef) last_at]
            simp only [ws_some]
            have hjm : j = many := by omega
            subst hjm
            have t0 : tell j 0 rs = false := by unfold tell; exact decide_eq_false (by omega)
            have ts : ∀ d, tell j (d + 1) rs = fs.any (fun f => decide (f ≤ (d : Int) + 1)) := fun d => by
              rw [f2 d, tell, decide_eq_false (by omega), Bool.false_or]
            by_cases hf : fs = []
            · simp only [hf, decide_true, Bool.not_true, Bool.false_eq_true, if_false]
              have nv : NV j rs none := ⟨(fun i z => nomatch z), fun d => by
                cases d with
                | zero => exact t0
                | succ d => rw [ts d, hf]; rfl⟩
              obtain ⟨h4, s1, s2, s3, s4⟩ := met_store (v := none) hl0 (nm.pre (pre_one (c := .lst []))) hsub nv
              have s1' : setS (.ref m) (rowsD rs) .non (h' ++ [.lst []]) = some h4 := s1
              rw [s1']
              simp only [ws_some]
              rw [s4]
              exact q none _ (mx.trans ((MX.pre pre_one).trans s3)) s2 nv
            · simp only [hf, decide_false, Bool.not_false, if_true]
              obtain ⟨i, hi, hi2, hi3⟩ := b_min1 (pre_at (pre_one (c := .lst [])) ef) hf
              rw [hi]
              simp only [ws_some]
              have nv : NV j rs (some i) := ⟨(fun i' z => by cases z; have := f1 i hi2; omega), fun d => by
                cases d with
                | zero => rw [t0]; symm; have := f1 i hi2; simp [ndLe]; omega
                | succ d => rw [ts d, hi3]; simp [ndLe]⟩
              obtain ⟨h4, s1, s2, s3, s4⟩ := met_store (v := some i) hl0 (nm.pre (pre_one (c := .lst []))) hsub nv
              have s1' : setS (.ref m) (rowsD rs) (.int i) (h' ++ [.lst []]) = some h4 := s1
              rw [s1']
              simp only [ws_some]
              rw [s4]
              exact q (some i) _ (mx.trans ((MX.pre pre_one).trans s3)) s2 nv
end M47

end
section
set_option Elab.async false
set_option linter.all false
set_option autoImplicit false
/-! plain: plays, built and judged -/
namespace M47
open M
abbrev HI := List (Int × Int)
abbrev Ky := HI × Int
abbrev PR := List (Ky × Int)
abbrev Ln := List (HI × List Rw)
def asks (many : Nat) (f : HI × List Rw → Nat → Int) (line : Ln) : PR := line.flatMap fun p => (List.range many).map fun (a : Nat) => ((p.1, (a : Int)), f p a)
def nxt (many : Nat) (f : HI × List Rw → Nat → Int) (line : Ln) : Ln := line.flatMap fun p => (List.range many).map fun (a : Nat) => (p.1 ++ [((a : Int), f p a)], part p.2 (a : Int) (f p a))
def bld (ch : Nat → List Rw → Nat → Int) (many : Nat) : Nat → Ln → PR
  | 0, _ => []
  | d + 1, line => asks many (fun p a => ch d p.2 a) line ++ bld ch many d (nxt many (fun p a => ch d p.2 a) line)
def lk (V : PR) (p : HI × List Rw) (a : Nat) : Int := (look V (p.1, (a : Int))).getD 0
def hasL (V : PR) (many : Nat) (line : Ln) : Bool := line.all fun p => (List.range many).all fun (a : Nat) => (look V (p.1, (a : Int))).isSome
def judge (V : PR) (many : Nat) : Nat → Ln → Bool
  | 0, line => line.all fun p => decide (1 < (ans p.2).length)
  | d + 1, line => hasL V many line && judge V many d (nxt many (lk V) line)
theorem good_mono {many : Nat} {t t' : List Rw → Bool} (h : ∀ rs, t rs = true → t' rs = true) {rs : List Rw} {a : Nat} (g : good many t rs a = true) : good many t' rs a = true := by
  unfold good at g ⊢
  rw [Bool.and_eq_true] at g ⊢
  refine ⟨g.1, ?_⟩
  rw [List.all_eq_true] at g ⊢
  exact fun p hp => h _ (g.2 p hp)
theorem tell_mono {many : Nat} : ∀ (d : Nat) (rs : List Rw), tell many d rs = true → tell many (d + 1) rs = true
  | 0, rs, h => by
    unfold tell at h ⊢
    rw [h, Bool.true_or]
  | d + 1, rs, h => by
    rw [tell] at h ⊢
    rw [Bool.or_eq_true] at h ⊢
    rcases h with h | h
    · exact .inl h
    · right
      rw [List.any_eq_true] at h ⊢
      obtain ⟨a, ha, g⟩ := h
      exact ⟨a, ha, good_mono (tell_mono d) g⟩
theorem not_tell_ans {many d : Nat} {rs : List Rw} (h : tell many d rs = false) : 1 < (ans rs).length := by
  cases d with
  | zero => unfold tell at h; have := of_decide_eq_false h; omega
  | succ d =>
    rw [tell, Bool.or_eq_false_iff] at h
    have := of_decide_eq_false h.1; omega
theorem ans_ne_nil {rs : List Rw} (h : 1 < (ans rs).length) : rs ≠ [] := fun z => by subst z; simp [ans, lin, sortI] at h
/-- a part that is not told -/
theorem open_ex {many d : Nat} {rs : List Rw} (h : tell many (d + 1) rs = false) {a : Nat} (ha : a < many) : ∃ p ∈ parts rs (a : Int), tell many d p.2 = false := by
  have h1 := not_tell_ans h
  have hd : tell many d rs = false := by
    cases c : tell many d rs with
    | false => rfl
    | true => rw [tell_mono d rs c] at h; cases h
  rw [tell, Bool.or_eq_false_iff] at h
  have g : good many (tell many d) rs a = false := by
    have := List.any_eq_false.mp h.2 a (List.mem_range.mpr ha)
    simpa using this
  unfold good at g
  rw [Bool.and_eq_false_iff] at g
  by_cases c : 1 < (parts rs (a : Int)).length
  · rcases g with g | g
    · exact absurd c (of_decide_eq_false g)
    · rw [List.all_eq_false] at g
      obtain ⟨p, hp, e⟩ := g
      exact ⟨p, hp, by simpa using e⟩
  · obtain ⟨r, rs', e⟩ : ∃ r rs', rs = r :: rs' := by
      cases rs with
      | nil => exact absurd rfl (ans_ne_nil h1)
      | cons r rs => exact ⟨r, rs, rfl⟩
    have hr : r ∈ rs := by rw [e]; exact List.mem_cons_self
    have hm : (col (a : Int) r, part rs (a : Int) (col (a : Int) r)) ∈ parts rs (a : Int) := mem_parts.mpr ⟨rfl, r, hr, rfl⟩
    refine ⟨_, hm, ?_⟩
    have hall : ∀ s ∈ rs, col (a : Int) s = col (a : Int) r := fun s hs => by
      have hm2 : (col (a : Int) s, part rs (a : Int) (col (a : Int) s)) ∈ parts rs (a : Int) := mem_parts.mpr ⟨rfl, s, hs, rfl⟩
      cases hl : parts rs (a : Int) with
      | nil => rw [hl] at hm; cases hm
      | cons q l =>
        rw [hl] at hm hm2 c
        have : l = [] := by
          cases l with
          | nil => rfl
          | cons _ _ => simp at c
        subst this
        have e1 := List.mem_singleton.mp hm
        have e2 := List.mem_singleton.mp hm2
        rw [← e1] at e2
        exact congrArg Prod.fst e2
    have : part rs (a : Int) (col (a : Int) r) = rs := by
      unfold part
      exact List.filter_eq_self.mpr fun s hs => by simp [hall s hs]
    rw [this]; exact hd
def CH (many : Nat) (ch : Nat → List Rw → Nat → Int) : Prop := ∀ (d : Nat) (p : List Rw) (a : Nat), a < many → tell many (d + 1) p = false → tell many d (part p (a : Int) (ch d p a)) = false ∧ ∃ r ∈ p, col (a : Int) r = ch d p a
def OpL (many d : Nat) (line : Ln) : Prop := ∀ p ∈ line, tell many d p.2 = false
theorem nxt_mem {many : Nat} {f : HI × List Rw → Nat → Int} {line : Ln} {q : HI × List Rw} : q ∈ nxt many f line ↔ ∃ p ∈ line, ∃ a, a < many ∧ q = (p.1 ++ [((a : Int), f p a)], part p.2 (a : Int) (f p a)) := by
  unfold nxt
  rw [List.mem_flatMap]
  constructor
  · rintro ⟨p, hp, h⟩
    obtain ⟨a, ha, e⟩ := List.mem_map.mp h
    exact ⟨p, hp, a, List.mem_range.mp ha, e.symm⟩
  · rintro ⟨p, hp, a, ha, e⟩
    exact ⟨p, hp, List.mem_map.mpr ⟨a, List.mem_range.mpr ha, e.symm⟩⟩
theorem asks_mem {many : Nat} {f : HI × List Rw → Nat → Int} {line : Ln} {q : Ky × Int} : q ∈ asks many f line ↔ ∃ p ∈ line, ∃ a : Nat, a < many ∧ q = ((p.1, (a : Int)), f p a) := by
  unfold asks
  rw [List.mem_flatMap]
  constructor
  · rintro ⟨p, hp, h⟩
    obtain ⟨a, ha, e⟩ := List.mem_map.mp h
    exact ⟨p, hp, a, List.mem_range.mp ha, e.symm⟩
  · rintro ⟨p, hp, a, ha, e⟩
    exact ⟨p, hp, List.mem_map.mpr ⟨a, List.mem_range.mpr ha, e.symm⟩⟩
theorem OpL.nxt {many d : Nat} {line : Ln} {ch : Nat → List Rw → Nat → Int} (C : CH many ch) (h : OpL many (d + 1) line) : OpL many d (nxt many (fun p a => ch d p.2 a) line) := fun q hq => by
  obtain ⟨p, hp, a, ha, rfl⟩ := nxt_mem.mp hq
  exact (C d p.2 a ha (h p hp)).1
theorem look_of {V : PR} (nd : (V.map (·.1)).Nodup) {k : Ky} {v : Int} (h : (k, v) ∈ V) : look V k = some v := by
  unfold look
  induction V with
  | nil => cases h
  | cons q V ih =>
    rw [List.map_cons, List.nodup_cons] at nd
    rw [List.find?_cons]
    rcases List.mem_cons.mp h with h | h
    · rw [← h]; simp
    · have : ¬ q.1 = k := fun e => nd.1 (by rw [e]; exact List.mem_map_of_mem h)
      simp only [this, decide_false]
      exact ih nd.2 h
theorem flatMap_congr' {α β : Type} {f g : α → List β} : ∀ {l : List α}, (∀ x ∈ l, f x = g x) → l.flatMap f = l.flatMap g
  | [], _ => rfl
  | x :: l, h => by rw [List.flatMap_cons, List.flatMap_cons, h x List.mem_cons_self, flatMap_congr' fun y hy => h y (List.mem_cons_of_mem _ hy)]
theorem nxt_congr {many : Nat} {f g : HI × List Rw → Nat → Int} {line : Ln} (h : ∀ p ∈ line, ∀ a, a < many → f p a = g p a) : nxt many f line = nxt many g line := by
  unfold nxt
  refine flatMap_congr' fun p hp => List.map_congr_left fun a ha => ?_
  rw [h p hp a (List.mem_range.mp ha)]
theorem bld_judge {many : Nat} {ch : Nat → List Rw → Nat → Int} (C : CH many ch) {V : PR} (nd : (V.map (·.1)).Nodup) : ∀ (d : Nat) (line : Ln), OpL many d line → (∀ e ∈ bld ch many d line, e ∈ V) → judge V many d line = true
  | 0, line, op, _ => by
    unfold judge
    rw [List.all_eq_true]
    exact fun p hp => decide_eq_true (not_tell_ans (op p hp))
  | d + 1, line, op, sub => by
    have lkp : ∀ p ∈ line, ∀ a, a < many → look V (p.1, (a : Int)) = some (ch d p.2 a) := fun p hp a ha => look_of nd (sub _ (by
      rw [bld]
      exact List.mem_append_left _ (asks_mem.mpr ⟨p, hp, a, ha, rfl⟩)))
    rw [judge, Bool.and_eq_true]
    constructor
    · unfold hasL
      rw [List.all_eq_true]
      intro p hp
      rw [List.all_eq_true]
      intro a ha
      rw [lkp p hp a (List.mem_range.mp ha)]; rfl
    · rw [nxt_congr (g := fun p a => ch d p.2 a) fun p hp a ha => by unfold lk; rw [lkp p hp a ha]; rfl]
      exact bld_judge C nd d _ (op.nxt C) fun e he => sub e (by rw [bld]; exact List.mem_append_right _ he)
structure LnOk (L : Nat) (line : Ln) : Prop where
  nd : (line.map (·.1)).Nodup
  len : ∀ p ∈ line, p.1.length = L
theorem pmap_nodup {α β : Type} {f : α → β} : ∀ {l : List α}, (∀ a ∈ l, ∀ b ∈ l, f a = f b → a = b) → l.Nodup → (l.map f).Nodup
  | [], _, _ => by simp
  | x :: l, h, n => by
    rw [List.nodup_cons] at n
    rw [List.map_cons, List.nodup_cons]
    refine ⟨fun z => ?_, pmap_nodup (fun a ha b hb => h a (List.mem_cons_of_mem _ ha) b (List.mem_cons_of_mem _ hb)) n.2⟩
    obtain ⟨y, hy, e⟩ := List.mem_map.mp z
    have := h y (List.mem_cons_of_mem _ hy) x List.mem_cons_self e
    rw [this] at hy
    exact n.1 hy
theorem fm_nodup {β : Type} {many : Nat} (g : HI × List Rw → Nat → β) (inj : ∀ p q a b, g p a = g q b → p.1 = q.1 ∧ a = b) : ∀ line : Ln, (line.map (·.1)).Nodup → (line.flatMap fun p => (List.range many).map fun a => g p a).Nodup
  | [], _ => by simp
  | p :: line, n => by
    rw [List.map_cons, List.nodup_cons] at n
    rw [List.flatMap_cons, List.nodup_append]
    refine ⟨pmap_nodup (fun a _ b _ e => (inj p p a b e).2) List.nodup_range, fm_nodup g inj line n.2, fun x hx y hy e => ?_⟩
    obtain ⟨a, _, rfl⟩ := List.mem_map.mp hx
    obtain ⟨q, hq, hy⟩ := List.mem_flatMap.mp hy
    obtain ⟨b, _, rfl⟩ := List.mem_map.mp hy
    exact n.1 (by rw [(inj p q a b e).1]; exact List.mem_map_of_mem hq)
theorem LnOk.nxt {L many : Nat} {line : Ln} {f : HI × List Rw → Nat → Int} (h : LnOk L line) : LnOk (L + 1) (nxt many f line) := by
  refine ⟨?_, fun q hq => ?_⟩
  · have e : (M47.nxt many f line).map (·.1) = line.flatMap fun p => (List.range many).map fun (a : Nat) => (p.1 ++ [((a : Int), f p a)]) := by
      unfold M47.nxt
      rw [List.map_flatMap]
      refine flatMap_congr' fun p _ => ?_
      rw [List.map_map]; rfl
    rw [e]
    refine fm_nodup _ (fun p q a b e => ?_) line h.nd
    have e1 := List.append_inj' e rfl
    refine ⟨e1.1, ?_⟩
    have := congrArg (fun l => l.map Prod.fst) e1.2
    simp at this
    omega
  · obtain ⟨p, hp, a, ha, rfl⟩ := nxt_mem.mp hq
    simp [h.len p hp]
theorem bld_keys {many : Nat} {ch : Nat → List Rw → Nat → Int} : ∀ (d L : Nat) (line : Ln), LnOk L line → ((bld ch many d line).map (·.1)).Nodup ∧ ∀ e ∈ bld ch many d line, L ≤ e.1.1.length ∧ e.1.1.length < L + d
  | 0, L, line, h => ⟨by simp [bld], (fun _ h => nomatch h)⟩
  | d + 1, L, line, h => by
    obtain ⟨i1, i2⟩ := bld_keys (many := many) (ch := ch) d (L + 1) _ (h.nxt (many := many) (f := fun p a => ch d p.2 a))
    have hl : ∀ e ∈ asks many (fun p a => ch d p.2 a) line, e.1.1.length = L := fun e he => by
      obtain ⟨p, hp, a, ha, rfl⟩ := asks_mem.mp he
      exact h.len p hp
    constructor
    · rw [bld, List.map_append, List.nodup_append]
      refine ⟨?_, i1, fun x hx y hy e => ?_⟩
      · have e : (asks many (fun p a => ch d p.2 a) line).map (·.1) = line.flatMap fun p => (List.range many).map fun (a : Nat) => (p.1, (a : Int)) := by
          unfold asks
          rw [List.map_flatMap]
          refine flatMap_congr' fun p _ => ?_
          rw [List.map_map]; rfl
        rw [e]
        refine fm_nodup _ (fun p q a b e => ?_) line h.nd
        have e1 := congrArg Prod.fst e
        have e2 : (a : Int) = b := congrArg Prod.snd e
        exact ⟨e1, by omega⟩
      · obtain ⟨u, hu, rfl⟩ := List.mem_map.mp hx
        obtain ⟨w, hw, rfl⟩ := List.mem_map.mp hy
        have := hl u hu
        have := (i2 w hw).1
        rw [e] at *
        omega
    · intro e he
      rw [bld, List.mem_append] at he
      rcases he with he | he
      · have := hl e he; omega
      · have := i2 e he; omega
/-- whether an asked is right -/
def okP (many : Nat) (q : Int × Int) : Prop := 0 ≤ q.1 ∧ q.1 < many ∧ 0 ≤ q.2
def LO (rs : List Rw) : Prop := ∀ r ∈ rs, (∀ i ∈ r.1, 0 ≤ i) ∧ 0 ≤ r.2
theorem col_lo {a : Int} {r : Rw} (h : ∀ i ∈ r.1, 0 ≤ i) : 0 ≤ col a r := by
  unfold col
  rw [List.getD_eq_getElem?_getD]
  cases e : r.1[a.toNat]? with
  | none => simp
  | some x => exact h x (List.mem_of_getElem? e)
structure EnOk (many : Nat) (e : Ky × Int) : Prop where
  hist : ∀ q ∈ e.1.1, okP many q
  ask : okP many (e.1.2, e.2)
theorem bld_ok {many : Nat} {ch : Nat → List Rw → Nat → Int} (C : CH many ch) : ∀ (d : Nat) (line : Ln), OpL many d line → (∀ p ∈ line, LO p.2 ∧ ∀ q ∈ p.1, okP many q) → ∀ e ∈ bld ch many d line, EnOk many e
  | 0, line, _, _, _, he => nomatch he
  | d + 1, line, op, ok, e, he => by
    have hch : ∀ p ∈ line, ∀ a, a < many → 0 ≤ ch d p.2 a := fun p hp a ha => by
      obtain ⟨r, hr, e⟩ := (C d p.2 a ha (op p hp)).2
      rw [← e]
      exact col_lo ((ok p hp).1 r hr).1
    rw [bld, List.mem_append] at he
    rcases he with he | he
    · obtain ⟨p, hp, a, ha, rfl⟩ := asks_mem.mp he
      exact ⟨(ok p hp).2, by have := hch p hp a ha; refine ⟨?_, ?_, this⟩ <;> simp <;> omega⟩
    · refine bld_ok C d _ (op.nxt C) (fun q hq => ?_) e he
      obtain ⟨p, hp, a, ha, rfl⟩ := nxt_mem.mp hq
      refine ⟨fun r hr => (ok p hp).1 r (mem_part.mp hr).1, fun x hx => ?_⟩
      rcases List.mem_append.mp hx with hx | hx
      · exact (ok p hp).2 x hx
      · rw [List.mem_singleton.mp hx]
        have := hch p hp a ha
        refine ⟨?_, ?_, this⟩ <;> simp <;> omega
theorem flat_len {α β : Type} {f : α → List β} {k : Nat} : ∀ l : List α, (∀ x ∈ l, (f x).length = k) → (l.flatMap f).length = l.length * k
  | [], _ => by simp
  | x :: l, h => by
    rw [List.flatMap_cons, List.length_append, h x List.mem_cons_self, flat_len l fun y hy => h y (List.mem_cons_of_mem _ hy), List.length_cons, Nat.succ_mul]
    omega
theorem asks_len {many : Nat} {f : HI × List Rw → Nat → Int} {line : Ln} : (asks many f line).length = line.length * many := flat_len line fun p _ => by simp
theorem nxt_len {many : Nat} {f : HI × List Rw → Nat → Int} {line : Ln} : (nxt many f line).length = line.length * many := flat_len line fun p _ => by simp
theorem bld_len {many d : Nat} {ch : Nat → List Rw → Nat → Int} {line : Ln} (hm : many ≤ 3) (hd : d ≤ 2) (hl : line.length = 1) : (bld ch many d line).length ≤ 12 := by
  match d, hd with
  | 0, _ => simp [bld]
  | 1, _ => rw [bld, List.length_append, asks_len, bld, hl]; simp; omega
  | 2, _ =>
    rw [bld, List.length_append, asks_len, bld, List.length_append, asks_len, nxt_len, bld, hl]
    have : many * many ≤ 3 * 3 := Nat.mul_le_mul hm hm
    simp
    omega
/-! ### values -/
def pairD (q : Int × Int) : D := .tup [.int q.1, .int q.2]
def hisD (h : HI) : D := .tup (h.map pairD)
def entD (e : Ky × Int) : D := .tup [hisD e.1.1, .int e.1.2, .int e.2]
def playD (V : PR) : D := .tup (V.map entD)
def decP : D → Int × Int
  | .tup [.int a, .int b] => (a, b)
  | _ => (0, 0)
def decH : D → HI
  | .tup xs => xs.map decP
  | _ => []
def decE : D → Ky × Int
  | .tup [h, .int a, .int t] => ((decH h, a), t)
  | _ => (([], 0), 0)
def dec : D → PR
  | .tup xs => xs.map decE
  | _ => []
/-- is_asked, _law_is_pair -/
def askB (many : Nat) : D → Bool
  | .tup [a, b] => numB 0 (some ((many : Int) - 1)) a && numB 0 none b
  | _ => false
def hisB (many : Nat) : D → Bool
  | .tup hs => hs.all (askB many)
  | _ => false
def entB (many : Nat) : D → Bool
  | .tup [h, a, t] => hisB many h && askB many (.tup [a, t])
  | _ => false
def validV (many : Nat) : D → Bool
  | .tup xs => xs.all (entB many)
  | _ => false
def playV (many depth : Nat) (rs : List Rw) (v : D) : Bool := validV many v && (decide ((dec v).map (·.1)).Nodup && judge (dec v) many depth [([], rs)])
theorem num_int {lo : Int} {hi : Option Int} {d : D} (h : numB lo hi d = true) : ∃ i, d = .int i := by
  cases d <;> first | exact ⟨_, rfl⟩ | simp [numB] at h
theorem askB_dec {many : Nat} {d : D} (h : askB many d = true) : d = pairD (decP d) := by
  unfold askB at h
  split at h
  · rw [Bool.and_eq_true] at h
    obtain ⟨i, rfl⟩ := num_int h.1
    obtain ⟨j, rfl⟩ := num_int h.2
    rfl
  · cases h
theorem map_id' {α β γ : Type} {f : β → γ} {g : α → β} {h : α → γ} : ∀ {l : List α}, (∀ x ∈ l, h x = f (g x)) → l.map h = (l.map g).map f
  | [], _ => rfl
  | x :: l, k => by rw [List.map_cons, List.map_cons, List.map_cons, k x List.mem_cons_self, map_id' fun y hy => k y (List.mem_cons_of_mem _ hy)]
theorem hisB_dec {many : Nat} {d : D} (h : hisB many d = true) : d = hisD (decH d) := by
  unfold hisB at h
  split at h
  · rename_i hs
    have := map_id' (l := hs) (h := id) (f := pairD) (g := decP) fun x hx => askB_dec (List.all_eq_true.mp h x hx)
    rw [List.map_id] at this
    show D.tup hs = D.tup ((hs.map decP).map pairD)
    rw [← this]
  · cases h
theorem entB_dec {many : Nat} {d : D} (h : entB many d = true) : d = entD (decE d) := by
  unfold entB at h
  split at h
  · rename_i h' a t
    rw [Bool.and_eq_true] at h
    have h2 := h.2
    unfold askB at h2
    rw [Bool.and_eq_true] at h2
    obtain ⟨i, rfl⟩ := num_int h2.1
    obtain ⟨j, rfl⟩ := num_int h2.2
    have := hisB_dec h.1
    show D.tup [h', .int i, .int j] = D.tup [hisD (decH h'), .int i, .int j]
    rw [← this]
  · cases h
theorem valid_dec {many : Nat} {d : D} (h : validV many d = true) : d = playD (dec d) := by
  unfold validV at h
  split at h
  · rename_i xs
    have := map_id' (l := xs) (h := id) (f := entD) (g := decE) fun x hx => entB_dec (List.all_eq_true.mp h x hx)
    rw [List.map_id] at this
    show D.tup xs = D.tup ((xs.map decE).map entD)
    rw [← this]
  · cases h
theorem decH_his (h : HI) : decH (hisD h) = h := by
  show (h.map pairD).map decP = h
  rw [List.map_map]
  conv => rhs; rw [← List.map_id h]
  exact List.map_congr_left fun x _ => rfl
theorem dec_play (V : PR) : dec (playD V) = V := by
  show (V.map entD).map decE = V
  rw [List.map_map]
  conv => rhs; rw [← List.map_id V]
  refine List.map_congr_left fun x _ => ?_
  show ((decH (hisD x.1.1), x.1.2), x.2) = x
  rw [decH_his]
theorem askB_ok {many : Nat} {q : Int × Int} (h : okP many q) : askB many (pairD q) = true := by
  obtain ⟨a, b, c⟩ := h
  simp only [pairD, askB, numB, Bool.and_eq_true, decide_eq_true_eq]
  refine ⟨⟨a, ?_⟩, c, trivial⟩
  omega
theorem valid_play {many : Nat} {V : PR} (h : ∀ e ∈ V, EnOk many e) : validV many (playD V) = true := by
  show (V.map entD).all (entB many) = true
  rw [List.all_map, List.all_eq_true]
  intro e he
  have := h e he
  show (hisB many (hisD e.1.1) && askB many (.tup [.int e.1.2, .int e.2])) = true
  rw [Bool.and_eq_true]
  refine ⟨?_, askB_ok this.ask⟩
  show ((e.1.1.map pairD).all (askB many)) = true
  rw [List.all_map, List.all_eq_true]
  exact fun q hq => askB_ok (this.hist q hq)
/-- what is built is a play -/
theorem bld_playV {many d : Nat} {ch : Nat → List Rw → Nat → Int} (C : CH many ch) {rs : List Rw} (lo : LO rs) (h : tell many d rs = false) : playV many d rs (playD (bld ch many d [([], rs)])) = true := by
  have op : OpL many d [([], rs)] := fun p hp => by rw [List.mem_singleton.mp hp]; exact h
  have ln : LnOk 0 [(([] : HI), rs)] := ⟨by simp, fun p hp => by rw [List.mem_singleton.mp hp]; rfl⟩
  have nd := (bld_keys (many := many) (ch := ch) d 0 _ ln).1
  unfold playV
  rw [dec_play, valid_play (bld_ok C d _ op fun p hp => by rw [List.mem_singleton.mp hp]; exact ⟨lo, (fun _ h => nomatch h)⟩), decide_eq_true nd, bld_judge C nd d _ op fun _ h => h]
  rfl
theorem bld_va {many d : Nat} {ch : Nat → List Rw → Nat → Int} {rs : List Rw} (hm : many ≤ 3) (hd : d ≤ 2) : VA [] 50 4 (playD (bld ch many d [([], rs)])) := by
  have ln : LnOk 0 [(([] : HI), rs)] := ⟨by simp, fun p hp => by rw [List.mem_singleton.mp hp]; rfl⟩
  have hk := (bld_keys (many := many) (ch := ch) d 0 _ ln).2
  have hl := bld_len (ch := ch) (line := [(([] : HI), rs)]) hm hd rfl
  refine ⟨by rw [List.length_map]; omega, fun x hx => ?_⟩
  obtain ⟨e, he, rfl⟩ := List.mem_map.mp hx
  have := hk e he
  refine ⟨by simp, fun y hy => ?_⟩
  simp only [List.mem_cons, List.not_mem_nil, or_false] at hy
  rcases hy with rfl | rfl | rfl
  · refine ⟨by rw [List.length_map]; omega, fun z hz => ?_⟩
    obtain ⟨q, hq, rfl⟩ := List.mem_map.mp hz
    refine ⟨by simp, fun w hw => ?_⟩
    simp only [List.mem_cons, List.not_mem_nil, or_false] at hw
    rcases hw with rfl | rfl <;> trivial
  · trivial
  · trivial
/-! ### the choices -/
def firstOpen (many d : Nat) (rs : List Rw) (a : Nat) : Option (Int × List Rw) := (parts rs (a : Int)).find? fun p => !tell many d p.2
def chF (many : Nat) (d : Nat) (rs : List Rw) (a : Nat) : Int := ((firstOpen many d rs a).map (·.1)).getD 0
def opens (many d : Nat) (rs : List Rw) (a : Nat) : List (Int × List Rw) := (parts rs (a : Int)).filter fun p => !tell many d p.2
def chL (many : Nat) (d : Nat) (rs : List Rw) (a : Nat) : Int := ((opens many d rs a).getLast?.map (·.1)).getD 0
theorem firstOpen_ex {many d a : Nat} {rs : List Rw} (h : tell many (d + 1) rs = false) (ha : a < many) : ∃ p, firstOpen many d rs a = some p ∧ p.1 = chF many d rs a ∧ p.2 = part rs (a : Int) (chF many d rs a) := by
  obtain ⟨q, hq, e⟩ := open_ex h ha
  cases c : firstOpen many d rs a with
  | none =>
    have := List.find?_eq_none.mp c q hq
    rw [e] at this
    exact absurd rfl this
  | some p =>
    have hp := List.mem_of_find?_eq_some c
    have e1 : chF many d rs a = p.1 := by unfold chF; rw [c]; rfl
    exact ⟨p, rfl, e1.symm, by rw [e1]; exact (mem_parts.mp hp).1⟩
theorem chF_ok (many : Nat) : CH many (chF many) := fun d rs a ha h => by
  obtain ⟨p, e, e1, e2⟩ := firstOpen_ex h ha
  have hp := List.mem_of_find?_eq_some e
  have ht : (!tell many d p.2) = true := by simpa using List.find?_some e
  rw [← e2, ← e1]
  exact ⟨by simpa using ht, (mem_parts.mp hp).2⟩
theorem opens_ex {many d a : Nat} {rs : List Rw} (h : tell many (d + 1) rs = false) (ha : a < many) : ∃ l p, opens many d rs a = l ++ [p] ∧ p.1 = chL many d rs a ∧ p.2 = part rs (a : Int) (chL many d rs a) := by
  obtain ⟨q, hq, e⟩ := open_ex h ha
  rcases List.eq_nil_or_concat (opens many d rs a) with c | ⟨l, p, c⟩
  · have : q ∈ opens many d rs a := List.mem_filter.mpr ⟨hq, by rw [e]; rfl⟩
    rw [c] at this
    cases this
  · rw [List.concat_eq_append] at c
    have hp : p ∈ opens many d rs a := by rw [c]; simp
    have e1 : chL many d rs a = p.1 := by unfold chL; rw [c]; simp
    exact ⟨l, p, c, e1.symm, by rw [e1]; exact (mem_parts.mp (List.mem_filter.mp hp).1).1⟩
theorem chL_ok (many : Nat) : CH many (chL many) := fun d rs a ha h => by
  obtain ⟨l, p, e, e1, e2⟩ := opens_ex h ha
  have hp : p ∈ opens many d rs a := by rw [e]; simp
  have := List.mem_filter.mp hp
  rw [← e2, ← e1]
  exact ⟨by simpa using this.2, (mem_parts.mp this.1).2⟩
end M47

end
section
set_option Elab.async false
set_option linter.all false
set_option autoImplicit false
/-! open_part, and what the walks of plays need -/
namespace M47
open M
def openD : Option (Int × List Rw) → D
  | none => .non
  | some p => .tup [.int p.1, rowsD p.2]
theorem find_app {α : Type} {p : α → Bool} : ∀ {l r : List α}, (∀ x ∈ l, p x = false) → (l ++ r).find? p = r.find? p
  | [], _, _ => rfl
  | x :: l, r, h => by
    rw [List.cons_append, List.find?_cons, h x List.mem_cons_self]
    exact find_app fun y hy => h y (List.mem_cons_of_mem _ hy)
theorem open_spec {many d n a : Nat} {rs0 : List Rw} (hl0 : rs0.length ≤ 12) (hm1 : many ≤ 1000) (T : TellOk many rs0 d (n + 1)) {rs : List Rw} {h : Hm} {m : Nat} {Q : VQ} {E : XP} (ha : a < many) (hsub : rs.Sublist rs0) (hw : WF many rs) (hm : NT many rs0 h m)
    (q : ∀ h', MX m h h' → NT many rs0 h' m → Q (openD (firstOpen many d rs a)) h') : FW P (n + 2) 29 [rowsD rs, .int many, .int ((d : Int) + 1), .int (a : Int), .ref m] h Q E := by
  have hl : rs.length ≤ 1000 := by have := hsub.length_le; omega
  refine fw_open (d := D29) rfl rfl ?_
  unfold D29
  simp only [wpSs, wpS, wpE, wpEs, wpCs, wpP, wpPs, List.map, List.replicate, List.cons_append, List.nil_append, List.append_nil, List.getElem?_cons_zero, List.getElem?_cons_succ, jn, ws_some, List.length_cons, List.length_nil, List.set, at0, at1, at2, idx_tup, c_gt, c_lt, c_le, c_ge, c_is, c_isnt, c_eqI, c_neI, c_eqS, c_neS, c_eqB, c_neB, isS, isNonD, isBlD, t_bl, b_int, b_abs, b_max2, b_min2, b_lenT, o_add, o_sub, permD, Option.map_some]
  refine parted_spec hw (by omega) (by omega) hl fun h2 p2 => ?_
  rw [it_tup]
  simp only [ws_some]
  refine forL_inv (fun l env h' => ∃ (done rest : List (Int × List Rw)) (e5 e6 : Option D), parts rs (a : Int) = done ++ rest ∧ l = rest.map partD ∧ (∀ p ∈ done, tell many d p.2 = true) ∧ MX m h h' ∧ NT many rs0 h' m ∧ env = [some (rowsD rs), some (.int many), some (.int ((d : Int) + 1)), some (.int (a : Int)), some (.ref m), e5, e6])
    (fun _ _ _ _ => still_nil) (fun x l env h' R hi k => ?_) (fun env h' hi => ?_) _ _ _ ⟨[], parts rs (a : Int), none, none, rfl, rfl, (fun _ h => nomatch h), MX.pre p2, hm.pre p2, rfl⟩
  · obtain ⟨done, rest, e5, e6, hp, hx, ht, mx, nm, rfl⟩ := hi
    cases rest with
    | nil => cases hx
    | cons p rest =>
      rw [List.map_cons] at hx
      cases hx
      have hpm : p ∈ parts rs (a : Int) := by rw [hp]; simp
      have hpe := (mem_parts.mp hpm).1
      have hsub2 : p.2.Sublist rs := by rw [hpe]; exact part_sub
      simp only [partD, wpSs, wpS, wpE, wpEs, wpCs, wpP, wpPs, List.map, List.replicate, List.cons_append, List.nil_append, List.append_nil, List.getElem?_cons_zero, List.getElem?_cons_succ, jn, ws_some, List.length_cons, List.length_nil, List.set, at0, at1, at2, idx_tup, c_gt, c_lt, c_le, c_ge, c_is, c_isnt, c_eqI, c_neI, c_eqS, c_neS, c_eqB, c_neB, isS, isNonD, isBlD, t_bl, b_int, b_abs, b_max2, b_min2, b_lenT, o_add, o_sub, permD, Option.map_some]
      refine ⟨by simp, by simp, ?_⟩
      rw [show ((d : Int) + 1 - 1) = (d : Int) from by omega]
      refine T p.2 h' m _ _ (hsub2.trans hsub) (fun q hq => hw q (hsub2.subset hq)) nm fun h3 mx3 nm3 => ?_
      simp only [ws_some, t_bl]
      have nf : ∀ x ∈ done, (!tell many d x.2) = false := fun x hx => by rw [ht x hx]; rfl
      cases c : tell many d p.2 with
      | false =>
        have e : firstOpen many d rs a = some p := by
          unfold firstOpen
          rw [hp, find_app nf, List.find?_cons, c]
          rfl
        have := q h3 (mx.trans mx3) nm3
        rw [e] at this
        simp only [Bool.not_false, if_true]
        exact this
      | true =>
        simp only [Bool.not_true, Bool.false_eq_true, if_false]
        exact k _ _ ⟨done ++ [p], rest, _, _, by rw [hp]; simp, rfl, fun x hx => by
          rcases List.mem_append.mp hx with hx | hx
          · exact ht x hx
          · rw [List.mem_singleton.mp hx]; exact c, mx.trans mx3, nm3, rfl⟩
  · obtain ⟨done, rest, e5, e6, hp, hx, ht, mx, nm, rfl⟩ := hi
    have hr0 : rest = [] := List.map_eq_nil_iff.mp hx.symm
    subst hr0
    rw [List.append_nil] at hp
    have e : firstOpen many d rs a = none := by
      unfold firstOpen
      rw [List.find?_eq_none]
      intro x hx
      rw [hp] at hx
      rw [ht x hx]
      simp
    have := q h' mx nm
    rw [e] at this
    exact this
/-! ### lists -/
theorem b_append {h : Hm} {a : Nat} {xs : List D} {d : D} (e : h[a]? = some (.lst xs)) (hl : xs.length < LIM) : bltS .append [.ref a, d] h = some (.non, h.set a (.lst (xs ++ [d]))) := by
  have em : getM h a = some xs := by unfold getM; rw [e]
  simp only [bltS, em, Option.bind_some]
  rw [if_pos hl]
theorem recv_app {h : Hm} {a : Nat} {xs : List D} (e : h[a]? = some (.lst xs)) : recvOK .append (.ref a) h = true := by
  have eg : getL h a = some xs := by unfold getL; rw [e]
  simp [recvOK, eg]
/-- a history with one more -/
theorem his_add {h : Hm} {hs : HI} {q : Int × Int} (hl : hs.length ≤ 1000) : binS .add (hisD hs) (.tup [pairD q]) h = some (hisD (hs ++ [q]), h) := by
  unfold hisD
  rw [o_addT (by rw [List.length_map]; unfold LIM; simp; omega), List.map_append]
  rfl
end M47

end
section
set_option Elab.async false
set_option linter.all false
set_option autoImplicit false
/-! play_of -/
namespace M47
open M
/-- heaps that grow, some cells changing -/
structure MS (ms : List Nat) (h h' : Hm) : Prop where
  len : h.length ≤ h'.length
  at_ : ∀ i, i < h.length → i ∉ ms → h'[i]? = h[i]?
theorem MS.refl (ms : List Nat) (h : Hm) : MS ms h h := ⟨Nat.le_refl _, fun _ _ _ => rfl⟩
theorem MS.trans {ms : List Nat} {h h1 h2 : Hm} (a : MS ms h h1) (b : MS ms h1 h2) : MS ms h h2 :=
  ⟨Nat.le_trans a.len b.len, fun i hi hm => (b.at_ i (Nat.lt_of_lt_of_le hi a.len) hm).trans (a.at_ i hi hm)⟩
theorem MS.pre {ms : List Nat} {h h' : Hm} (p : h <+: h') : MS ms h h' := by
  obtain ⟨t, rfl⟩ := p
  exact ⟨by simp, fun i hi _ => List.getElem?_append_left hi⟩
theorem MS.mx {ms : List Nat} {m : Nat} {h h' : Hm} (x : MX m h h') (hm : m ∈ ms) : MS ms h h' := ⟨x.len, fun i hi hn => x.at_ i hi fun e => hn (by rw [e]; exact hm)⟩
theorem MS.set {ms : List Nat} {h h' : Hm} (a : MS ms h h') {i : Nat} (hi : i ∈ ms) (c : Cell) : MS ms h (h'.set i c) :=
  ⟨by rw [List.length_set]; exact a.len, fun j hj hm => by rw [List.getElem?_set_ne (fun e => hm (by rw [← e]; exact hi))]; exact a.at_ j hj hm⟩
theorem MS.set_new {ms : List Nat} {h h' : Hm} (a : MS ms h h') {i : Nat} (hi : h.length ≤ i) (c : Cell) : MS ms h (h'.set i c) :=
  ⟨by rw [List.length_set]; exact a.len, fun j hj hm => by rw [List.getElem?_set_ne (by omega)]; exact a.at_ j hj hm⟩
theorem MS.cell {ms : List Nat} {h h' : Hm} (a : MS ms h h') {i : Nat} {c : Cell} (e : h[i]? = some c) (hm : i ∉ ms) : h'[i]? = some c := by
  rw [a.at_ i (List.getElem?_eq_some_iff.mp e).1 hm]; exact e
theorem ms_pre {ms : List Nat} {h h1 h' : Hm} (p : h <+: h1) (hm : ∀ m ∈ ms, h.length ≤ m) (x : MS ms h1 h') : h <+: h' := by
  rw [pre_iff] at p ⊢
  have := x.len
  exact ⟨by omega, fun i hi => (x.at_ i (by omega) (fun z => by have := hm i z; omega)).trans (p.2 i hi)⟩
def I30 : List CS := [
  .asg (.tup [(.slot 11), (.slot 12)]) (.call 29 [(.loc 9), (.loc 1), (.loc 4), (.loc 10), (.loc 5)] [] [0, 1, 2, 3, 4]),
  .expr (.meth .append (.loc 6) [(.tup [(.loc 8), (.loc 10), (.loc 11)])]),
  .expr (.meth .append (.loc 7) [(.tup [(.bin .add (.loc 8) (.tup [(.tup [(.loc 10), (.loc 11)])])), (.loc 12)])])]
def M30 : List CS := [.for_ (.slot 10) .range [(.loc 1)] I30]
def O30 : List CS := [
  .asg (.slot 7) (.lst []),
  .for_ (.tup [(.slot 8), (.slot 9)]) .val [(.loc 3)] M30,
  .asg (.slot 3) (.loc 7)]
def J30 : List CE := [(.blt .rev [(.blt .lstRange [(.lit (.int (1))), (.bin .add (.loc 2) (.lit (.int (1))))])])]
def T30 : List CS := [
  .asg (.slot 3) (.lst [(.tup [(.tup []), (.loc 0)])]),
  .for_ (.slot 4) .val J30 O30,
  .ret (.blt .tuple [(.loc 6)])]
theorem d30_eq : D30 = ⟨3, 13, .asg (.tup [(.slot 5), (.slot 6)]) (.tup [(.dct []), (.lst [])]) :: .ite (.call 7 [(.loc 0), (.loc 1), (.loc 2), (.loc 5)] [] [0, 1, 2, 3]) [
    .ret (.lit .non)] [] :: T30⟩ := rfl
def lnD (p : HI × List Rw) : D := .tup [hisD p.1, rowsD p.2]
def ask1 (j : Nat) (f : HI × List Rw → Nat → Int) (p : HI × List Rw) : PR := (List.range j).map fun (a : Nat) => ((p.1, (a : Int)), f p a)
def nxt1 (j : Nat) (f : HI × List Rw → Nat → Int) (p : HI × List Rw) : Ln := (List.range j).map fun (a : Nat) => (p.1 ++ [((a : Int), f p a)], part p.2 (a : Int) (f p a))
theorem asks_add {many : Nat} {f : HI × List Rw → Nat → Int} {l : Ln} {p : HI × List Rw} : asks many f (l ++ [p]) = asks many f l ++ ask1 many f p := by
  unfold asks ask1
  rw [List.flatMap_append, List.flatMap_cons, List.flatMap_nil, List.append_nil]
theorem nxt_add {many : Nat} {f : HI × List Rw → Nat → Int} {l : Ln} {p : HI × List Rw} : nxt many f (l ++ [p]) = nxt many f l ++ nxt1 many f p := by
  unfold nxt nxt1
  rw [List.flatMap_append, List.flatMap_cons, List.flatMap_nil, List.append_nil]
theorem ask1_succ {j : Nat} {f : HI × List Rw → Nat → Int} {p : HI × List Rw} : ask1 (j + 1) f p = ask1 j f p ++ [((p.1, (j : Int)), f p j)] := by
  unfold ask1
  rw [List.range_succ, List.map_append]; rfl
theorem nxt1_succ {j : Nat} {f : HI × List Rw → Nat → Int} {p : HI × List Rw} : nxt1 (j + 1) f p = nxt1 j f p ++ [(p.1 ++ [((j : Int), f p j)], part p.2 (j : Int) (f p j))] := by
  unfold nxt1
  rw [List.range_succ, List.map_append]; rfl
def OpOk (F : FnS) (many : Nat) (rs0 : List Rw) (d : Nat) : Prop := ∀ (a : Nat) (rs : List Rw) (h : Hm) (m : Nat) (Q : VQ) (E : XP), a < many → rs.Sublist rs0 → WF many rs → NT many rs0 h m → (∀ h', MX m h h' → NT many rs0 h' m → Q (openD (firstOpen many d rs a)) h') → F 29 [rowsD rs, .int many, .int ((d : Int) + 1), .int (a : Int), .ref m] h Q E
/-- the state of play_of -/
structure SP (many : Nat) (rs0 : List Rw) (h : Hm) (m Fc La : Nat) (fs : PR) (ls : Ln) : Prop where
  nt : NT many rs0 h m
  ef : h[Fc]? = some (.lst (fs.map entD))
  el : h[La]? = some (.lst (ls.map lnD))
  d1 : m ≠ Fc
  d2 : m ≠ La
  d3 : Fc ≠ La
theorem in30 {F : FnS} {E : XP} {many d : Nat} {rs0 : List Rw} (HO : OpOk F many rs0 d) (hm1 : many ≤ 1000) {p : HI × List Rw} (hp : tell many (d + 1) p.2 = false) (hsub : p.2.Sublist rs0) (hw : WF many p.2) (hl : p.1.length ≤ 1000) {h : Hm} {m Fc La : Nat} {fs : PR} {ls : Ln} (S : SP many rs0 h m Fc La fs ls) (lf : fs.length ≤ 10000) (ll : ls.length ≤ 10000) {v0 v2 v3 : D} {e10 e11 e12 : Option D} {Z : Ends}
    (q : ∀ h' e10 e11 e12, SP many rs0 h' m Fc La (fs ++ ask1 many (fun p a => chF many d p.2 a) p) (ls ++ nxt1 many (fun p a => chF many d p.2 a) p) → MS [m, Fc, La] h h' → Z.nx [some v0, some (.int many), some v2, some v3, some (.int ((d : Int) + 1)), some (.ref m), some (.ref Fc), some (.ref La), some (hisD p.1), some (rowsD p.2), e10, e11, e12] h') :
    wpSs F E M30 [some v0, some (.int many), some v2, some v3, some (.int ((d : Int) + 1)), some (.ref m), some (.ref Fc), some (.ref La), some (hisD p.1), some (rowsD p.2), e10, e11, e12] h Z := by
  unfold M30
  simp only [wpSs, wpS, wpE, wpEs, wpCs, wpP, wpPs, List.map, List.replicate, List.cons_append, List.nil_append, List.append_nil, List.getElem?_cons_zero, List.getElem?_cons_succ, jn, ws_some, List.length_cons, List.length_nil, List.set, at0, at1, at2, idx_tup, c_gt, c_lt, c_le, c_ge, c_is, c_isnt, c_eqI, c_neI, c_eqS, c_neS, c_eqB, c_neB, isS, isNonD, isBlD, t_bl, b_int, b_abs, b_max2, b_min2, b_lenT, o_add, o_sub, permD, Option.map_some]
  rw [it_range (by omega) (by omega)]
  simp only [ws_some]
  refine forL_inv (fun l env h' => ∃ (j : Nat) (e10 e11 e12 : Option D), l = (rngD 0 (many : Int).toNat).drop j ∧ j ≤ many ∧ SP many rs0 h' m Fc La (fs ++ ask1 j (fun p a => chF many d p.2 a) p) (ls ++ nxt1 j (fun p a => chF many d p.2 a) p) ∧ MS [m, Fc, La] h h' ∧ env = [some v0, some (.int many), some v2, some v3, some (.int ((d : Int) + 1)), some (.ref m), some (.ref Fc), some (.ref La), some (hisD p.1), some (rowsD p.2), e10, e11, e12])
    (fun _ _ _ _ => still_nil) (fun x l env h' R hi k => ?_) (fun env h' hi => ?_) _ _ _ ⟨0, _, _, _, rfl, by omega, by simpa [ask1, nxt1] using S, MS.refl _ _, rfl⟩
  · obtain ⟨j, e10, e11, e12, hj, jm, S1, ms, rfl⟩ := hi
    have hjn : j < (many : Int).toNat := by
      rcases Nat.lt_or_ge j (many : Int).toNat with z | z
      · exact z
      · rw [rng_end z] at hj; cases hj
    rw [rng_drop hjn] at hj
    cases hj
    unfold I30
    simp only [wpSs, wpS, wpE, wpEs, wpCs, wpP, wpPs, List.map, List.replicate, List.cons_append, List.nil_append, List.append_nil, List.getElem?_cons_zero, List.getElem?_cons_succ, jn, ws_some, List.length_cons, List.length_nil, List.set, at0, at1, at2, idx_tup, c_gt, c_lt, c_le, c_ge, c_is, c_isnt, c_eqI, c_neI, c_eqS, c_neS, c_eqB, c_neB, isS, isNonD, isBlD, t_bl, b_int, b_abs, b_max2, b_min2, b_lenT, o_add, o_sub, permD, Option.map_some]
    refine ⟨by simp, ?_⟩
    have hjm : j < many := by omega
    refine HO j p.2 h' m _ _ hjm hsub hw S1.nt fun h1 mx1 nt1 => ?_
    obtain ⟨o, ho, o1, o2⟩ := firstOpen_ex hp hjm
    rw [ho]
    simp only [openD, wpSs, wpS, wpE, wpEs, wpCs, wpP, wpPs, List.map, List.replicate, List.cons_append, List.nil_append, List.append_nil, List.getElem?_cons_zero, List.getElem?_cons_succ, jn, ws_some, List.length_cons, List.length_nil, List.set, at0, at1, at2, idx_tup, c_gt, c_lt, c_le, c_ge, c_is, c_isnt, c_eqI, c_neI, c_eqS, c_neS, c_eqB, c_neB, isS, isNonD, isBlD, t_bl, b_int, b_abs, b_max2, b_min2, b_lenT, o_add, o_sub, permD, Option.map_some]
    refine ⟨by simp, by simp, ?_⟩
    have ef1 := mx1.cell S1.ef S1.d1.symm
    have el1 := mx1.cell S1.el S1.d2.symm
    refine ⟨recv_app ef1, ?_⟩
    have lf1 : (fs ++ ask1 j (fun p a => chF many d p.2 a) p).length < LIM := by simp [ask1]; unfold LIM; omega
    have ll1 : (ls ++ nxt1 j (fun p a => chF many d p.2 a) p).length < LIM := by simp [nxt1]; unfold LIM; omega
    rw [b_append ef1 (by rw [List.length_map]; exact lf1)]
    simp only [ws_some]
    have el2 : (h1.set Fc (.lst ((fs ++ ask1 j (fun p a => chF many d p.2 a) p).map entD ++ [.tup [hisD p.1, .int (j : Int), .int o.1]])))[La]? = some (.lst ((ls ++ nxt1 j (fun p a => chF many d p.2 a) p).map lnD)) := by
      rw [List.getElem?_set_ne S1.d3]; exact el1
    refine ⟨recv_app el2, ?_⟩
    have hadd : ∀ h, binS .add (hisD p.1) (.tup [.tup [.int (j : Int), .int o.1]]) h = some (hisD (p.1 ++ [((j : Int), o.1)]), h) := fun h => his_add (q := ((j : Int), o.1)) hl
    rw [hadd]
    simp only [ws_some]
    rw [b_append el2 (by rw [List.length_map]; exact ll1)]
    simp only [ws_some]
    refine k _ _ ⟨j + 1, _, _, _, rfl, by omega, ⟨?_, ?_, ?_, S1.d1, S1.d2, S1.d3⟩, ?_, rfl⟩
    · exact (nt1.set_ne S1.d1.symm _).set_ne S1.d2.symm _
    · rw [List.getElem?_set_ne S1.d3.symm, set_at ef1, ask1_succ, ← List.append_assoc, List.map_append (l₂ := [_])]
      rw [o1]
      rfl
    · rw [set_at el2, nxt1_succ, ← List.append_assoc, List.map_append (l₂ := [_])]
      rw [o2, o1]
      rfl
    · exact ms.trans (((MS.mx mx1 (by simp)).set (by simp) _).set (by simp) _)
  · obtain ⟨j, e10, e11, e12, hj, jm, S1, ms, rfl⟩ := hi
    have hjn : (many : Int).toNat ≤ j := by
      rcases Nat.lt_or_ge j (many : Int).toNat with z | z
      · rw [rng_drop z] at hj; cases hj
      · exact z
    have : j = many := by omega
    subst this
    exact q h' _ _ _ S1 ms
/-- the line of plays -/
structure LnR (many L : Nat) (rs0 : List Rw) (line : Ln) : Prop where
  sub : ∀ p ∈ line, p.2.Sublist rs0
  wf : ∀ p ∈ line, WF many p.2
  len : ∀ p ∈ line, p.1.length ≤ L
theorem LnR.nxt {many L : Nat} {rs0 : List Rw} {line : Ln} {f : HI × List Rw → Nat → Int} (a : LnR many L rs0 line) : LnR many (L + 1) rs0 (nxt many f line) := by
  refine ⟨fun q hq => ?_, fun q hq => ?_, fun q hq => ?_⟩ <;> obtain ⟨p, hp, x, hx, rfl⟩ := nxt_mem.mp hq
  · exact part_sub.trans (a.sub p hp)
  · exact fun r hr => a.wf p hp r (mem_part.mp hr).1
  · have := a.len p hp
    simp; omega
theorem mid30 {F : FnS} {E : XP} {many d L : Nat} {rs0 : List Rw} (HO : OpOk F many rs0 d) (hm1 : many ≤ 3) {line : Ln} (op : OpL many (d + 1) line) (lr : LnR many L rs0 line) (hL : L ≤ 1000) (hll : line.length ≤ 1000) {h : Hm} {m Fc La Li : Nat} {fs : PR} (S : SP many rs0 h m Fc La fs []) (lf : fs.length ≤ 1000) (eli : h[Li]? = some (.lst (line.map lnD))) (hLi : Li ∉ [m, Fc, La]) {v0 v2 : D} {e8 e9 e10 e11 e12 : Option D} {Z : Ends}
    (q : ∀ h' e8 e9 e10 e11 e12, SP many rs0 h' m Fc La (fs ++ asks many (fun p a => chF many d p.2 a) line) (nxt many (fun p a => chF many d p.2 a) line) → MS [m, Fc, La] h h' → Z.nx [some v0, some (.int many), some v2, some (.ref Li), some (.int ((d : Int) + 1)), some (.ref m), some (.ref Fc), some (.ref La), e8, e9, e10, e11, e12] h') :
    wpS F E (.for_ (.tup [(.slot 8), (.slot 9)]) .val [(.loc 3)] M30) [some v0, some (.int many), some v2, some (.ref Li), some (.int ((d : Int) + 1)), some (.ref m), some (.ref Fc), some (.ref La), e8, e9, e10, e11, e12] h Z := by
  simp only [wpSs, wpS, wpE, wpEs, wpCs, wpP, wpPs, List.map, List.replicate, List.cons_append, List.nil_append, List.append_nil, List.getElem?_cons_zero, List.getElem?_cons_succ, jn, ws_some, List.length_cons, List.length_nil, List.set, at0, at1, at2, idx_tup, c_gt, c_lt, c_le, c_ge, c_is, c_isnt, c_eqI, c_neI, c_eqS, c_neS, c_eqB, c_neB, isS, isNonD, isBlD, t_bl, b_int, b_abs, b_max2, b_min2, b_lenT, o_add, o_sub, permD, Option.map_some]
  rw [it_lst eli]
  simp only [ws_some]
  refine forL_inv (fun l env h' => ∃ (done rest : Ln) (e8 e9 e10 e11 e12 : Option D), line = done ++ rest ∧ l = rest.map lnD ∧ SP many rs0 h' m Fc La (fs ++ asks many (fun p a => chF many d p.2 a) done) (nxt many (fun p a => chF many d p.2 a) done) ∧ MS [m, Fc, La] h h' ∧ env = [some v0, some (.int many), some v2, some (.ref Li), some (.int ((d : Int) + 1)), some (.ref m), some (.ref Fc), some (.ref La), e8, e9, e10, e11, e12])
    (fun _ _ _ ⟨_, _, _, _, _, _, _, _, _, _, ms, _⟩ => still_one (ms.cell eli hLi)) (fun x l env h' R hi k => ?_) (fun env h' hi => ?_) _ _ _ ⟨[], line, _, _, _, _, _, rfl, rfl, by simpa [asks, nxt] using S, MS.refl _ _, rfl⟩
  · obtain ⟨done, rest, e8, e9, e10, e11, e12, hp, hx, S1, ms, rfl⟩ := hi
    cases rest with
    | nil => cases hx
    | cons p rest =>
      rw [List.map_cons] at hx
      cases hx
      have hpm : p ∈ line := by rw [hp]; simp
      have hdl : done.length ≤ 1000 := by
        have := congrArg List.length hp
        rw [List.length_append] at this
        omega
      have hdm : done.length * many ≤ 1000 * 3 := Nat.mul_le_mul hdl hm1
      have hpl := lr.len p hpm
      simp only [lnD, wpSs, wpS, wpE, wpEs, wpCs, wpP, wpPs, List.map, List.replicate, List.cons_append, List.nil_append, List.append_nil, List.getElem?_cons_zero, List.getElem?_cons_succ, jn, ws_some, List.length_cons, List.length_nil, List.set, at0, at1, at2, idx_tup, c_gt, c_lt, c_le, c_ge, c_is, c_isnt, c_eqI, c_neI, c_eqS, c_neS, c_eqB, c_neB, isS, isNonD, isBlD, t_bl, b_int, b_abs, b_max2, b_min2, b_lenT, o_add, o_sub, permD, Option.map_some]
      refine ⟨by simp, by simp, ?_⟩
      refine in30 HO (by omega) (op p hpm) (lr.sub p hpm) (lr.wf p hpm) (by omega) S1 (by rw [List.length_append, asks_len]; omega) (by rw [nxt_len]; omega) fun h1 e10 e11 e12 S2 ms2 => ?_
      refine k _ _ ⟨done ++ [p], rest, _, _, _, _, _, by rw [hp]; simp, rfl, ?_, ms.trans ms2, rfl⟩
      rw [asks_add, nxt_add, ← List.append_assoc]
      exact S2
  · obtain ⟨done, rest, e8, e9, e10, e11, e12, hp, hx, S1, ms, rfl⟩ := hi
    have hr0 : rest = [] := List.map_eq_nil_iff.mp hx.symm
    subst hr0
    rw [List.append_nil] at hp
    subst hp
    exact q h' _ _ _ _ _ S1 ms
end M47

end
section
set_option Elab.async false
set_option linter.all false
set_option autoImplicit false
/-! play_of: the outer loop, the whole -/
namespace M47
open M
def down : Nat → List D
  | 0 => []
  | d + 1 => .int ((d : Int) + 1) :: down d
theorem rng_down : ∀ d : Nat, (rngD 1 d).reverse = down d
  | 0 => rfl
  | d + 1 => by
    have : rngD 1 (d + 1) = rngD 1 d ++ [.int (1 + (d : Int))] := by
      unfold rngD
      rw [List.range_succ, List.map_append]
      rfl
    rw [this, List.reverse_append, rng_down d, down, Int.add_comm]
    rfl
theorem b_rng1 {h : Hm} {d : Nat} (hd : d ≤ 1000) : bltS .lstRange [.int 1, .int ((d : Int) + 1)] h = some (.ref h.length, h ++ [.lst (rngD 1 d)]) := by
  have e1 : (small 1 && small ((d : Int) + 1)) = true := by
    have h1 : small 1 = true := by decide
    have h2 : small ((d : Int) + 1) = true := by
      unfold small
      rw [Bool.and_eq_true]
      exact ⟨decide_eq_true (by omega), decide_eq_true (by omega)⟩
    rw [h1, h2]; rfl
  have e2 : ((d : Int) + 1 - 1).toNat = d := by omega
  simp only [bltS]
  rw [if_pos e1, e2]
  rfl
theorem b_rev {h : Hm} {a : Nat} {xs : List D} (e : h[a]? = some (.lst xs)) : bltS .rev [.ref a] h = some (.ref h.length, h ++ [.lst xs.reverse]) := by
  have eg : getL h a = some xs := by unfold getL; rw [e]
  simp only [bltS, eg, Option.bind_some]
  rfl
theorem j1 {F : FnS} {E : XP} {env : Env} {h : Hm} {d : Nat} {Q : List D → Hm → Prop} (e : env[2]? = some (some (.int (d : Int)))) (q : Q [.int 1, .int ((d : Int) + 1)] h) : wpEs F E [(.lit (.int 1)), (.bin .add (.loc 2) (.lit (.int 1)))] env h Q := by
  rw [wpEs, wpE, wpEs, wpE, wpE, e]
  simp only [Option.join_some, ws_some]
  rw [wpE]
  simp only [o_add, ws_some, wpEs]
  exact q
theorem j2 {F : FnS} {E : XP} {env : Env} {h : Hm} {d : Nat} {Q : VQ} (e : env[2]? = some (some (.int (d : Int)))) (hd : d ≤ 1000) (q : Q (.ref h.length) (h ++ [.lst (rngD 1 d)])) : wpE F E (.blt .lstRange [(.lit (.int 1)), (.bin .add (.loc 2) (.lit (.int 1)))]) env h Q := by
  rw [wpE]
  refine j1 e ?_
  rw [b_rng1 hd, ws_some]
  exact q
theorem j3 {F : FnS} {E : XP} {env : Env} {h : Hm} {e : CE} {Q : List D → Hm → Prop} {a : Nat} {h1 : Hm} {xs : List D} (w : ∀ R : VQ, R (.ref a) h1 → wpE F E e env h R) (ea : h1[a]? = some (.lst xs)) (q : Q [.ref h1.length] (h1 ++ [.lst xs.reverse])) : wpEs F E [(.blt .rev [e])] env h Q := by
  rw [wpEs, wpE, wpEs]
  refine w _ ?_
  rw [wpEs, b_rev ea, ws_some, wpEs]
  exact q
theorem j30_it {F : FnS} {E : XP} {env : Env} {h : Hm} {d : Nat} {Q : List D → Hm → Prop} (e : env[2]? = some (some (.int (d : Int)))) (hd : d ≤ 1000) (q : Q [.ref (h.length + 1)] (h ++ [.lst (rngD 1 d)] ++ [.lst (down d)])) : wpEs F E J30 env h Q := by
  refine j3 (fun R r => j2 e hd r) last_at ?_
  have : (h ++ [Cell.lst (rngD 1 d)]).length = h.length + 1 := by simp
  rw [this, rng_down]
  exact q
theorem for_wp {F : FnS} {E : XP} {p : Pat} {k : IK} {it : List CE} {a : List CS} {env : Env} {h : Hm} {Z : Ends} : wpS F E (.for_ p k it a) env h Z = wpEs F E it env h fun ds h1 => ws (iterS k ds h1) fun I => forL I.2 (fun x env h R => wpP p x env fun env1 => wpSs F E a env1 h { nx := R, ct := R, bk := Z.nx, rt := Z.rt }) Z.nx I.1 env h1 := by
  rw [wpS]
theorem MS.via {ms ms' : List Nat} {h h1 h2 : Hm} (a : MS ms h h1) (b : MS ms' h1 h2) (hs : ∀ i ∈ ms', i ∈ ms ∨ h.length ≤ i) : MS ms h h2 :=
  ⟨Nat.le_trans a.len b.len, fun i hi hm => (b.at_ i (Nat.lt_of_lt_of_le hi a.len) (fun z => (hs i z).elim hm fun z => by omega)).trans (a.at_ i hi hm)⟩
structure OS (many depth d : Nat) (rs0 : List Rw) (h H1 : Hm) (m Fc Li : Nat) (fs : PR) (cur : Ln) : Prop where
  nt : NT many rs0 h m
  ef : h[Fc]? = some (.lst (fs.map entD))
  el : h[Li]? = some (.lst (cur.map lnD))
  d1 : m ≠ Fc
  d2 : Li ∉ [m, Fc]
  ms : MS [m, Fc] H1 h
  op : OpL many d cur
  lr : LnR many (depth - d) rs0 cur
  ln : cur.length ≤ 3 ^ (depth - d)
  all_ : fs ++ bld (chF many) many d cur = bld (chF many) many depth [([], rs0)]
  dl : d ≤ depth
theorem pow3 {x : Nat} (h : x ≤ 2) : 3 ^ x ≤ 9 := by
  match x, h with
  | 0, _ => decide
  | 1, _ => decide
  | 2, _ => decide
theorem body30 {F : FnS} {E : XP} {many depth d : Nat} {rs0 : List Rw} (HO : OpOk F many rs0 d) (hm1 : many ≤ 3) (hd : depth ≤ 2) {h H1 : Hm} {m Fc Li : Nat} {fs : PR} {cur : Ln} (S : OS many depth (d + 1) rs0 h H1 m Fc Li fs cur) {v0 v2 : D} {e7 e8 e9 e10 e11 e12 : Option D} {Z : Ends}
    (q : ∀ h' Li' fs' cur' e7 e8 e9 e10 e11 e12, OS many depth d rs0 h' H1 m Fc Li' fs' cur' → Z.nx [some v0, some (.int many), some v2, some (.ref Li'), some (.int ((d : Int) + 1)), some (.ref m), some (.ref Fc), e7, e8, e9, e10, e11, e12] h') :
    wpSs F E O30 [some v0, some (.int many), some v2, some (.ref Li), some (.int ((d : Int) + 1)), some (.ref m), some (.ref Fc), e7, e8, e9, e10, e11, e12] h Z := by
  unfold O30
  rw [wpSs, wpS]
  simp only [wpE, wpEs, wpP]
  refine ⟨by simp, ?_⟩
  rw [wpSs]
  simp only [List.set]
  have hm := S.nt.lt
  have hF : Fc < h.length := (List.getElem?_eq_some_iff.mp S.ef).1
  have hLi : Li < h.length := (List.getElem?_eq_some_iff.mp S.el).1
  have hdl := S.dl
  have h3 : cur.length ≤ 9 := Nat.le_trans S.ln (pow3 (by omega))
  have hfs : fs.length ≤ 12 := by
    have := bld_len (ch := chF many) (line := [(([] : HI), rs0)]) hm1 hd rfl
    rw [← S.all_, List.length_append] at this
    omega
  have d2 := S.d2
  simp only [List.mem_cons, List.not_mem_nil, or_false, not_or] at d2
  refine mid30 HO hm1 S.op S.lr (by omega) (by omega) ⟨S.nt.pre pre_one, pre_at pre_one S.ef, last_at, S.d1, by omega, by omega⟩ (by omega) (pre_at pre_one S.el) (by simp; omega) fun h2 e8 e9 e10 e11 e12 S2 ms2 => ?_
  dsimp only
  rw [wpSs, wpS, wpE]
  simp only [List.getElem?_cons_succ, List.getElem?_cons_zero, Option.join_some, ws_some, wpP, wpSs, List.set]
  refine ⟨by simp, ?_⟩
  have hH := S.ms.len
  refine q _ _ _ _ _ _ _ _ _ _ ⟨S2.nt, S2.ef, S2.el, S2.d1, ?_, ?_, S.op.nxt (chF_ok many), ?_, ?_, ?_, by omega⟩
  · simp; omega
  · refine (S.ms.trans (MS.pre pre_one)).via ms2 fun i hi => ?_
    simp only [List.mem_cons, List.not_mem_nil, or_false] at hi ⊢
    omega
  · have := S.lr.nxt (f := fun p a => chF many d p.2 a)
    rw [show depth - d = depth - (d + 1) + 1 from by omega]
    exact this
  · rw [nxt_len, show depth - d = depth - (d + 1) + 1 from by omega, Nat.pow_succ]
    exact Nat.mul_le_mul S.ln hm1
  · rw [← S.all_, bld, List.append_assoc]
theorem tail30 {F : FnS} {E : XP} {many depth : Nat} {rs0 : List Rw} (HO : ∀ d, d < depth → OpOk F many rs0 d) (hm1 : many ≤ 3) (hd : depth ≤ 2) (hw : WF many rs0) (ht : tell many depth rs0 = false) {h : Hm} {m Fc : Nat} (nt : NT many rs0 h m) (ef : h[Fc]? = some (.lst [])) (d1 : m ≠ Fc) {e3 e4 e7 e8 e9 e10 e11 e12 : Option D} {Z : Ends}
    (q : ∀ h', MS [m, Fc] h h' → Z.rt (playD (bld (chF many) many depth [([], rs0)])) h') :
    wpSs F E T30 [some (rowsD rs0), some (.int many), some (.int (depth : Int)), e3, e4, some (.ref m), some (.ref Fc), e7, e8, e9, e10, e11, e12] h Z := by
  unfold T30
  rw [wpSs, wpS]
  simp only [wpE, wpEs, wpP, List.getElem?_cons_zero, Option.join_some, ws_some]
  refine ⟨by simp, ?_⟩
  simp only [List.set]
  rw [wpSs, for_wp]
  have hm := nt.lt
  have hF : Fc < h.length := (List.getElem?_eq_some_iff.mp ef).1
  refine @j30_it F E _ _ depth _ ?_ ?_ ?_
  · simp only [List.getElem?_cons_succ, List.getElem?_cons_zero]
  · omega
  have p1 : h <+: h ++ [Cell.lst [.tup [.tup [], rowsD rs0]]] ++ [.lst (rngD 1 depth)] ++ [.lst (down depth)] := pre_one.trans (pre_one.trans pre_one)
  have er : (h ++ [Cell.lst [.tup [.tup [], rowsD rs0]]] ++ [.lst (rngD 1 depth)] ++ [.lst (down depth)])[(h ++ [Cell.lst [.tup [.tup [], rowsD rs0]]]).length + 1]? = some (.lst (down depth)) := by
    have : ((h ++ [Cell.lst [.tup [.tup [], rowsD rs0]]]).length + 1) = (h ++ [Cell.lst [.tup [.tup [], rowsD rs0]]] ++ [Cell.lst (rngD 1 depth)]).length := by simp
    rw [this]
    exact last_at
  have el : (h ++ [Cell.lst [.tup [.tup [], rowsD rs0]]] ++ [.lst (rngD 1 depth)] ++ [.lst (down depth)])[h.length]? = some (.lst [.tup [.tup [], rowsD rs0]]) := pre_at (pre_one.trans pre_one) last_at
  rw [it_lst er]
  simp only [ws_some]
  have hr : (h ++ [Cell.lst [.tup [.tup [], rowsD rs0]]]).length + 1 = h.length + 2 := by simp
  rw [hr] at er ⊢
  have nt1 := nt.pre p1
  have ef1 := pre_at p1 ef
  generalize h ++ [Cell.lst [.tup [.tup [], rowsD rs0]]] ++ [.lst (rngD 1 depth)] ++ [.lst (down depth)] = H1 at p1 er el nt1 ef1 ⊢
  refine forL_inv (fun l env h' => ∃ (d Li : Nat) (fs : PR) (cur : Ln) (e4 e7 e8 e9 e10 e11 e12 : Option D), l = down d ∧ OS many depth d rs0 h' H1 m Fc Li fs cur ∧ env = [some (rowsD rs0), some (.int many), some (.int (depth : Int)), some (.ref Li), e4, some (.ref m), some (.ref Fc), e7, e8, e9, e10, e11, e12])
    (fun _ _ h' ⟨_, _, _, _, _, _, _, _, _, _, _, _, S, _⟩ => still_one (S.ms.cell er (by simp; omega))) (fun x l env h' R hi k => ?_) (fun env h' hi => ?_) _ _ _
    ⟨depth, h.length, [], [([], rs0)], _, _, _, _, _, _, _, rfl, ⟨nt1, ef1, el, d1, by simp; omega, MS.refl _ _, (fun p hp => by rw [List.mem_singleton.mp hp]; exact ht), ⟨(fun p hp => by rw [List.mem_singleton.mp hp]; exact List.Sublist.refl _), (fun p hp => by rw [List.mem_singleton.mp hp]; exact hw), (fun p hp => by rw [List.mem_singleton.mp hp]; simp)⟩, by simp, rfl, Nat.le_refl _⟩, rfl⟩
  · obtain ⟨d, Li, fs, cur, e4, e7, e8, e9, e10, e11, e12, hl, S, rfl⟩ := hi
    cases d with
    | zero => cases hl
    | succ d =>
      rw [down] at hl
      cases hl
      simp only [wpP, List.set]
      refine ⟨by simp, ?_⟩
      exact body30 (HO d (by have := S.dl; omega)) hm1 hd S fun h2 Li' fs' cur' e7 e8 e9 e10 e11 e12 S2 => k _ _ ⟨d, Li', fs', cur', _, _, _, _, _, _, _, rfl, S2, rfl⟩
  · obtain ⟨d, Li, fs, cur, e4, e7, e8, e9, e10, e11, e12, hl, S, rfl⟩ := hi
    cases d with
    | succ d => cases hl
    | zero =>
      have hall := S.all_
      rw [bld, List.append_nil] at hall
      show wpSs F E [.ret (.blt .tuple [(.loc 6)])] _ _ _
      rw [wpSs, wpS, wpE]
      simp only [wpEs, wpE, List.getElem?_cons_succ, List.getElem?_cons_zero, Option.join_some, ws_some]
      rw [b_tupleL S.ef]
      simp only [ws_some]
      rw [hall]
      exact q h' ((MS.pre p1).trans S.ms)
theorem play_spec {many n depth : Nat} {rs : List Rw} {h : Hm} {Q : VQ} {E : XP} (hn : 40 ≤ n) (hl : rs.length ≤ 12) (hm1 : many ≤ 3) (hd : depth ≤ 2) (hw : WF many rs)
    (q : ∀ h', h <+: h' → Q (if tell many depth rs = true then .non else playD (bld (chF many) many depth [([], rs)])) h') : FW P (n + 3) 30 [rowsD rs, .int many, .int (depth : Int)] h Q E := by
  refine fw_open (d := D30) rfl rfl ?_
  rw [d30_eq]
  have HO : ∀ d, d < depth → OpOk (FW P (n + 2)) many rs d := fun d hd' a rs' h m Q E ha hsub hw' hm q => open_spec hl (by omega) (tell_ok hl (by omega) d (n + 1) (by omega) (by omega)) ha hsub hw' hm q
  have HT : TellOk many rs depth (n + 2) := tell_ok hl (by omega) depth (n + 2) (by omega) (by omega)
  have hT : ∀ (h : Hm) (m : Nat) (Q : VQ) (E : XP), NT many rs h m → (∀ h', MX m h h' → NT many rs h' m → Q (.bl (tell many depth rs)) h') → FW P (n + 2) 7 [rowsD rs, .int many, .int (depth : Int), .ref m] h Q E := fun h m Q E => HT rs h m Q E (List.Sublist.refl _) hw
  clear HT
  generalize FW P (n + 2) = F at HO hT ⊢
  rw [wpSs, wpS]
  simp only [wpE, wpEs, wpP, wpPs, evens, mergeK, ws_some, List.map, List.replicate, List.cons_append, List.nil_append]
  refine ⟨by simp, by simp, ?_⟩
  rw [wpSs, wpS]
  simp only [wpE, wpEs, List.set, List.getElem?_cons_succ, List.getElem?_cons_zero, Option.join_some, ws_some, permD]
  refine hT _ _ _ _ (NT.new.pre pre_one) fun h1 mx1 nt1 => ?_
  have hm := nt1.lt
  have ef1 : h1[(h ++ [Cell.dct []]).length]? = some (.lst []) := mx1.cell last_at (by simp)
  have p1 : h <+: h1 := mx_pre (pre_one.trans pre_one) (Nat.le_refl _) mx1
  cases c : tell many depth rs with
  | true =>
    simp only [truth, ws_some, if_true]
    rw [wpSs, wpS, wpE]
    have := q h1 p1
    rw [c] at this
    exact this
  | false =>
    simp only [truth, ws_some, Bool.false_eq_true, if_false]
    rw [wpSs]
    refine tail30 HO hm1 hd hw c nt1 ef1 (by simp) fun h' ms => ?_
    have := q h' (ms_pre p1 (fun i hi => by
      simp only [List.mem_cons, List.not_mem_nil, or_false] at hi
      rcases hi with rfl | rfl <;> simp) ms)
    rw [c] at this
    exact this
end M47

end
section
set_option Elab.async false
set_option linter.all false
set_option autoImplicit false
/-! whether a value is a play: its form; dicts of its rows -/
namespace M47
open M
def lenB (j : Int) : D → Bool
  | .tup xs => decide ((xs.length : Int) = j)
  | _ => false
theorem len_spec {n : Nat} {h : Hm} {d : D} {j : Int} {Q : VQ} {E : XP} (ok : okR h d) (q : Q (.bl (lenB j d)) h) : FW P (n + 1) 3 [d, .int j] h Q E := by
  refine fw_open (d := D3) rfl rfl ?_
  unfold D3
  simp only [wpSs, wpS, wpE, wpEs, wpCs, wpP, wpPs, List.map, List.replicate, List.cons_append, List.nil_append, List.append_nil, List.getElem?_cons_zero, List.getElem?_cons_succ, jn, ws_some, List.length_cons, List.length_nil, List.set, at0, at1, at2, idx_tup, c_gt, c_lt, c_le, c_ge, c_is, c_isnt, c_eqI, c_neI, c_eqS, c_neS, c_eqB, c_neB, isS, isNonD, isBlD, t_bl, b_int, b_abs, b_max2, b_min2, b_lenT, o_add, o_sub, permD, Option.map_some, isi_ok ok]
  cases d with
  | tup xs =>
    simp only [kindB, decide_true, if_true, wpSs, wpS, wpE, wpEs, wpCs, wpP, wpPs, List.map, List.replicate, List.cons_append, List.nil_append, List.append_nil, List.getElem?_cons_zero, List.getElem?_cons_succ, jn, ws_some, List.length_cons, List.length_nil, List.set, at0, at1, at2, idx_tup, c_gt, c_lt, c_le, c_ge, c_is, c_isnt, c_eqI, c_neI, c_eqS, c_neS, c_eqB, c_neB, isS, isNonD, isBlD, t_bl, b_int, b_abs, b_max2, b_min2, b_lenT, o_add, o_sub, permD, Option.map_some]
    exact q
  | _ => simpa [kindB, lenB] using q
theorem len2 {d : D} (h : lenB 2 d = true) : ∃ a b, d = .tup [a, b] := by
  cases d with
  | tup xs =>
    have := of_decide_eq_true h
    match xs, this with
    | [a, b], _ => exact ⟨a, b, rfl⟩
    | [], e => simp at e
    | [_], e => simp at e
    | _ :: _ :: _ :: l, e => simp only [List.length_cons] at e; omega
  | _ => cases h
theorem len3 {d : D} (h : lenB 3 d = true) : ∃ a b c, d = .tup [a, b, c] := by
  cases d with
  | tup xs =>
    have := of_decide_eq_true h
    match xs, this with
    | [a, b, c], _ => exact ⟨a, b, c, rfl⟩
    | [], e => simp at e
    | [_], e => simp at e
    | [_, _], e => simp at e
    | _ :: _ :: _ :: _ :: l, e => simp only [List.length_cons] at e; omega
  | _ => cases h
theorem askB_len {many : Nat} {d : D} (h : lenB 2 d = false) : askB many d = false := by
  unfold askB
  split
  · cases h
  · rfl
theorem asked_spec {n many : Nat} {h : Hm} {d : D} {Q : VQ} {E : XP} (ok : okR h d) (okc : ∀ xs, d = .tup xs → ∀ x ∈ xs, okR h x) (q : Q (.bl (askB many d)) h) : FW P (n + 3) 31 [.int (many : Int), d] h Q E := by
  refine fw_open (d := D31) rfl rfl ?_
  unfold D31
  simp only [wpSs, wpS, wpE, wpEs, wpCs, wpP, wpPs, List.map, List.replicate, List.cons_append, List.nil_append, List.append_nil, List.getElem?_cons_zero, List.getElem?_cons_succ, jn, ws_some, List.length_cons, List.length_nil, List.set, at0, at1, at2, idx_tup, c_gt, c_lt, c_le, c_ge, c_is, c_isnt, c_eqI, c_neI, c_eqS, c_neS, c_eqB, c_neB, isS, isNonD, isBlD, t_bl, b_int, b_abs, b_max2, b_min2, b_lenT, o_add, o_sub, permD, Option.map_some]
  refine len_spec ok ?_
  simp only [ws_some, t_bl]
  cases c : lenB 2 d with
  | false =>
    rw [askB_len c] at q
    simpa using q
  | true =>
    obtain ⟨a, b, rfl⟩ := len2 c
    simp only [if_true, wpSs, wpS, wpE, wpEs, wpCs, wpP, wpPs, List.map, List.replicate, List.cons_append, List.nil_append, List.append_nil, List.getElem?_cons_zero, List.getElem?_cons_succ, jn, ws_some, List.length_cons, List.length_nil, List.set, at0, at1, at2, idx_tup, c_gt, c_lt, c_le, c_ge, c_is, c_isnt, c_eqI, c_neI, c_eqS, c_neS, c_eqB, c_neB, isS, isNonD, isBlD, t_bl, b_int, b_abs, b_max2, b_min2, b_lenT, o_add, o_sub, permD, Option.map_some]
    have ha := okc _ rfl a (by simp)
    have hb := okc _ rfl b (by simp)
    refine num_spec (hi := some ((many : Int) - 1)) ha ?_
    simp only [ws_some, t_bl]
    simp only [askB] at q
    cases c1 : numB 0 (some ((many : Int) - 1)) a with
    | false =>
      rw [c1, Bool.false_and] at q
      simpa using q
    | true =>
      rw [c1, Bool.true_and] at q
      simp only [if_true]
      exact num_spec (hi := none) hb q
theorem pair33_spec {n many : Nat} {h : Hm} {d : D} {Q : VQ} {E : XP} (ok : okR h d) (okc : ∀ xs, d = .tup xs → ∀ x ∈ xs, okR h x) (q : Q (.bl (askB many d)) h) : FW P (n + 3) 33 [.int (many : Int), d] h Q E := by
  refine fw_open (d := D33) rfl rfl ?_
  unfold D33
  simp only [wpSs, wpS, wpE, wpEs, wpCs, wpP, wpPs, List.map, List.replicate, List.cons_append, List.nil_append, List.append_nil, List.getElem?_cons_zero, List.getElem?_cons_succ, jn, ws_some, List.length_cons, List.length_nil, List.set, at0, at1, at2, idx_tup, c_gt, c_lt, c_le, c_ge, c_is, c_isnt, c_eqI, c_neI, c_eqS, c_neS, c_eqB, c_neB, isS, isNonD, isBlD, t_bl, b_int, b_abs, b_max2, b_min2, b_lenT, o_add, o_sub, permD, Option.map_some, isi_ok ok]
  cases c : lenB 2 d with
  | false =>
    rw [askB_len c] at q
    cases d with
    | tup xs =>
      have : ¬ (xs.length : Int) = 2 := of_decide_eq_false c
      simp only [kindB, decide_true, if_true, wpSs, wpS, wpE, wpEs, wpCs, wpP, wpPs, List.map, List.replicate, List.cons_append, List.nil_append, List.append_nil, List.getElem?_cons_zero, List.getElem?_cons_succ, jn, ws_some, List.length_cons, List.length_nil, List.set, at0, at1, at2, idx_tup, c_gt, c_lt, c_le, c_ge, c_is, c_isnt, c_eqI, c_neI, c_eqS, c_neS, c_eqB, c_neB, isS, isNonD, isBlD, t_bl, b_int, b_abs, b_max2, b_min2, b_lenT, o_add, o_sub, permD, Option.map_some, this, decide_false, Bool.false_eq_true, if_false]
      exact q
    | _ => simpa [kindB] using q
  | true =>
    obtain ⟨a, b, rfl⟩ := len2 c
    have e2 : (([a, b] : List D).length : Int) = 2 := rfl
    simp only [kindB, decide_true, if_true, wpSs, wpS, wpE, wpEs, wpCs, wpP, wpPs, List.map, List.replicate, List.cons_append, List.nil_append, List.append_nil, List.getElem?_cons_zero, List.getElem?_cons_succ, jn, ws_some, List.length_cons, List.length_nil, List.set, at0, at1, at2, idx_tup, c_gt, c_lt, c_le, c_ge, c_is, c_isnt, c_eqI, c_neI, c_eqS, c_neS, c_eqB, c_neB, isS, isNonD, isBlD, t_bl, b_int, b_abs, b_max2, b_min2, b_lenT, o_add, o_sub, permD, Option.map_some, e2]
    have ha := okc _ rfl a (by simp)
    have hb := okc _ rfl b (by simp)
    have e3 : decide (((0 + 1 + 1 : Nat) : Int) = 2) = true := rfl
    simp only [e3, if_true]
    refine num2_spec (hi := some ((many : Int) - 1)) ha ?_
    simp only [ws_some, t_bl]
    simp only [askB] at q
    cases c1 : numB 0 (some ((many : Int) - 1)) a with
    | false =>
      rw [c1, Bool.false_and] at q
      simpa using q
    | true =>
      rw [c1, Bool.true_and] at q
      simp only [if_true]
      exact num2_spec (hi := none) hb q
/-! ### keys -/
theorem eqDs_pairs : ∀ a b : HI, eqDs (a.map pairD) (b.map pairD) = decide (a = b)
  | [], [] => rfl
  | [], _ :: _ => rfl
  | _ :: _, [] => rfl
  | x :: a, y :: b => by
    rw [List.map_cons, List.map_cons, eqDs, eqDs_pairs a b]
    have e : eqD (pairD x) (pairD y) = decide (x = y) := by
      obtain ⟨x1, x2⟩ := x
      obtain ⟨y1, y2⟩ := y
      simp only [pairD, eqD, eqDs, Bool.and_true]
      by_cases h1 : x1 = y1 <;> by_cases h2 : x2 = y2 <;> simp [h1, h2]
    rw [e]
    by_cases h1 : x = y <;> by_cases h2 : a = b <;> simp [h1, h2]
theorem pairs_pure : ∀ a : HI, pureDs (a.map pairD) = true ∧ deps (a.map pairD) ≤ 1
  | [] => ⟨rfl, by simp [deps]⟩
  | x :: a => by
    obtain ⟨h1, h2⟩ := pairs_pure a
    refine ⟨?_, ?_⟩
    · rw [List.map_cons, pureDs, h1]; rfl
    · simp only [List.map_cons, deps, pairD, dep]
      omega
def keyD (k : Ky) : D := .tup [hisD k.1, .int k.2]
theorem key_pure (k : Ky) : pureD (keyD k) = true ∧ dep (keyD k) ≤ 3 := by
  obtain ⟨h1, h2⟩ := pairs_pure k.1
  refine ⟨?_, ?_⟩
  · simp [keyD, pureD, pureDs, hisD, h1]
  · simp only [keyD, dep, deps, hisD]
    omega
theorem eqD_key (a b : Ky) : eqD (keyD a) (keyD b) = decide (a = b) := by
  obtain ⟨a1, a2⟩ := a
  obtain ⟨b1, b2⟩ := b
  simp only [keyD, hisD, eqD, eqDs, eqDs_pairs, Bool.and_true]
  by_cases h : a1 = b1 <;> by_cases h2 : a2 = b2 <;> simp [h, h2]
def encK : Enc Ky where
  e := keyD
  eq := eqD_key
  ok := fun a => by
    obtain ⟨h1, h2⟩ := key_pure a
    have h3 : deps [hisD a.1, .int a.2] + 1 ≤ 3 := h2
    show (pureDs [hisD a.1, .int a.2] && decide (deps [hisD a.1, .int a.2] ≤ 7)) = true
    rw [Bool.and_eq_true]
    exact ⟨h1, decide_eq_true (by omega)⟩
  tup := true
  tp := fun _ => rfl
section
variable {α β : Type} [DecidableEq α]
def puts (acc l : List (α × β)) : List (α × β) := l.foldl (fun acc p => put acc p.1 p.2) acc
theorem puts_add (acc l : List (α × β)) (k : α) (v : β) : puts acc (l ++ [(k, v)]) = put (puts acc l) k v := by
  unfold puts
  rw [List.foldl_append]; rfl
theorem put_len_in {ps : List (α × β)} {k : α} {v : β} (h : k ∈ ps.map (·.1)) : (put ps k v).length = ps.length := by
  have := congrArg List.length (put_keys ps k v)
  rw [if_pos h, List.length_map, List.length_map] at this
  exact this
theorem put_new {ps : List (α × β)} {k : α} {v : β} (h : k ∉ ps.map (·.1)) : put ps k v = ps ++ [(k, v)] := by
  unfold put
  rw [if_neg]
  intro z
  obtain ⟨p, hp, e⟩ := List.any_eq_true.mp z
  exact h (by rw [← of_decide_eq_true e]; exact List.mem_map_of_mem hp)
theorem puts_le : ∀ (l acc : List (α × β)), (puts acc l).length ≤ acc.length + l.length
  | [], acc => by simp [puts]
  | p :: l, acc => by
    have h1 := puts_le l (put acc p.1 p.2)
    have h2 := put_length acc p.1 p.2
    show (puts (put acc p.1 p.2) l).length ≤ _
    rw [List.length_cons]
    omega
theorem puts_nodup : ∀ (l acc : List (α × β)), ((acc ++ l).map (·.1)).Nodup → puts acc l = acc ++ l
  | [], acc, _ => by simp [puts]
  | p :: l, acc, h => by
    have hn : p.1 ∉ acc.map (·.1) := fun z => by
      rw [List.map_append, List.nodup_append] at h
      exact h.2.2 _ z p.1 (by simp) rfl
    show puts (put acc p.1 p.2) l = _
    rw [put_new hn]
    have e : acc ++ p :: l = (acc ++ [(p.1, p.2)]) ++ l := by simp
    rw [e] at h ⊢
    exact puts_nodup l _ h
theorem puts_lt : ∀ (l acc : List (α × β)), (acc.map (·.1)).Nodup → ¬ ((acc ++ l).map (·.1)).Nodup → (puts acc l).length < acc.length + l.length
  | [], acc, h1, h2 => absurd (by simpa using h1) h2
  | p :: l, acc, h1, h2 => by
    show (puts (put acc p.1 p.2) l).length < _
    rw [List.length_cons]
    by_cases hn : p.1 ∈ acc.map (·.1)
    · have := puts_le l (put acc p.1 p.2)
      have := put_len_in (v := p.2) hn
      omega
    · rw [put_new hn]
      have e : acc ++ p :: l = (acc ++ [(p.1, p.2)]) ++ l := by simp
      rw [e] at h2
      have := puts_lt l (acc ++ [(p.1, p.2)]) (by
        rw [List.map_append, List.nodup_append]
        exact ⟨h1, by simp, fun a ha b hb e => hn (by
          have e2 : b = p.1 := by simpa using hb
          rw [← e2, ← e]; exact ha)⟩) h2
      rw [List.length_append] at this
      simp at this
      omega
theorem puts_len_iff (l : List (α × β)) : (puts [] l).length = l.length ↔ (l.map (·.1)).Nodup := by
  constructor
  · intro h
    apply Classical.byContradiction
    intro n
    have := puts_lt l [] (by simp) (by simpa using n)
    simp at this
    omega
  · intro h
    rw [puts_nodup l [] (by simpa using h)]
    rfl
/-- a dict comprehension with keys from outside -/
theorem dcomp_puts {ι : Type} (E : Enc α) (f : β → D) {g : List (Nat × Cell)} {h0 : Hm} {step : D → Hm → (Option (D × D) → Hm → Prop) → Prop} {Q : Hm → Prop} (st : still g h0) (g0 : ι → D) (kf : ι → α) (vf : ι → β) :
    ∀ (is : List ι) (acc : List (α × β)) (h : Hm), (∀ i ∈ is, ∀ (h : Hm) (R : Option (D × D) → Hm → Prop), h0 <+: h → R (some (E.e (kf i), f (vf i))) h → step (g0 i) h R) → acc.length + is.length ≤ LIM → h0 <+: h → h[h0.length]? = some (.dct (encL E f acc)) →
      (∀ h', h0 <+: h' → h'[h0.length]? = some (.dct (encL E f (puts acc (is.map fun i => (kf i, vf i))))) → Q h') → dcompL g h0.length step Q (is.map g0) h
  | [], acc, h, hs, hl, p, e, q => ⟨still_pre st p, q h p e⟩
  | x :: is, acc, h, hs, hl, p, e, q => by
    refine ⟨still_pre st p, hs x List.mem_cons_self h _ p ?_⟩
    rw [List.length_cons] at hl
    have em : getK h h0.length = some (encL E f acc) := by unfold getK; rw [e]
    show ws (getK h h0.length) _
    rw [em]
    have hlen := put_length acc (kf x) (vf x)
    refine ⟨enc_in E f acc (kf x), by unfold encL; rw [List.length_map]; omega, ?_⟩
    rw [show dput (encL E f acc) (E.e (kf x)) (f (vf x)) = encL E f (put acc (kf x) (vf x)) from enc_put E f acc (kf x) (vf x)]
    exact dcomp_puts E f st g0 kf vf is _ _ (fun y hy => hs y (List.mem_cons_of_mem _ hy)) (by omega) (pre_set p (Nat.le_refl _) _) (set_at e) fun h' p' e' => q h' p' e'
theorem merge_puts (E : Enc α) (f : β → D) : ∀ (l acc : List (α × β)), mergeK (encL E f acc) (encL E f l) = some (encL E f (puts acc l))
  | [], acc => rfl
  | p :: l, acc => by
    show mergeK (encL E f acc) ((E.e p.1, f p.2) :: encL E f l) = _
    rw [mergeK, if_pos (enc_in E f acc p.1), enc_put]
    exact merge_puts E f l _
theorem b_dictE (E : Enc α) (f : β → D) (ht : E.tup = true) {h : Hm} {a : Nat} {l : List (α × β)} (e : h[a]? = some (.lst (l.map fun p => D.tup [E.e p.1, f p.2]))) (hl : l.length ≤ LIM) : bltS .dict [.ref a] h = some (.ref h.length, h ++ [.dct (encL E f (puts [] l))]) := by
  have e1 : lstOf h (.ref a) = some ((encL E f l).map fun p => D.tup [p.1, p.2]) := by
    have e0 : (encL E f l).map (fun p => D.tup [p.1, p.2]) = l.map fun p => D.tup [E.e p.1, f p.2] := by
      unfold encL
      rw [List.map_map]; rfl
    rw [e0]
    simp [lstOf, getL, e]
  have e2 : ((encL E f l).all fun p => isTup p.1) = true := by
    rw [List.all_eq_true]
    intro p hp
    obtain ⟨q, _, rfl⟩ := List.mem_map.mp hp
    exact (E.tp q.1).trans ht
  have e3 : mergeK [] (encL E f l) = some (encL E f (puts [] l)) := merge_puts E f l []
  simp only [bltS, e1, Option.bind_some, pairs_ok]
  rw [if_pos ⟨.inr e2, by unfold encL; rw [List.length_map]; exact hl⟩, e3]
  rfl
end
theorem cut_tail (xs : List D) : cutL xs (some 1) none = xs.tail := by
  cases xs with
  | nil => rfl
  | cons x xs =>
    have h1 : sIx (x :: xs).length 0 (some 1) = 1 := by simp [sIx]
    have h2 : sIx (x :: xs).length (x :: xs).length none = xs.length + 1 := rfl
    unfold cutL
    rw [h1, h2]
    simp
theorem cut3 (a b c : D) : cutL [a, b, c] none (some 2) = [a, b] := rfl
theorem ent_key (e : Ky × Int) : ∃ a b c, entD e = .tup [a, b, c] ∧ keyD e.1 = .tup [a, b] ∧ c = .int e.2 := ⟨_, _, _, rfl, rfl, rfl⟩
end M47

end
section
set_option Elab.async false
set_option linter.all false
set_option autoImplicit false
/-! play_holds -/
namespace M47
open M
/-- a comprehension over images -/
theorem comp_ix {ι : Type} {g : List (Nat × Cell)} {h0 : Hm} {step : D → Hm → (Option D → Hm → Prop) → Prop} {Q : Hm → Prop} (g0 : ι → D) (f : ι → Option D) (st : still g h0) :
    ∀ (is : List ι) (acc : List D) (h : Hm), (∀ i ∈ is, ∀ (h : Hm) (R : Option D → Hm → Prop), h0 <+: h → (∀ h', h <+: h' → R (f i) h') → step (g0 i) h R) → acc.length + is.length ≤ LIM → h0 <+: h → h[h0.length]? = some (.lst acc) →
      (∀ h', h0 <+: h' → h'[h0.length]? = some (.lst (acc ++ is.filterMap f)) → Q h') → compL g h0.length step Q (is.map g0) h
  | [], acc, h, hs, hl, p, e, q => ⟨still_pre st p, q h p (by rw [List.filterMap_nil, List.append_nil]; exact e)⟩
  | x :: is, acc, h, hs, hl, p, e, q => by
    refine ⟨still_pre st p, hs x List.mem_cons_self h _ p fun h' p' => ?_⟩
    have e' := pre_at p' e
    rw [List.length_cons] at hl
    cases hf : f x with
    | none =>
      refine comp_ix g0 f st is acc h' (fun y hy => hs y (List.mem_cons_of_mem _ hy)) (by omega) (p.trans p') e' fun h'' p'' e'' => q h'' p'' ?_
      rw [List.filterMap_cons, hf]; exact e''
    | some y =>
      have em : getM h' h0.length = some acc := by unfold getM; rw [e']
      show ws (getM h' h0.length) _
      rw [em]
      refine ⟨by omega, comp_ix g0 f st is (acc ++ [y]) _ (fun y hy => hs y (List.mem_cons_of_mem _ hy)) (by rw [List.length_append]; simp; omega) (pre_set (p.trans p') (Nat.le_refl _) _) (set_at e') fun h'' p'' e'' => q h'' p'' ?_⟩
      rw [List.filterMap_cons, hf]
      rw [List.append_assoc] at e''
      exact e''
theorem comp_all {ι : Type} {g : List (Nat × Cell)} {h0 : Hm} {step : D → Hm → (Option D → Hm → Prop) → Prop} {Q : Hm → Prop} (g0 : ι → D) (f : ι → Option D) (st : still g h0) (is : List ι) (hl : is.length ≤ LIM) (hs : ∀ i ∈ is, ∀ (h : Hm) (R : Option D → Hm → Prop), h0 <+: h → (∀ h', h <+: h' → R (f i) h') → step (g0 i) h R) (q : ∀ h', h0 <+: h' → h'[h0.length]? = some (.lst (is.filterMap f)) → Q h') : compL g h0.length step Q (is.map g0) (h0 ++ [.lst []]) :=
  comp_ix g0 f st is [] _ hs (by simpa using hl) ⟨_, rfl⟩ (by simp) fun h' p e => q h' p (by simpa using e)
abbrev Itm := (HI × List Rw) × D
def itD (x : Itm) : D := .tup [hisD x.1.1, x.2]
theorem RV.ms {ms : List Nat} {h h' : Hm} {rv : D} {rs : List Rw} (a : RV h rv rs) (x : MS ms h h') (hm : ∀ r, rv = .ref r → r ∉ ms) : RV h' rv rs := by
  rcases a with rfl | ⟨r, rfl, e⟩
  · exact .inl rfl
  · exact .inr ⟨r, rfl, x.cell e (hm r rfl)⟩
theorem RV.lt {h : Hm} {r : Nat} {rs : List Rw} (a : RV h (.ref r) rs) : r < h.length := by
  rcases a with e | ⟨r', e, e2⟩
  · cases e
  · cases e
    exact (List.getElem?_eq_some_iff.mp e2).1
/-- rows held, away from the cell that changes -/
structure ItOk (La : Nat) (h : Hm) (x : Itm) : Prop where
  rv : RV h x.2 x.1.2
  ne : x.2 ≠ .ref La
theorem ItOk.ms {La : Nat} {h h' : Hm} {x : Itm} (a : ItOk La h x) (m : MS [La] h h') : ItOk La h' x :=
  ⟨a.rv.ms m fun r e z => a.ne (by rw [e, List.mem_singleton.mp z]), a.ne⟩
def hasP (V : PR) (many : Nat) (p : HI × List Rw) : Bool := (List.range many).all fun (a : Nat) => (look V (p.1, (a : Int))).isSome
def I32 : List CS := [
  .ite (.cmp .notin (.tup [(.loc 8), (.loc 10)]) (.loc 5)) [
    .ret (.lit (.bl false))] [],
  .asg (.slot 12) (.idx (.loc 5) (.tup [(.loc 8), (.loc 10)])),
  .expr (.meth .append (.loc 7) [(.tup [(.bin .add (.loc 8) (.tup [(.tup [(.loc 10), (.loc 12)])])), (.comp [11] (.slot 11) .val [(.loc 9)] [(.cmp .eq (.idx (.idx (.loc 11) (.lit (.int (0)))) (.loc 10)) (.loc 12))] (.loc 11))])])]
def M32 : List CS := [.for_ (.slot 10) .range [(.loc 1)] I32]
def L32 : CS := .for_ (.tup [(.slot 8), (.slot 9)]) .val [(.loc 6)] M32
def O32 : List CS := [
  .asg (.slot 7) (.lst []),
  L32,
  .asg (.slot 6) (.loc 7)]
def G32 : CE := .blt .all [(.comp [8, 9] (.tup [(.slot 8), (.slot 9)]) .val [(.loc 6)] [] (.cmp .gt (.blt .len [(.call 4 [(.loc 9)] [] [0])]) (.lit (.int (1)))))]
def A32 : CE := .or (.not (.call 3 [(.loc 3)] [.non] [0, 1])) (.not (.blt .all [(.comp [11] (.slot 11) .val [(.loc 3)] [] (.and (.call 3 [(.loc 11), (.lit (.int (3)))] [] [0, 1]) (.call 31 [(.loc 1), (.slc (.loc 11) (.lit (.int (1))) (.lit .non))] [] [0, 1])))]))
def B32 : CE := .not (.blt .all [(.comp [11] (.slot 11) .val [(.loc 3)] [] (.and (.call 3 [(.idx (.loc 11) (.lit (.int (0))))] [.non] [0, 1]) (.blt .all [(.comp [13] (.slot 13) .val [(.idx (.loc 11) (.lit (.int (0))))] [] (.call 31 [(.loc 1), (.loc 13)] [] [0, 1]))])))])
def C32 : CE := .tup [(.dcomp [11] (.slot 11) .val [(.loc 3)] [] (.slc (.loc 11) (.lit .non) (.lit (.int (2)))) (.idx (.loc 11) (.lit (.int (2))))), (.lst [(.tup [(.tup []), (.loc 0)])])]
def T32 : List CS := [
  .ite (.cmp .ne (.blt .len [(.loc 5)]) (.blt .len [(.loc 3)])) [
    .ret (.lit (.bl false))] [],
  .for_ (.slot 4) .range [(.loc 2)] O32,
  .ret G32]
theorem d32_eq : D32 = ⟨4, 14, .ite A32 [.ret (.lit (.bl false))] [] :: .ite B32 [.ret (.lit (.bl false))] [] :: .asg (.tup [(.slot 5), (.slot 6)]) C32 :: T32⟩ := rfl
/-- the state of a judge's turn -/
structure JS (V : PR) (h : Hm) (T La : Nat) (items : List Itm) : Prop where
  et : h[T]? = some (.dct (encL encK D.int V))
  el : h[La]? = some (.lst (items.map itD))
  d : T ≠ La
  rv : ∀ x ∈ items, ItOk La h x
theorem part_comp {F : FnS} {E : XP} {env : Env} {h : Hm} {rv : D} {rs : List Rw} {many : Nat} {a v : Int} {Q : VQ} (hw : WF many rs) (h0 : 0 ≤ a) (h1 : a < many) (hl : rs.length ≤ 1000) (hrv : RV h rv rs) (e9 : env[9]? = some (some rv)) (e10 : env[10]? = some (some (.int a))) (e12 : env[12]? = some (some (.int v))) (e11 : 11 < env.length)
    (q : ∀ h', h <+: h' → h'[h.length]? = some (.lst ((part rs a v).map rowD)) → Q (.ref h.length) h') : wpE F E (.comp [11] (.slot 11) .val [(.loc 9)] [(.cmp .eq (.idx (.idx (.loc 11) (.lit (.int (0)))) (.loc 10)) (.loc 12))] (.loc 11)) env h Q := by
  obtain ⟨g, hit, st⟩ := hrv.it
  rw [wpE]
  simp only [wpEs, wpE, e9, Option.join_some, ws_some]
  rw [hit]
  simp only [ws_some]
  refine comp_all rowD (fun r => if decide (col a r = v) = true then some (rowD r) else none) st rs (by unfold LIM; omega) (fun r hr h2 R p k => ?_) fun h2 p2 e2 => ?_
  · have n11 : (((env.set 11 none).set 11 (some (rowD r))) : Env)[11]? = some (some (rowD r)) := by
      rw [List.getElem?_set_self (by simpa using e11)]
    have n10 : (((env.set 11 none).set 11 (some (rowD r))) : Env)[10]? = some (some (.int a)) := by
      rw [List.getElem?_set_ne (by omega), List.getElem?_set_ne (by omega)]; exact e10
    have n12 : (((env.set 11 none).set 11 (some (rowD r))) : Env)[12]? = some (some (.int v)) := by
      rw [List.getElem?_set_ne (by omega), List.getElem?_set_ne (by omega)]; exact e12
    simp only [wpP, wpCs, wpE, wipeE, n11, n10, n12, Option.join_some, ws_some]
    refine ⟨by simpa using e11, ?_⟩
    simp only [rowD, idx_tup, at0, ws_some, col_at (hw r hr) h0 h1, c_eqI, t_bl]
    have := k h2 (List.prefix_refl _)
    by_cases c : col a r = v
    · simp only [c, decide_true, if_true] at this ⊢
      exact this
    · simp only [c, decide_false, Bool.false_eq_true, if_false] at this ⊢
      exact this
  · rw [filterMap_if] at e2
    exact q h2 p2 e2
theorem in32 {F : FnS} {E : XP} {V : PR} {many : Nat} (hm1 : many ≤ 1000) {p : HI × List Rw} {rv : D} (hw : WF many p.2) (hl : p.1.length ≤ 1000) (hrl : p.2.length ≤ 1000) {h : Hm} {T La : Nat} {items : List Itm} (S : JS V h T La items) (ok : ItOk La h (p, rv)) (ll : items.length ≤ 10000) {v0 v2 v3 v6 : D} {e4 e10 e11 e12 e13 : Option D} {Z : Ends}
    (q : ∀ h' items' e10 e11 e12 e13, items'.map (·.1) = items.map (·.1) ++ nxt1 many (lk V) p → hasP V many p = true → JS V h' T La items' → MS [La] h h' → Z.nx [some v0, some (.int many), some v2, some v3, e4, some (.ref T), some v6, some (.ref La), some (hisD p.1), some rv, e10, e11, e12, e13] h')
    (qf : ∀ h', hasP V many p = false → MS [La] h h' → Z.rt (.bl false) h') :
    wpSs F E M32 [some v0, some (.int many), some v2, some v3, e4, some (.ref T), some v6, some (.ref La), some (hisD p.1), some rv, e10, e11, e12, e13] h Z := by
  unfold M32
  simp only [wpSs, wpS, wpE, wpEs, wpCs, wpP, wpPs, List.map, List.replicate, List.cons_append, List.nil_append, List.append_nil, List.getElem?_cons_zero, List.getElem?_cons_succ, jn, ws_some, List.length_cons, List.length_nil, List.set, at0, at1, at2, idx_tup, c_gt, c_lt, c_le, c_ge, c_is, c_isnt, c_eqI, c_neI, c_eqS, c_neS, c_eqB, c_neB, isS, isNonD, isBlD, t_bl, b_int, b_abs, b_max2, b_min2, b_lenT, o_add, o_sub, permD, Option.map_some]
  rw [it_range (by omega) (by omega)]
  simp only [ws_some]
  refine forL_inv (fun l env h' => ∃ (j : Nat) (items' : List Itm) (e10 e11 e12 e13 : Option D), l = (rngD 0 (many : Int).toNat).drop j ∧ j ≤ many ∧ items'.map (·.1) = items.map (·.1) ++ nxt1 j (lk V) p ∧ ((List.range j).all fun (a : Nat) => (look V (p.1, (a : Int))).isSome) = true ∧ JS V h' T La items' ∧ MS [La] h h' ∧ env = [some v0, some (.int many), some v2, some v3, e4, some (.ref T), some v6, some (.ref La), some (hisD p.1), some rv, e10, e11, e12, e13])
    (fun _ _ _ _ => still_nil) (fun x l env h' R hi k => ?_) (fun env h' hi => ?_) _ _ _ ⟨0, items, _, _, _, _, rfl, by omega, by simp [nxt1], rfl, S, MS.refl _ _, rfl⟩
  · obtain ⟨j, items', e10, e11, e12, e13, hj, jm, hit, hall, S1, ms, rfl⟩ := hi
    have hjn : j < (many : Int).toNat := by
      rcases Nat.lt_or_ge j (many : Int).toNat with z | z
      · exact z
      · rw [rng_end z] at hj; cases hj
    rw [rng_drop hjn] at hj
    cases hj
    have hjm : j < many := by omega
    unfold I32
    simp only [wpSs, wpS, wpE, wpEs, wpCs, wpP, wpPs, List.map, List.replicate, List.cons_append, List.nil_append, List.append_nil, List.getElem?_cons_zero, List.getElem?_cons_succ, jn, ws_some, List.length_cons, List.length_nil, List.set, at0, at1, at2, idx_tup, c_gt, c_lt, c_le, c_ge, c_is, c_isnt, c_eqI, c_neI, c_eqS, c_neS, c_eqB, c_neB, isS, isNonD, isBlD, t_bl, b_int, b_abs, b_max2, b_min2, b_lenT, o_add, o_sub, permD, Option.map_some]
    refine ⟨by simp, ?_⟩
    have hin : keyIn (encL encK D.int V) (.tup [hisD p.1, .int (j : Int)]) = true := enc_in encK D.int V (p.1, (j : Int))
    have hget : dget (encL encK D.int V) (.tup [hisD p.1, .int (j : Int)]) = (look V (p.1, (j : Int))).map D.int := enc_get encK D.int V (p.1, (j : Int))
    rw [in_dict S1.et hin, hget]
    simp only [ws_some, Option.isSome_map]
    cases hlk : look V (p.1, (j : Int)) with
    | none =>
      simp only [Option.isSome_none, Bool.not_false, if_true]
      refine qf h' ?_ ms
      unfold hasP
      rw [List.all_eq_false]
      exact ⟨j, List.mem_range.mpr hjm, by rw [hlk]; simp⟩
    | some v =>
      simp only [Option.isSome_some, Bool.not_true, Bool.false_eq_true, if_false]
      have hi2 : idxS (.ref T) (.tup [hisD p.1, .int (j : Int)]) h' = some (.int v) := by
        simp only [idxS, S1.et, hin, if_true]
        rw [hget, hlk]
        rfl
      rw [hi2]
      simp only [ws_some]
      refine ⟨by simp, recv_app S1.el, ?_⟩
      have hadd : ∀ h, binS .add (hisD p.1) (.tup [.tup [.int (j : Int), .int v]]) h = some (hisD (p.1 ++ [((j : Int), v)]), h) := fun h => his_add (q := ((j : Int), v)) hl
      rw [hadd]
      simp only [ws_some]
      have okp := ok.ms ms
      obtain ⟨g, hitr, st⟩ := okp.rv.it
      rw [hitr]
      simp only [ws_some]
      refine comp_all rowD (fun r => if decide (col (j : Int) r = v) = true then some (rowD r) else none) st p.2 (by unfold LIM; omega) (fun r hr h2 R p k => ?_) fun h2 p2 e2 => ?_
      · simp only [wipeE, wpSs, wpS, wpE, wpEs, wpCs, wpP, wpPs, List.map, List.replicate, List.cons_append, List.nil_append, List.append_nil, List.getElem?_cons_zero, List.getElem?_cons_succ, jn, ws_some, List.length_cons, List.length_nil, List.set, at0, at1, at2, idx_tup, c_gt, c_lt, c_le, c_ge, c_is, c_isnt, c_eqI, c_neI, c_eqS, c_neS, c_eqB, c_neB, isS, isNonD, isBlD, t_bl, b_int, b_abs, b_max2, b_min2, b_lenT, o_add, o_sub, permD, Option.map_some]
        refine ⟨by simp, ?_⟩
        simp only [rowD, idx_tup, at0, ws_some, col_at (hw r hr) (by omega : (0 : Int) ≤ j) (by omega), c_eqI, t_bl]
        have := k h2 (List.prefix_refl _)
        by_cases c : col (j : Int) r = v
        · simp only [c, decide_true, if_true] at this ⊢
          exact this
        · simp only [c, decide_false, Bool.false_eq_true, if_false] at this ⊢
          exact this
      · rw [filterMap_if] at e2
        have el2 := pre_at p2 S1.el
        have hll : items'.length = items.length + j := by
          have := congrArg List.length hit
          rw [List.length_append, List.length_map, List.length_map] at this
          rw [this]; simp [nxt1]
        rw [b_append el2 (by rw [List.length_map]; unfold LIM; omega)]
        simp only [ws_some]
        have hLa : La < h'.length := (List.getElem?_eq_some_iff.mp S1.el).1
        have ms2 : MS [La] h' (h2.set La (.lst (items'.map itD ++ [.tup [hisD (p.1 ++ [((j : Int), v)]), .ref h'.length]]))) := (MS.pre p2).set (by simp) _
        have hlv : lk V p j = v := by unfold lk; rw [hlk]; rfl
        refine k _ _ ⟨j + 1, items' ++ [((p.1 ++ [((j : Int), v)], part p.2 (j : Int) v), .ref h'.length)], _, _, _, _, rfl, by omega, ?_, ?_, ⟨?_, ?_, S1.d, fun x hx => ?_⟩, ms.trans ms2, rfl⟩
        · rw [List.map_append, hit, nxt1_succ, hlv, List.append_assoc]; rfl
        · rw [List.range_succ, List.all_append, hall]
          simp [hlk]
        · rw [List.getElem?_set_ne S1.d.symm]
          exact pre_at p2 S1.et
        · rw [set_at el2, List.map_append]; rfl
        · rcases List.mem_append.mp hx with hx | hx
          · exact (S1.rv x hx).ms ms2
          · rw [List.mem_singleton.mp hx]
            refine ⟨.inr ⟨_, rfl, ?_⟩, fun e => ?_⟩
            · rw [List.getElem?_set_ne (by omega)]
              exact e2
            · have : h'.length = La := by injection e
              omega
  · obtain ⟨j, items', e10, e11, e12, e13, hj, jm, hit, hall, S1, ms, rfl⟩ := hi
    have hjn : (many : Int).toNat ≤ j := by
      rcases Nat.lt_or_ge j (many : Int).toNat with z | z
      · rw [rng_drop z] at hj; cases hj
      · exact z
    have : j = many := by omega
    subst this
    exact q h' items' _ _ _ _ hit hall S1 ms
end M47

end
section
set_option Elab.async false
set_option linter.all false
set_option autoImplicit false
/-! play_holds: the loops -/
namespace M47
open M
theorem hasL_all (V : PR) (many : Nat) (line : Ln) : hasL V many line = line.all (hasP V many) := rfl
theorem mid32 {F : FnS} {E : XP} {V : PR} {many L : Nat} {rs0 : List Rw} (hm1 : many ≤ 3) {its : List Itm} (lr : LnR many L rs0 (its.map (·.1))) (hL : L ≤ 1000) (h0 : rs0.length ≤ 1000) (hll : its.length ≤ 1000) {h : Hm} {T La Li : Nat} (S : JS V h T La []) (ok : ∀ x ∈ its, ItOk La h x) (eli : h[Li]? = some (.lst (its.map itD))) (hLi : Li ≠ La) {v0 v2 v3 : D} {e4 e8 e9 e10 e11 e12 e13 : Option D} {Z : Ends}
    (q : ∀ h' items' e8 e9 e10 e11 e12 e13, items'.map (·.1) = nxt many (lk V) (its.map (·.1)) → hasL V many (its.map (·.1)) = true → JS V h' T La items' → MS [La] h h' → Z.nx [some v0, some (.int many), some v2, some v3, e4, some (.ref T), some (.ref Li), some (.ref La), e8, e9, e10, e11, e12, e13] h')
    (qf : ∀ h', hasL V many (its.map (·.1)) = false → MS [La] h h' → Z.rt (.bl false) h') :
    wpS F E L32 [some v0, some (.int many), some v2, some v3, e4, some (.ref T), some (.ref Li), some (.ref La), e8, e9, e10, e11, e12, e13] h Z := by
  unfold L32
  simp only [wpSs, wpS, wpE, wpEs, wpCs, wpP, wpPs, List.map, List.replicate, List.cons_append, List.nil_append, List.append_nil, List.getElem?_cons_zero, List.getElem?_cons_succ, jn, ws_some, List.length_cons, List.length_nil, List.set, at0, at1, at2, idx_tup, c_gt, c_lt, c_le, c_ge, c_is, c_isnt, c_eqI, c_neI, c_eqS, c_neS, c_eqB, c_neB, isS, isNonD, isBlD, t_bl, b_int, b_abs, b_max2, b_min2, b_lenT, o_add, o_sub, permD, Option.map_some]
  rw [it_lst eli]
  simp only [ws_some]
  refine forL_inv (fun l env h' => ∃ (done rest : List Itm) (items' : List Itm) (e8 e9 e10 e11 e12 e13 : Option D), its = done ++ rest ∧ l = rest.map itD ∧ items'.map (·.1) = nxt many (lk V) (done.map (·.1)) ∧ (done.map (·.1)).all (hasP V many) = true ∧ JS V h' T La items' ∧ MS [La] h h' ∧ env = [some v0, some (.int many), some v2, some v3, e4, some (.ref T), some (.ref Li), some (.ref La), e8, e9, e10, e11, e12, e13])
    (fun _ _ _ ⟨_, _, _, _, _, _, _, _, _, _, _, _, _, _, ms, _⟩ => still_one (ms.cell eli (by simpa using hLi))) (fun x l env h' R hi k => ?_) (fun env h' hi => ?_) _ _ _ ⟨[], its, [], _, _, _, _, _, _, rfl, rfl, rfl, rfl, S, MS.refl _ _, rfl⟩
  · obtain ⟨done, rest, items', e8, e9, e10, e11, e12, e13, hp, hx, hit, hall, S1, ms, rfl⟩ := hi
    cases rest with
    | nil => cases hx
    | cons p rest =>
      rw [List.map_cons] at hx
      cases hx
      have hpm : p ∈ its := by rw [hp]; simp
      have hpl : p.1 ∈ its.map (·.1) := List.mem_map_of_mem hpm
      have hdl : done.length ≤ 1000 := by
        have := congrArg List.length hp
        rw [List.length_append] at this
        omega
      have hil : items'.length = done.length * many := by
        have := congrArg List.length hit
        rw [List.length_map, nxt_len, List.length_map] at this
        exact this
      have hdm : done.length * many ≤ 1000 * 3 := Nat.mul_le_mul hdl hm1
      have hsl := (lr.sub p.1 hpl).length_le
      have hlen := lr.len p.1 hpl
      simp only [itD, wpSs, wpS, wpE, wpEs, wpCs, wpP, wpPs, List.map, List.replicate, List.cons_append, List.nil_append, List.append_nil, List.getElem?_cons_zero, List.getElem?_cons_succ, jn, ws_some, List.length_cons, List.length_nil, List.set, at0, at1, at2, idx_tup, c_gt, c_lt, c_le, c_ge, c_is, c_isnt, c_eqI, c_neI, c_eqS, c_neS, c_eqB, c_neB, isS, isNonD, isBlD, t_bl, b_int, b_abs, b_max2, b_min2, b_lenT, o_add, o_sub, permD, Option.map_some]
      refine ⟨by simp, by simp, ?_⟩
      refine in32 (p := p.1) (rv := p.2) (by omega) (lr.wf p.1 hpl) (by omega) (by omega) S1 ((ok p hpm).ms ms) (by omega) (fun h2 items2 e10 e11 e12 e13 hit2 hp2 S2 ms2 => ?_) fun h2 hp2 ms2 => ?_
      · refine k _ _ ⟨done ++ [p], rest, items2, _, _, _, _, _, _, by rw [hp]; simp, rfl, ?_, ?_, S2, ms.trans ms2, rfl⟩
        · rw [hit2, hit, List.map_append]
          exact nxt_add.symm
        · rw [List.map_append, List.all_append, hall]
          simpa using hp2
      · refine qf h2 ?_ (ms.trans ms2)
        rw [hasL_all, List.all_eq_false]
        exact ⟨p.1, hpl, by rw [hp2]; simp⟩
  · obtain ⟨done, rest, items', e8, e9, e10, e11, e12, e13, hp, hx, hit, hall, S1, ms, rfl⟩ := hi
    have hr0 : rest = [] := List.map_eq_nil_iff.mp hx.symm
    subst hr0
    rw [List.append_nil] at hp
    subst hp
    exact q h' items' _ _ _ _ _ _ hit hall S1 ms
/-- between the turns of a judge -/
structure OJ (V : PR) (many depth d : Nat) (rs0 : List Rw) (h H1 : Hm) (T Li : Nat) (its : List Itm) : Prop where
  et : h[T]? = some (.dct (encL encK D.int V))
  el : h[Li]? = some (.lst (its.map itD))
  rv : ∀ x ∈ its, RV h x.2 x.1.2
  lr : LnR many (depth - d) rs0 (its.map (·.1))
  ln : its.length ≤ 3 ^ (depth - d)
  pr : H1 <+: h
  jd : judge V many depth [([], rs0)] = judge V many d (its.map (·.1))
  dl : d ≤ depth
theorem body32 {F : FnS} {E : XP} {V : PR} {many depth d : Nat} {rs0 : List Rw} (hm1 : many ≤ 3) (hd : depth ≤ 2) (h0 : rs0.length ≤ 1000) {h H1 : Hm} {T Li : Nat} {its : List Itm} (S : OJ V many depth (d + 1) rs0 h H1 T Li its) {v0 v2 v3 : D} {e4 e7 e8 e9 e10 e11 e12 e13 : Option D} {Z : Ends}
    (q : ∀ h' Li' its' e7 e8 e9 e10 e11 e12 e13, OJ V many depth d rs0 h' H1 T Li' its' → Z.nx [some v0, some (.int many), some v2, some v3, e4, some (.ref T), some (.ref Li'), e7, e8, e9, e10, e11, e12, e13] h')
    (qf : ∀ h', judge V many depth [([], rs0)] = false → H1 <+: h' → Z.rt (.bl false) h') :
    wpSs F E O32 [some v0, some (.int many), some v2, some v3, e4, some (.ref T), some (.ref Li), e7, e8, e9, e10, e11, e12, e13] h Z := by
  unfold O32
  rw [wpSs, wpS]
  simp only [wpE, wpEs, wpP]
  refine ⟨by simp, ?_⟩
  rw [wpSs]
  simp only [List.set]
  have hT : T < h.length := (List.getElem?_eq_some_iff.mp S.et).1
  have hLi : Li < h.length := (List.getElem?_eq_some_iff.mp S.el).1
  have hdl := S.dl
  have h3 : its.length ≤ 9 := Nat.le_trans S.ln (pow3 (by omega))
  refine mid32 hm1 S.lr (by omega) h0 (by omega) ⟨pre_at pre_one S.et, last_at, by omega, (fun _ h => nomatch h)⟩ (fun x hx => ⟨(S.rv x hx).pre pre_one, fun e => ?_⟩) (pre_at pre_one S.el) (by omega) (fun h2 its2 e8 e9 e10 e11 e12 e13 hit hh S2 ms2 => ?_) fun h2 hh ms2 => ?_
  · have := S.rv x hx
    rw [e] at this
    have := this.lt
    omega
  · have p2 : h <+: h2 := ms_pre pre_one (fun i hi => by rw [List.mem_singleton.mp hi]; exact Nat.le_refl _) ms2
    dsimp only
    rw [wpSs, wpS, wpE]
    simp only [List.getElem?_cons_succ, List.getElem?_cons_zero, Option.join_some, ws_some, wpP, wpSs, List.set]
    refine ⟨by simp, ?_⟩
    refine q _ _ its2 _ _ _ _ _ _ _ ⟨S2.et, S2.el, fun x hx => (S2.rv x hx).rv, ?_, ?_, S.pr.trans p2, ?_, by omega⟩
    · rw [hit, show depth - d = depth - (d + 1) + 1 from by omega]
      exact S.lr.nxt
    · have := congrArg List.length hit
      rw [List.length_map, nxt_len, List.length_map] at this
      rw [this, show depth - d = depth - (d + 1) + 1 from by omega, Nat.pow_succ]
      exact Nat.mul_le_mul S.ln hm1
    · rw [S.jd, judge, hh, hit]; rfl
  · have p2 : h <+: h2 := ms_pre pre_one (fun i hi => by rw [List.mem_singleton.mp hi]; exact Nat.le_refl _) ms2
    refine qf h2 ?_ (S.pr.trans p2)
    rw [S.jd, judge, hh]; rfl
def Ok4 (F : FnS) : Prop := ∀ (h : Hm) (rv : D) (rs : List Rw) (Q : VQ) (E : XP), RV h rv rs → rs.length ≤ 1000 → (∀ h', h <+: h' → Q (.tup ((ans rs).map D.int)) h') → F 4 [rv] h Q E
theorem end32 {F : FnS} (A4 : Ok4 F) {E : XP} {its : List Itm} {h : Hm} {Li : Nat} (el : h[Li]? = some (.lst (its.map itD))) (rv : ∀ x ∈ its, RV h x.2 x.1.2) (hl : its.length ≤ 1000) (hrl : ∀ x ∈ its, x.1.2.length ≤ 1000) {v0 v1 v2 v3 : D} {e4 e5 e7 e8 e9 e10 e11 e12 e13 : Option D} {Q : VQ}
    (q : ∀ h', h <+: h' → Q (.bl (its.all fun x => decide (1 < (ans x.1.2).length))) h') : wpE F E G32 [some v0, some v1, some v2, some v3, e4, e5, some (.ref Li), e7, e8, e9, e10, e11, e12, e13] h Q := by
  unfold G32
  simp only [wpSs, wpS, wpE, wpEs, wpCs, wpP, wpPs, List.map, List.replicate, List.cons_append, List.nil_append, List.append_nil, List.getElem?_cons_zero, List.getElem?_cons_succ, jn, ws_some, List.length_cons, List.length_nil, List.set, at0, at1, at2, idx_tup, c_gt, c_lt, c_le, c_ge, c_is, c_isnt, c_eqI, c_neI, c_eqS, c_neS, c_eqB, c_neB, isS, isNonD, isBlD, t_bl, b_int, b_abs, b_max2, b_min2, b_lenT, o_add, o_sub, permD, Option.map_some]
  rw [it_lst el]
  simp only [ws_some]
  refine comp_all itD (fun x => some (.bl (decide (1 < (ans x.1.2).length)))) (still_one el) its (by unfold LIM; omega) (fun x hx h2 R p k => ?_) fun h2 p2 e2 => ?_
  · simp only [itD, wpSs, wpS, wpE, wpEs, wpCs, wpP, wpPs, List.map, List.replicate, List.cons_append, List.nil_append, List.append_nil, List.getElem?_cons_zero, List.getElem?_cons_succ, jn, ws_some, List.length_cons, List.length_nil, List.set, at0, at1, at2, idx_tup, c_gt, c_lt, c_le, c_ge, c_is, c_isnt, c_eqI, c_neI, c_eqS, c_neS, c_eqB, c_neB, isS, isNonD, isBlD, t_bl, b_int, b_abs, b_max2, b_min2, b_lenT, o_add, o_sub, permD, Option.map_some, wipeE]
    refine ⟨by simp, by simp, ?_⟩
    refine A4 _ _ _ _ _ ((rv x hx).pre p) (hrl x hx) fun h3 p3 => ?_
    rw [b_lenT]
    simp only [ws_some, c_gt, List.length_map]
    have := k h3 p3
    have e : decide ((1 : Int) < ((ans x.1.2).length : Int)) = decide (1 < (ans x.1.2).length) := decide_eq_decide.mpr (by omega)
    rw [e]
    exact this
  · have e3 : its.filterMap (fun x => some (D.bl (decide (1 < (ans x.1.2).length)))) = (its.map fun x => decide (1 < (ans x.1.2).length)).map D.bl := by
      rw [filterMap_some, List.map_map]; rfl
    rw [e3] at e2
    rw [b_all e2]
    simp only [ws_some, List.all_map]
    exact q h2 p2
theorem tail32 {F : FnS} (A4 : Ok4 F) {E : XP} {V W : PR} {many depth : Nat} {rs0 : List Rw} (hm1 : many ≤ 3) (hd : depth ≤ 2) (h0 : rs0.length ≤ 1000) (hw : WF many rs0) (hv : V = puts [] W) {h : Hm} {T Li : Nat} {xs : List D} (hxs : xs.length = W.length) (et : h[T]? = some (.dct (encL encK D.int V))) (el : h[Li]? = some (.lst [.tup [.tup [], rowsD rs0]])) {e4 e7 e8 e9 e10 e11 e12 e13 : Option D} {Z : Ends}
    (q : ∀ h', h <+: h' → Z.rt (.bl (decide (W.map (·.1)).Nodup && judge W many depth [([], rs0)])) h') :
    wpSs F E T32 [some (rowsD rs0), some (.int many), some (.int (depth : Int)), some (.tup xs), e4, some (.ref T), some (.ref Li), e7, e8, e9, e10, e11, e12, e13] h Z := by
  unfold T32
  rw [wpSs, wpS]
  simp only [wpE, wpEs, List.getElem?_cons_succ, List.getElem?_cons_zero, Option.join_some, ws_some]
  rw [b_lenD et]
  simp only [ws_some, b_lenT, c_neI, t_bl]
  have hlen : ((encL encK D.int V).length : Int) = (V.length : Int) := by unfold encL; rw [List.length_map]
  rw [hlen, hxs, hv]
  have hiff := puts_len_iff W
  by_cases c : (W.map (·.1)).Nodup
  · have e1 := hiff.mpr c
    have e2 : decide (((puts [] W).length : Int) = (W.length : Int)) = true := decide_eq_true (by omega)
    have hVW : V = W := by
      rw [hv, puts_nodup W [] (by simpa using c)]; rfl
    rw [e2]
    simp only [Bool.not_true, Bool.false_eq_true, if_false]
    rw [wpSs]
    dsimp only
    rw [wpSs, for_wp, wpEs, wpE]
    simp only [List.getElem?_cons_succ, List.getElem?_cons_zero, Option.join_some, ws_some, wpEs]
    rw [it_range (by omega) (by omega)]
    simp only [ws_some]
    rw [decide_eq_true c, Bool.true_and] at q
    subst hVW
    clear hv hiff e1 e2
    refine forL_inv (fun l env h' => ∃ (d t Li : Nat) (its : List Itm) (e4 e7 e8 e9 e10 e11 e12 e13 : Option D), l = (rngD 0 (depth : Int).toNat).drop t ∧ t + d = depth ∧ OJ V many depth d rs0 h' h T Li its ∧ env = [some (rowsD rs0), some (.int many), some (.int (depth : Int)), some (.tup xs), e4, some (.ref T), some (.ref Li), e7, e8, e9, e10, e11, e12, e13])
      (fun _ _ h' _ => still_nil) (fun x l env h' R hi k => ?_) (fun env h' hi => ?_) _ _ _
      ⟨depth, 0, Li, [(([], rs0), rowsD rs0)], _, _, _, _, _, _, _, _, rfl, by omega, ⟨et, el, (fun x hx => by rw [List.mem_singleton.mp hx]; exact .inl rfl), ⟨(fun p hp => by rw [List.mem_singleton.mp hp]; exact List.Sublist.refl _), (fun p hp => by rw [List.mem_singleton.mp hp]; exact hw), (fun p hp => by rw [List.mem_singleton.mp hp]; simp)⟩, by simp, List.prefix_refl _, rfl, Nat.le_refl _⟩, rfl⟩
    · obtain ⟨d, t, Li, its, e4, e7, e8, e9, e10, e11, e12, e13, hj, htd, S, rfl⟩ := hi
      have hjn : t < (depth : Int).toNat := by
        rcases Nat.lt_or_ge t (depth : Int).toNat with z | z
        · exact z
        · rw [rng_end z] at hj; cases hj
      rw [rng_drop hjn] at hj
      cases hj
      cases d with
      | zero => omega
      | succ d =>
        simp only [wpP, List.set]
        refine ⟨by simp, ?_⟩
        refine body32 hm1 hd h0 S (fun h2 Li' its' e7 e8 e9 e10 e11 e12 e13 S2 => k _ _ ⟨d, t + 1, Li', its', _, _, _, _, _, _, _, _, rfl, by omega, S2, rfl⟩) fun h2 hj p2 => ?_
        have := q h2 p2
        rw [hj] at this
        exact this
    · obtain ⟨d, t, Li, its, e4, e7, e8, e9, e10, e11, e12, e13, hj, htd, S, rfl⟩ := hi
      have hjn : (depth : Int).toNat ≤ t := by
        rcases Nat.lt_or_ge t (depth : Int).toNat with z | z
        · rw [rng_drop z] at hj; cases hj
        · exact z
      have hd0 : d = 0 := by omega
      subst hd0
      rw [wpSs, wpS]
      have hln : its.length ≤ 9 := Nat.le_trans S.ln (pow3 (by omega))
      refine end32 A4 S.el S.rv (by omega) (fun x hx => by
        have := (S.lr.sub x.1 (List.mem_map_of_mem hx)).length_le
        omega) fun h2 p2 => ?_
      have := q h2 (S.pr.trans p2)
      rw [S.jd, judge, List.all_map] at this
      exact this
  · have e1 : ¬ (puts [] W).length = W.length := fun z => c (hiff.mp z)
    have e2 : decide (((puts [] W).length : Int) = (W.length : Int)) = false := decide_eq_false (by omega)
    rw [e2]
    simp only [Bool.not_false, if_true]
    rw [wpSs, wpS, wpE]
    have := q h (List.prefix_refl _)
    rw [decide_eq_false c, Bool.false_and] at this
    exact this
end M47

end
section
set_option Elab.async false
set_option linter.all false
set_option autoImplicit false
/-! play_holds: the whole -/
namespace M47
open M
def e1B (many : Nat) : D → Bool
  | .tup xs => decide ((xs.length : Int) = 3) && askB many (.tup xs.tail)
  | _ => false
def e2B (many : Nat) : D → Bool
  | .tup (hh :: _) => hisB many hh
  | _ => false
def v1B (many : Nat) : D → Bool
  | .tup xs => xs.all (e1B many)
  | _ => false
theorem ent_split (many : Nat) (x : D) : entB many x = (e1B many x && e2B many x) := by
  cases c : lenB 3 x with
  | true =>
    obtain ⟨a, b, d, rfl⟩ := len3 c
    show (hisB many a && askB many (.tup [b, d])) = ((decide (((3 : Nat) : Int) = 3) && askB many (.tup [b, d])) && hisB many a)
    rw [decide_eq_true (by omega), Bool.true_and, Bool.and_comm]
  | false =>
    have h1 : e1B many x = false := by
      cases x with
      | tup xs =>
        have : decide ((xs.length : Int) = 3) = false := c
        simp only [e1B, this, Bool.false_and]
      | _ => rfl
    rw [h1, Bool.false_and]
    unfold entB
    split
    · cases c
    · rfl
theorem VA.kid {h : Hm} {w k : Nat} {xs : List D} (a : VA h w k (.tup xs)) : ∃ k', xs.length ≤ w ∧ ∀ x ∈ xs, VA h w k' x := by
  cases k with
  | zero => exact a.elim
  | succ k => exact ⟨k, a.1, a.2⟩
theorem VA.kok {h : Hm} {w k : Nat} {d : D} (a : VA h w k d) : ∀ xs, d = .tup xs → ∀ x ∈ xs, okR h x := fun xs e x hx => by
  subst e
  obtain ⟨k', _, h2⟩ := a.kid
  exact (h2 x hx).ok
theorem VA.up {h h' : Hm} {w k : Nat} {d : D} (a : VA h w k d) (p : h <+: h') : VA h' w k d := VA.mono (Nat.le_refl _) (okR_pre p) k k d (Nat.le_refl _) a
/-- what play_holds calls -/
structure Fs (F : FnS) (many : Nat) : Prop where
  a4 : Ok4 F
  tup : ∀ (h : Hm) (d : D) (Q : VQ) (E : XP), okR h d → Q (.bl (isTupD d)) h → F 3 [d, .non] h Q E
  len : ∀ (h : Hm) (d : D) (j : Int) (Q : VQ) (E : XP), okR h d → Q (.bl (lenB j d)) h → F 3 [d, .int j] h Q E
  ask : ∀ (h : Hm) (d : D) (Q : VQ) (E : XP), okR h d → (∀ xs, d = .tup xs → ∀ x ∈ xs, okR h x) → Q (.bl (askB many d)) h → F 31 [.int (many : Int), d] h Q E
theorem Fs.mk' (n many : Nat) : Fs (FW P (n + 4)) many := ⟨fun h rv rs Q E a b q => answersV_spec a b q, fun h d Q E ok q => tuple_spec ok q, fun h d j Q E ok q => len_spec ok q, fun h d Q E ok okc q => asked_spec ok okc q⟩
theorem map_id2 {xs : List D} : xs.map id = xs := List.map_id xs
theorem a32 {F : FnS} {many : Nat} (C : Fs F many) {E : XP} {h : Hm} {v : D} {K : Nat} (va : VA h 101 K v) {v0 v2 : D} {l : List (Option D)} {Q : VQ}
    (q : ∀ h', h <+: h' → Q (.bl (!(v1B many v))) h') : wpE F E A32 ([some v0, some (.int many), some v2, some v] ++ [none, none, none, none, none, none, none, none, none, none]) h Q := by
  unfold A32
  simp only [wpSs, wpS, wpE, wpEs, wpCs, wpP, wpPs, List.map, List.replicate, List.cons_append, List.nil_append, List.append_nil, List.getElem?_cons_zero, List.getElem?_cons_succ, jn, ws_some, List.length_cons, List.length_nil, List.set, at0, at1, at2, idx_tup, c_gt, c_lt, c_le, c_ge, c_is, c_isnt, c_eqI, c_neI, c_eqS, c_neS, c_eqB, c_neB, isS, isNonD, isBlD, t_bl, b_int, b_abs, b_max2, b_min2, b_lenT, o_add, o_sub, permD, Option.map_some]
  refine C.tup h v _ _ va.ok ?_
  simp only [ws_some, t_bl]
  cases v with
  | tup xs =>
    simp only [isTupD, Bool.not_true, Bool.false_eq_true, if_false, it_tup, ws_some]
    obtain ⟨k', hl, hk⟩ := va.kid
    have hm : xs = xs.map id := (List.map_id xs).symm
    have key : ∀ {step : D → Hm → (Option D → Hm → Prop) → Prop} {Q' : Hm → Prop}, (∀ x ∈ xs, ∀ (h2 : Hm) (R : Option D → Hm → Prop), h <+: h2 → (∀ h', h2 <+: h' → R (some (.bl (e1B many x))) h') → step x h2 R) → (∀ h', h <+: h' → h'[h.length]? = some (.lst (xs.filterMap fun x => some (D.bl (e1B many x)))) → Q' h') → compL [] h.length step Q' xs (h ++ [.lst []]) := fun {step Q'} a b => by
      have := comp_all (g := []) (h0 := h) (step := step) (Q := Q') id (fun x => some (D.bl (e1B many x))) still_nil xs (by unfold LIM; omega) a b
      rw [map_id2] at this
      exact this
    refine key (fun x hx h2 R p k => ?_) fun h2 p2 e2 => ?_
    · simp only [wipeE, wpSs, wpS, wpE, wpEs, wpCs, wpP, wpPs, List.map, List.replicate, List.cons_append, List.nil_append, List.append_nil, List.getElem?_cons_zero, List.getElem?_cons_succ, jn, ws_some, List.length_cons, List.length_nil, List.set, at0, at1, at2, idx_tup, c_gt, c_lt, c_le, c_ge, c_is, c_isnt, c_eqI, c_neI, c_eqS, c_neS, c_eqB, c_neB, isS, isNonD, isBlD, t_bl, b_int, b_abs, b_max2, b_min2, b_lenT, o_add, o_sub, permD, Option.map_some]
      refine ⟨by simp, ?_⟩
      have vx := (hk x hx).up p
      refine C.len h2 x 3 _ _ vx.ok ?_
      simp only [ws_some, t_bl]
      have := k h2 (List.prefix_refl _)
      cases x with
      | tup ys =>
        cases c : lenB 3 (.tup ys) with
        | false =>
          have c' : decide ((ys.length : Int) = 3) = false := c
          simp only [e1B, c', Bool.false_and] at this
          simpa using this
        | true =>
          have c' : decide ((ys.length : Int) = 3) = true := c
          simp only [e1B, c', Bool.true_and] at this
          simp only [if_true, optI_int, optI_non, slc_tup, ws_some, cut_tail]
          refine C.ask h2 _ _ _ trivial (fun zs e z hz => ?_) this
          injection e with e
          rw [← e] at hz
          exact vx.kok _ rfl z (List.mem_of_mem_tail hz)
      | _ => simpa [lenB, e1B] using this
    · have e3 : xs.filterMap (fun x => some (D.bl (e1B many x))) = (xs.map (e1B many)).map D.bl := by
        rw [filterMap_some, List.map_map]; rfl
      rw [e3] at e2
      rw [b_all e2]
      simp only [ws_some, t_bl, List.all_map]
      exact q h2 p2
  | _ => exact q h (List.prefix_refl _)
theorem b32 {F : FnS} {many : Nat} (C : Fs F many) {E : XP} {h : Hm} {xs : List D} {K : Nat} (va : VA h 101 K (.tup xs)) (h1 : xs.all (e1B many) = true) {v0 v2 : D} {Q : VQ}
    (q : ∀ h', h <+: h' → Q (.bl (!xs.all (e2B many))) h') : wpE F E B32 [some v0, some (.int many), some v2, some (.tup xs), none, none, none, none, none, none, none, none, none, none] h Q := by
  unfold B32
  simp only [wpSs, wpS, wpE, wpEs, wpCs, wpP, wpPs, List.map, List.replicate, List.cons_append, List.nil_append, List.append_nil, List.getElem?_cons_zero, List.getElem?_cons_succ, jn, ws_some, List.length_cons, List.length_nil, List.set, at0, at1, at2, idx_tup, c_gt, c_lt, c_le, c_ge, c_is, c_isnt, c_eqI, c_neI, c_eqS, c_neS, c_eqB, c_neB, isS, isNonD, isBlD, t_bl, b_int, b_abs, b_max2, b_min2, b_lenT, o_add, o_sub, permD, Option.map_some]
  rw [it_tup]
  simp only [ws_some]
  obtain ⟨k', hl, hk⟩ := va.kid
  have key : ∀ {step : D → Hm → (Option D → Hm → Prop) → Prop} {Q' : Hm → Prop}, (∀ x ∈ xs, ∀ (h2 : Hm) (R : Option D → Hm → Prop), h <+: h2 → (∀ h', h2 <+: h' → R (some (.bl (e2B many x))) h') → step x h2 R) → (∀ h', h <+: h' → h'[h.length]? = some (.lst (xs.filterMap fun x => some (D.bl (e2B many x)))) → Q' h') → compL [] h.length step Q' xs (h ++ [.lst []]) := fun {step Q'} a b => by
    have := comp_all (g := []) (h0 := h) (step := step) (Q := Q') id (fun x => some (D.bl (e2B many x))) still_nil xs (by unfold LIM; omega) a b
    rw [map_id2] at this
    exact this
  refine key (fun x hx h2 R p k => ?_) fun h2 p2 e2 => ?_
  · have hx1 := List.all_eq_true.mp h1 x hx
    have vx := (hk x hx).up p
    obtain ⟨a, b, c, rfl⟩ : ∃ a b c, x = .tup [a, b, c] := by
      cases x with
      | tup ys =>
        refine len3 ?_
        simp only [e1B, Bool.and_eq_true] at hx1
        exact hx1.1
      | _ => cases hx1
    simp only [wipeE, wpSs, wpS, wpE, wpEs, wpCs, wpP, wpPs, List.map, List.replicate, List.cons_append, List.nil_append, List.append_nil, List.getElem?_cons_zero, List.getElem?_cons_succ, jn, ws_some, List.length_cons, List.length_nil, List.set, at0, at1, at2, idx_tup, c_gt, c_lt, c_le, c_ge, c_is, c_isnt, c_eqI, c_neI, c_eqS, c_neS, c_eqB, c_neB, isS, isNonD, isBlD, t_bl, b_int, b_abs, b_max2, b_min2, b_lenT, o_add, o_sub, permD, Option.map_some]
    refine ⟨by simp, ?_⟩
    obtain ⟨k2, _, hk2⟩ := vx.kid
    have va := hk2 a (by simp)
    refine C.tup h2 a _ _ va.ok ?_
    simp only [ws_some, t_bl]
    simp only [e2B] at k
    cases a with
    | tup hs =>
      simp only [isTupD, if_true]
      rw [it_tup]
      simp only [ws_some]
      obtain ⟨k3, hl3, hk3⟩ := va.kid
      have key2 : ∀ {step : D → Hm → (Option D → Hm → Prop) → Prop} {Q' : Hm → Prop}, (∀ x ∈ hs, ∀ (h3 : Hm) (R : Option D → Hm → Prop), h2 <+: h3 → (∀ h', h3 <+: h' → R (some (.bl (askB many x))) h') → step x h3 R) → (∀ h', h2 <+: h' → h'[h2.length]? = some (.lst (hs.filterMap fun x => some (D.bl (askB many x)))) → Q' h') → compL [] h2.length step Q' hs (h2 ++ [.lst []]) := fun {step Q'} a b => by
        have := comp_all (g := []) (h0 := h2) (step := step) (Q := Q') id (fun x => some (D.bl (askB many x))) still_nil hs (by unfold LIM; omega) a b
        rw [map_id2] at this
        exact this
      refine key2 (fun y hy h3 R' p3 k3 => ?_) fun h3 p3 e3 => ?_
      · refine ⟨by simp, ?_⟩
        have vy := (hk3 y hy).up p3
        exact C.ask h3 y _ _ vy.ok vy.kok (k3 h3 (List.prefix_refl _))
      · have e4 : hs.filterMap (fun x => some (D.bl (askB many x))) = (hs.map (askB many)).map D.bl := by
          rw [filterMap_some, List.map_map]; rfl
        rw [e4] at e3
        rw [b_all e3]
        simp only [ws_some, List.all_map]
        exact k h3 p3
    | _ => exact k h2 (List.prefix_refl _)
  · have e3 : xs.filterMap (fun x => some (D.bl (e2B many x))) = (xs.map (e2B many)).map D.bl := by
      rw [filterMap_some, List.map_map]; rfl
    rw [e3] at e2
    rw [b_all e2]
    simp only [ws_some, t_bl, List.all_map]
    exact q h2 p2
theorem c32 {F : FnS} {E : XP} {h : Hm} {V : PR} (hl : V.length ≤ 1000) {v0 v1 v2 : D} {Q : VQ}
    (q : ∀ h', h <+: h' → h'[h.length]? = some (.dct (encL encK D.int (puts [] V))) → Q (.tup [.ref h.length, .ref h'.length]) (h' ++ [.lst [.tup [.tup [], v0]]])) : wpE F E C32 [some v0, some v1, some v2, some (playD V), none, none, none, none, none, none, none, none, none, none] h Q := by
  unfold C32
  simp only [wpSs, wpS, wpE, wpEs, wpCs, wpP, wpPs, List.map, List.replicate, List.cons_append, List.nil_append, List.append_nil, List.getElem?_cons_zero, List.getElem?_cons_succ, jn, ws_some, List.length_cons, List.length_nil, List.set, at0, at1, at2, idx_tup, c_gt, c_lt, c_le, c_ge, c_is, c_isnt, c_eqI, c_neI, c_eqS, c_neS, c_eqB, c_neB, isS, isNonD, isBlD, t_bl, b_int, b_abs, b_max2, b_min2, b_lenT, o_add, o_sub, permD, Option.map_some, playD]
  rw [it_tup]
  simp only [ws_some]
  refine dcomp_puts encK D.int still_nil entD (fun e => e.1) (fun e => e.2) V [] _ (fun e he h2 R p k => ?_) (by unfold LIM; simp; omega) pre_one last_at fun h2 p2 e2 => ?_
  · obtain ⟨a, b, c, e1, e2, e3⟩ := ent_key e
    rw [e1]
    simp only [wipeE, wpSs, wpS, wpE, wpEs, wpCs, wpP, wpPs, List.map, List.replicate, List.cons_append, List.nil_append, List.append_nil, List.getElem?_cons_zero, List.getElem?_cons_succ, jn, ws_some, List.length_cons, List.length_nil, List.set, at0, at1, at2, idx_tup, c_gt, c_lt, c_le, c_ge, c_is, c_isnt, c_eqI, c_neI, c_eqS, c_neS, c_eqB, c_neB, isS, isNonD, isBlD, t_bl, b_int, b_abs, b_max2, b_min2, b_lenT, o_add, o_sub, permD, Option.map_some, optI_int, optI_non, slc_tup, cut3]
    refine ⟨by simp, ?_⟩
    rw [← e2, e3]
    exact k
  · have : (V.map fun i => (i.1, i.2)) = V := by
      conv => rhs; rw [← List.map_id V]
      rfl
    rw [this] at e2
    exact q h2 p2 e2
theorem holds_spec {n many depth K : Nat} {rs : List Rw} {v : D} {h : Hm} {Q : VQ} {E : XP} (hm1 : many ≤ 3) (hd : depth ≤ 2) (h0 : rs.length ≤ 1000) (hw : WF many rs) (va : VA h 101 K v)
    (q : ∀ h', h <+: h' → Q (.bl (playV many depth rs v)) h') : FW P (n + 5) 32 [rowsD rs, .int many, .int (depth : Int), v] h Q E := by
  refine fw_open (d := D32) rfl rfl ?_
  rw [d32_eq]
  have C := Fs.mk' n many
  generalize FW P (n + 4) = F at C ⊢
  simp only [List.map, List.replicate]
  rw [wpSs, wpS]
  refine a32 (l := []) C va fun h1 p1 => ?_
  simp only [t_bl, ws_some]
  cases c1 : v1B many v with
  | false =>
    simp only [Bool.not_false, if_true]
    rw [wpSs, wpS, wpE]
    have : playV many depth rs v = false := by
      have : validV many v = false := by
        cases v with
        | tup xs =>
          show xs.all (entB many) = false
          have c1 : xs.all (e1B many) = false := c1
          rw [List.all_eq_false] at c1 ⊢
          obtain ⟨x, hx, e⟩ := c1
          refine ⟨x, hx, ?_⟩
          rw [ent_split]
          intro z
          rw [Bool.and_eq_true] at z
          exact e z.1
        | _ => rfl
      unfold playV
      rw [this, Bool.false_and]
    rw [this] at q
    exact q h1 p1
  | true =>
    simp only [Bool.not_true, Bool.false_eq_true, if_false]
    cases v with
    | tup xs =>
      have c1 : xs.all (e1B many) = true := c1
      rw [wpSs]
      dsimp only
      rw [wpSs, wpS]
      refine b32 C (va.up p1) c1 fun h2 p2 => ?_
      simp only [t_bl, ws_some]
      have ev : validV many (.tup xs) = xs.all (e2B many) := by
        show xs.all (entB many) = _
        rw [Bool.eq_iff_iff, List.all_eq_true, List.all_eq_true]
        constructor
        · intro z x hx
          have := z x hx
          rw [ent_split, Bool.and_eq_true] at this
          exact this.2
        · intro z x hx
          rw [ent_split, Bool.and_eq_true]
          exact ⟨List.all_eq_true.mp c1 x hx, z x hx⟩
      cases c2 : xs.all (e2B many) with
      | false =>
        simp only [Bool.not_false, if_true]
        rw [wpSs, wpS, wpE]
        unfold playV at q
        rw [ev, c2, Bool.false_and] at q
        exact q h2 (p1.trans p2)
      | true =>
        simp only [Bool.not_true, Bool.false_eq_true, if_false]
        rw [c2] at ev
        have hv := valid_dec ev
        have hl : (dec (.tup xs)).length = xs.length := by
          show (xs.map decE).length = _
          rw [List.length_map]
        obtain ⟨_, hxl, _⟩ := va.kid
        unfold playV at q
        rw [ev, Bool.true_and] at q
        rw [wpSs]
        dsimp only
        rw [wpSs, wpS]
        generalize hV : dec (.tup xs) = V at hv hl q
        rw [hv]
        refine c32 (V := V) (by omega) fun h3 p3 e3 => ?_
        simp only [wpP, wpPs, List.set]
        refine ⟨by simp, by simp, ?_⟩
        unfold playD
        exact tail32 C.a4 hm1 hd h0 hw rfl (by rw [List.length_map]) (pre_at pre_one e3) last_at fun h4 p4 => q h4 (p1.trans (p2.trans (p3.trans (pre_one.trans p4))))
    | _ => cases c1
end M47

end
section
set_option Elab.async false
set_option linter.all false
set_option autoImplicit false
/-! _law_is_play: the loops -/
namespace M47
open M
def I34 : List CS := [
  .asg (.slot 11) (.comp [4] (.slot 4) .val [(.loc 3)] [(.cmp .eq (.slc (.loc 4) (.lit .non) (.lit (.int (2)))) (.tup [(.loc 8), (.loc 10)]))] (.idx (.loc 4) (.lit (.int (2))))),
  .ite (.cmp .eq (.loc 11) (.lst [])) [
    .ret (.lit (.bl false))] [],
  .expr (.meth .append (.loc 7) [(.tup [(.bin .add (.loc 8) (.tup [(.tup [(.loc 10), (.idx (.loc 11) (.lit (.int (0))))])])), (.comp [4] (.slot 4) .val [(.loc 9)] [(.cmp .eq (.idx (.idx (.loc 4) (.lit (.int (0)))) (.loc 10)) (.idx (.loc 11) (.lit (.int (0)))))] (.loc 4))])])]
def M34 : List CS := [.for_ (.slot 10) .range [(.loc 1)] I34]
def L34 : CS := .for_ (.tup [(.slot 8), (.slot 9)]) .val [(.loc 5)] M34
def O34 : List CS := [
  .asg (.slot 7) (.lst []),
  L34,
  .asg (.slot 5) (.loc 7)]
def G34 : CE := .cmp .eq (.comp [8, 9] (.tup [(.slot 8), (.slot 9)]) .val [(.loc 5)] [(.cmp .lt (.blt .len [(.blt .dict [(.comp [4] (.slot 4) .val [(.loc 9)] [] (.tup [(.idx (.loc 4) (.lit (.int (1)))), (.lit (.int (1)))]))])]) (.lit (.int (2))))] (.lit (.int (1)))) (.lst [])
def X34 : CE := .or (.not (.blt (.isi .tuple) [(.loc 4)])) (.or (.cmp .ne (.blt .len [(.loc 4)]) (.lit (.int (3)))) (.or (.not (.blt (.isi .tuple) [(.idx (.loc 4) (.lit (.int (0))))])) (.or (.not (.call 33 [(.loc 1), (.slc (.loc 4) (.lit (.int (1))) (.lit .non))] [] [0, 1])) (.cmp .ne (.comp [12] (.slot 12) .val [(.idx (.loc 4) (.lit (.int (0))))] [(.not (.call 33 [(.loc 1), (.loc 12)] [] [0, 1]))] (.lit (.int (1)))) (.lst [])))))
def F34 : CS := .for_ (.slot 4) .val [(.loc 3)] [.ite X34 [.ret (.lit (.bl false))] []]
def K34 : CE := .cmp .ne (.blt .len [(.blt .dict [(.comp [4] (.slot 4) .val [(.loc 3)] [] (.tup [(.slc (.loc 4) (.lit .non) (.lit (.int (2)))), (.lit (.int (1)))]))])]) (.blt .len [(.loc 3)])
def T34 : List CS := [
  .asg (.slot 5) (.lst [(.tup [(.tup []), (.loc 0)])]),
  .for_ (.slot 6) .range [(.loc 2)] O34,
  .ret G34]
theorem d34_eq : D34 = ⟨4, 13, .ite (.not (.blt (.isi .tuple) [(.loc 3)])) [.ret (.lit (.bl false))] [] :: F34 :: .ite K34 [.ret (.lit (.bl false))] [] :: T34⟩ := rfl
theorem eq_empty {h : Hm} {a b : Nat} {is : List Int} (e1 : h[a]? = some (.lst (is.map D.int))) (e2 : h[b]? = some (.lst [])) : cmpS .eq (.ref a) (.ref b) h = some (decide (is = [])) := eq_ints (js := []) e1 e2
theorem look_filter (V : PR) (k : Ky) : look V k = ((V.filter fun e => decide (e.1 = k)).map (·.2)).head? := by
  unfold look
  rw [List.head?_map, List.head?_filter]
structure JL (h : Hm) (La : Nat) (items : List Itm) : Prop where
  el : h[La]? = some (.lst (items.map itD))
  rv : ∀ x ∈ items, ItOk La h x
theorem in34 {F : FnS} {E : XP} {V : PR} {many : Nat} (hm1 : many ≤ 1000) (hV : V.length ≤ 1000) {p : HI × List Rw} {rv : D} (hw : WF many p.2) (hl : p.1.length ≤ 1000) (hrl : p.2.length ≤ 1000) {h : Hm} {La : Nat} {items : List Itm} (S : JL h La items) (ok : ItOk La h (p, rv)) (ll : items.length ≤ 10000) {v0 v2 v5 : D} {e4 e6 e10 e11 e12 : Option D} {Z : Ends}
    (q : ∀ h' items' e4 e10 e11 e12, items'.map (·.1) = items.map (·.1) ++ nxt1 many (lk V) p → hasP V many p = true → JL h' La items' → MS [La] h h' → Z.nx [some v0, some (.int many), some v2, some (playD V), e4, some v5, e6, some (.ref La), some (hisD p.1), some rv, e10, e11, e12] h')
    (qf : ∀ h', hasP V many p = false → MS [La] h h' → Z.rt (.bl false) h') :
    wpSs F E M34 [some v0, some (.int many), some v2, some (playD V), e4, some v5, e6, some (.ref La), some (hisD p.1), some rv, e10, e11, e12] h Z := by
  unfold M34
  simp only [wpSs, wpS, wpE, wpEs, wpCs, wpP, wpPs, List.map, List.replicate, List.cons_append, List.nil_append, List.append_nil, List.getElem?_cons_zero, List.getElem?_cons_succ, jn, ws_some, List.length_cons, List.length_nil, List.set, at0, at1, at2, idx_tup, c_gt, c_lt, c_le, c_ge, c_is, c_isnt, c_eqI, c_neI, c_eqS, c_neS, c_eqB, c_neB, isS, isNonD, isBlD, t_bl, b_int, b_abs, b_max2, b_min2, b_lenT, o_add, o_sub, permD, Option.map_some]
  rw [it_range (by omega) (by omega)]
  simp only [ws_some]
  refine forL_inv (fun l env h' => ∃ (j : Nat) (items' : List Itm) (e4 e10 e11 e12 : Option D), l = (rngD 0 (many : Int).toNat).drop j ∧ j ≤ many ∧ items'.map (·.1) = items.map (·.1) ++ nxt1 j (lk V) p ∧ ((List.range j).all fun (a : Nat) => (look V (p.1, (a : Int))).isSome) = true ∧ JL h' La items' ∧ MS [La] h h' ∧ env = [some v0, some (.int many), some v2, some (playD V), e4, some v5, e6, some (.ref La), some (hisD p.1), some rv, e10, e11, e12])
    (fun _ _ _ _ => still_nil) (fun x l env h' R hi k => ?_) (fun env h' hi => ?_) _ _ _ ⟨0, items, _, _, _, _, rfl, by omega, by simp [nxt1], rfl, S, MS.refl _ _, rfl⟩
  · obtain ⟨j, items', e4, e10, e11, e12, hj, jm, hit, hall, S1, ms, rfl⟩ := hi
    have hjn : j < (many : Int).toNat := by
      rcases Nat.lt_or_ge j (many : Int).toNat with z | z
      · exact z
      · rw [rng_end z] at hj; cases hj
    rw [rng_drop hjn] at hj
    cases hj
    have hjm : j < many := by omega
    unfold I34
    simp only [wpSs, wpS, wpE, wpEs, wpCs, wpP, wpPs, List.map, List.replicate, List.cons_append, List.nil_append, List.append_nil, List.getElem?_cons_zero, List.getElem?_cons_succ, jn, ws_some, List.length_cons, List.length_nil, List.set, at0, at1, at2, idx_tup, c_gt, c_lt, c_le, c_ge, c_is, c_isnt, c_eqI, c_neI, c_eqS, c_neS, c_eqB, c_neB, isS, isNonD, isBlD, t_bl, b_int, b_abs, b_max2, b_min2, b_lenT, o_add, o_sub, permD, Option.map_some]
    refine ⟨by simp, ?_⟩
    unfold playD
    rw [it_tup]
    simp only [ws_some]
    refine comp_all entD (fun e => if decide (e.1 = (p.1, (j : Int))) = true then some (.int e.2) else none) still_nil V (by unfold LIM; omega) (fun e he h2 R p' k' => ?_) fun h2 p2 e2 => ?_
    · obtain ⟨a, b, c, e1, e2, e3⟩ := ent_key e
      rw [e1]
      simp only [wipeE, wpSs, wpS, wpE, wpEs, wpCs, wpP, wpPs, List.map, List.replicate, List.cons_append, List.nil_append, List.append_nil, List.getElem?_cons_zero, List.getElem?_cons_succ, jn, ws_some, List.length_cons, List.length_nil, List.set, at0, at1, at2, idx_tup, c_gt, c_lt, c_le, c_ge, c_is, c_isnt, c_eqI, c_neI, c_eqS, c_neS, c_eqB, c_neB, isS, isNonD, isBlD, t_bl, b_int, b_abs, b_max2, b_min2, b_lenT, o_add, o_sub, permD, Option.map_some, optI_int, optI_non, slc_tup, cut3]
      refine ⟨by simp, ?_⟩
      have e4 : cmpS .eq (.tup [a, b]) (.tup [hisD p.1, .int (j : Int)]) h2 = some (decide (e.1 = (p.1, (j : Int)))) := by
        have := eqv_pure (h := h2) (key_pure e.1).1 (key_pure (p.1, (j : Int))).1 (.inl (by have := (key_pure e.1).2; omega))
        rw [eqD_key, e2] at this
        exact this
      rw [e4]
      simp only [ws_some, t_bl]
      have := k' h2 (List.prefix_refl _)
      by_cases c : e.1 = (p.1, (j : Int))
      · simp only [c, decide_true, if_true] at this ⊢
        rw [e3]
        exact this
      · simp only [c, decide_false, Bool.false_eq_true, if_false] at this ⊢
        exact this
    rw [filterMap_if] at e2
    have hlook := look_filter V (p.1, (j : Int))
    have e2 : h2[h'.length]? = some (.lst (((V.filter fun e => decide (e.1 = (p.1, (j : Int)))).map (·.2)).map D.int)) := by
      rw [e2, List.map_map]; rfl
    generalize hsm : ((V.filter fun e => decide (e.1 = (p.1, (j : Int)))).map (·.2)) = sm at e2 hlook
    rw [eq_empty (pre_at pre_one e2) last_at]
    simp only [ws_some]
    have p3 : h' <+: h2 ++ [.lst []] := p2.trans pre_one
    have e3 := pre_at (pre_one (c := .lst [])) e2
    generalize h2 ++ [.lst []] = h3 at p3 e3 ⊢
    cases sm with
    | nil =>
      simp only [decide_true, if_true]
      refine ⟨by simp, qf h3 ?_ (ms.trans (MS.pre p3))⟩
      unfold hasP
      rw [List.all_eq_false]
      exact ⟨j, List.mem_range.mpr hjm, by rw [hlook]; simp⟩
    | cons v sm =>
      simp only [show decide (v :: sm = []) = false from rfl, Bool.false_eq_true, if_false]
      have el3 := pre_at p3 S1.el
      refine ⟨by simp, recv_app el3, ?_⟩
      have hx0 : idxS (.ref h'.length) (.int 0) h3 = some (.int v) := by
        rw [idx_lst e3, List.map_cons, at0]
      rw [hx0]
      simp only [ws_some]
      have hadd : ∀ h, binS .add (hisD p.1) (.tup [.tup [.int (j : Int), .int v]]) h = some (hisD (p.1 ++ [((j : Int), v)]), h) := fun h => his_add (q := ((j : Int), v)) hl
      rw [hadd]
      simp only [ws_some]
      have okp := ok.ms (ms.trans (MS.pre p3))
      obtain ⟨g, hitr, st⟩ := okp.rv.it
      rw [hitr]
      simp only [ws_some]
      refine comp_all rowD (fun r => if decide (col (j : Int) r = v) = true then some (rowD r) else none) st p.2 (by unfold LIM; omega) (fun r hr h4 R p4 k => ?_) fun h4 p4 e4 => ?_
      · simp only [wipeE, wpSs, wpS, wpE, wpEs, wpCs, wpP, wpPs, List.map, List.replicate, List.cons_append, List.nil_append, List.append_nil, List.getElem?_cons_zero, List.getElem?_cons_succ, jn, ws_some, List.length_cons, List.length_nil, List.set, at0, at1, at2, idx_tup, c_gt, c_lt, c_le, c_ge, c_is, c_isnt, c_eqI, c_neI, c_eqS, c_neS, c_eqB, c_neB, isS, isNonD, isBlD, t_bl, b_int, b_abs, b_max2, b_min2, b_lenT, o_add, o_sub, permD, Option.map_some]
        refine ⟨by simp, ?_⟩
        have hx1 : idxS (.ref h'.length) (.int 0) h4 = some (.int v) := by
          rw [idx_lst (pre_at p4 e3), List.map_cons, at0]
        simp only [rowD, idx_tup, at0, ws_some, col_at (hw r hr) (by omega : (0 : Int) ≤ j) (by omega)]
        rw [hx1]
        simp only [ws_some, c_eqI, t_bl]
        have := k h4 (List.prefix_refl _)
        by_cases c : col (j : Int) r = v
        · simp only [c, decide_true, if_true] at this ⊢
          exact this
        · simp only [c, decide_false, Bool.false_eq_true, if_false] at this ⊢
          exact this
      · rw [filterMap_if] at e4
        have p5 := p3.trans p4
        have el4 := pre_at p5 S1.el
        have hll : items'.length = items.length + j := by
          have := congrArg List.length hit
          rw [List.length_append, List.length_map, List.length_map] at this
          rw [this]; simp [nxt1]
        rw [b_append el4 (by rw [List.length_map]; unfold LIM; omega)]
        simp only [ws_some]
        have hLa : La < h'.length := (List.getElem?_eq_some_iff.mp S1.el).1
        have hh3 : h'.length ≤ h3.length := (pre_iff.mp p3).1
        have ms2 : MS [La] h' (h4.set La (.lst (items'.map itD ++ [.tup [hisD (p.1 ++ [((j : Int), v)]), .ref h3.length]]))) := (MS.pre p5).set (by simp) _
        have hlk : look V (p.1, (j : Int)) = some v := hlook
        have hlv : lk V p j = v := by unfold lk; rw [hlk]; rfl
        refine k _ _ ⟨j + 1, items' ++ [((p.1 ++ [((j : Int), v)], part p.2 (j : Int) v), .ref h3.length)], _, _, _, _, rfl, by omega, ?_, ?_, ⟨?_, fun x hx => ?_⟩, ms.trans ms2, rfl⟩
        · rw [List.map_append, hit, nxt1_succ, hlv, List.append_assoc]; rfl
        · rw [List.range_succ, List.all_append, hall]
          simp [hlk]
        · rw [set_at el4, List.map_append]; rfl
        · rcases List.mem_append.mp hx with hx | hx
          · exact (S1.rv x hx).ms ms2
          · rw [List.mem_singleton.mp hx]
            refine ⟨.inr ⟨_, rfl, ?_⟩, fun e => ?_⟩
            · rw [List.getElem?_set_ne (by omega)]
              exact e4
            · have : h3.length = La := by injection e
              omega
  · obtain ⟨j, items', e4, e10, e11, e12, hj, jm, hit, hall, S1, ms, rfl⟩ := hi
    have hjn : (many : Int).toNat ≤ j := by
      rcases Nat.lt_or_ge j (many : Int).toNat with z | z
      · rw [rng_drop z] at hj; cases hj
      · exact z
    have : j = many := by omega
    subst this
    exact q h' items' _ _ _ _ hit hall S1 ms
theorem mid34 {F : FnS} {E : XP} {V : PR} {many L : Nat} {rs0 : List Rw} (hm1 : many ≤ 3) (hV : V.length ≤ 1000) {its : List Itm} (lr : LnR many L rs0 (its.map (·.1))) (hL : L ≤ 1000) (h0 : rs0.length ≤ 1000) (hll : its.length ≤ 1000) {h : Hm} {La Li : Nat} (S : JL h La []) (ok : ∀ x ∈ its, ItOk La h x) (eli : h[Li]? = some (.lst (its.map itD))) (hLi : Li ≠ La) {v0 v2 : D} {e4 e6 e8 e9 e10 e11 e12 : Option D} {Z : Ends}
    (q : ∀ h' items' e4 e8 e9 e10 e11 e12, items'.map (·.1) = nxt many (lk V) (its.map (·.1)) → hasL V many (its.map (·.1)) = true → JL h' La items' → MS [La] h h' → Z.nx [some v0, some (.int many), some v2, some (playD V), e4, some (.ref Li), e6, some (.ref La), e8, e9, e10, e11, e12] h')
    (qf : ∀ h', hasL V many (its.map (·.1)) = false → MS [La] h h' → Z.rt (.bl false) h') :
    wpS F E L34 [some v0, some (.int many), some v2, some (playD V), e4, some (.ref Li), e6, some (.ref La), e8, e9, e10, e11, e12] h Z := by
  unfold L34
  simp only [wpSs, wpS, wpE, wpEs, wpCs, wpP, wpPs, List.map, List.replicate, List.cons_append, List.nil_append, List.append_nil, List.getElem?_cons_zero, List.getElem?_cons_succ, jn, ws_some, List.length_cons, List.length_nil, List.set, at0, at1, at2, idx_tup, c_gt, c_lt, c_le, c_ge, c_is, c_isnt, c_eqI, c_neI, c_eqS, c_neS, c_eqB, c_neB, isS, isNonD, isBlD, t_bl, b_int, b_abs, b_max2, b_min2, b_lenT, o_add, o_sub, permD, Option.map_some]
  rw [it_lst eli]
  simp only [ws_some]
  refine forL_inv (fun l env h' => ∃ (done rest : List Itm) (items' : List Itm) (e4 e8 e9 e10 e11 e12 : Option D), its = done ++ rest ∧ l = rest.map itD ∧ items'.map (·.1) = nxt many (lk V) (done.map (·.1)) ∧ (done.map (·.1)).all (hasP V many) = true ∧ JL h' La items' ∧ MS [La] h h' ∧ env = [some v0, some (.int many), some v2, some (playD V), e4, some (.ref Li), e6, some (.ref La), e8, e9, e10, e11, e12])
    (fun _ _ _ ⟨_, _, _, _, _, _, _, _, _, _, _, _, _, _, ms, _⟩ => still_one (ms.cell eli (by simpa using hLi))) (fun x l env h' R hi k => ?_) (fun env h' hi => ?_) _ _ _ ⟨[], its, [], _, _, _, _, _, _, rfl, rfl, rfl, rfl, S, MS.refl _ _, rfl⟩
  · obtain ⟨done, rest, items', e4, e8, e9, e10, e11, e12, hp, hx, hit, hall, S1, ms, rfl⟩ := hi
    cases rest with
    | nil => cases hx
    | cons p rest =>
      rw [List.map_cons] at hx
      cases hx
      have hpm : p ∈ its := by rw [hp]; simp
      have hpl : p.1 ∈ its.map (·.1) := List.mem_map_of_mem hpm
      have hdl : done.length ≤ 1000 := by
        have := congrArg List.length hp
        rw [List.length_append] at this
        omega
      have hil : items'.length = done.length * many := by
        have := congrArg List.length hit
        rw [List.length_map, nxt_len, List.length_map] at this
        exact this
      have hdm : done.length * many ≤ 1000 * 3 := Nat.mul_le_mul hdl hm1
      have hsl := (lr.sub p.1 hpl).length_le
      have hlen := lr.len p.1 hpl
      simp only [itD, wpSs, wpS, wpE, wpEs, wpCs, wpP, wpPs, List.map, List.replicate, List.cons_append, List.nil_append, List.append_nil, List.getElem?_cons_zero, List.getElem?_cons_succ, jn, ws_some, List.length_cons, List.length_nil, List.set, at0, at1, at2, idx_tup, c_gt, c_lt, c_le, c_ge, c_is, c_isnt, c_eqI, c_neI, c_eqS, c_neS, c_eqB, c_neB, isS, isNonD, isBlD, t_bl, b_int, b_abs, b_max2, b_min2, b_lenT, o_add, o_sub, permD, Option.map_some]
      refine ⟨by simp, by simp, ?_⟩
      refine in34 (p := p.1) (rv := p.2) (by omega) hV (lr.wf p.1 hpl) (by omega) (by omega) S1 ((ok p hpm).ms ms) (by omega) (fun h2 items2 e4 e10 e11 e12 hit2 hp2 S2 ms2 => ?_) fun h2 hp2 ms2 => ?_
      · refine k _ _ ⟨done ++ [p], rest, items2, _, _, _, _, _, _, by rw [hp]; simp, rfl, ?_, ?_, S2, ms.trans ms2, rfl⟩
        · rw [hit2, hit, List.map_append]
          exact nxt_add.symm
        · rw [List.map_append, List.all_append, hall]
          simpa using hp2
      · refine qf h2 ?_ (ms.trans ms2)
        rw [hasL_all, List.all_eq_false]
        exact ⟨p.1, hpl, by rw [hp2]; simp⟩
  · obtain ⟨done, rest, items', e4, e8, e9, e10, e11, e12, hp, hx, hit, hall, S1, ms, rfl⟩ := hi
    have hr0 : rest = [] := List.map_eq_nil_iff.mp hx.symm
    subst hr0
    rw [List.append_nil] at hp
    subst hp
    exact q h' items' _ _ _ _ _ _ hit hall S1 ms
structure OL (V : PR) (many depth d : Nat) (rs0 : List Rw) (h H1 : Hm) (Li : Nat) (its : List Itm) : Prop where
  el : h[Li]? = some (.lst (its.map itD))
  rv : ∀ x ∈ its, RV h x.2 x.1.2
  lr : LnR many (depth - d) rs0 (its.map (·.1))
  ln : its.length ≤ 3 ^ (depth - d)
  pr : H1 <+: h
  jd : judge V many depth [([], rs0)] = judge V many d (its.map (·.1))
  dl : d ≤ depth
theorem body34 {F : FnS} {E : XP} {V : PR} {many depth d : Nat} {rs0 : List Rw} (hm1 : many ≤ 3) (hV : V.length ≤ 1000) (hd : depth ≤ 2) (h0 : rs0.length ≤ 1000) {h H1 : Hm} {Li : Nat} {its : List Itm} (S : OL V many depth (d + 1) rs0 h H1 Li its) {v0 v2 : D} {e4 e6 e7 e8 e9 e10 e11 e12 : Option D} {Z : Ends}
    (q : ∀ h' Li' its' e4 e7 e8 e9 e10 e11 e12, OL V many depth d rs0 h' H1 Li' its' → Z.nx [some v0, some (.int many), some v2, some (playD V), e4, some (.ref Li'), e6, e7, e8, e9, e10, e11, e12] h')
    (qf : ∀ h', judge V many depth [([], rs0)] = false → H1 <+: h' → Z.rt (.bl false) h') :
    wpSs F E O34 [some v0, some (.int many), some v2, some (playD V), e4, some (.ref Li), e6, e7, e8, e9, e10, e11, e12] h Z := by
  unfold O34
  rw [wpSs, wpS]
  simp only [wpE, wpEs, wpP]
  refine ⟨by simp, ?_⟩
  rw [wpSs]
  simp only [List.set]
  have hLi : Li < h.length := (List.getElem?_eq_some_iff.mp S.el).1
  have hdl := S.dl
  have h3 : its.length ≤ 9 := Nat.le_trans S.ln (pow3 (by omega))
  refine mid34 hm1 hV S.lr (by omega) h0 (by omega) ⟨last_at, (fun _ h => nomatch h)⟩ (fun x hx => ⟨(S.rv x hx).pre pre_one, fun e => ?_⟩) (pre_at pre_one S.el) (by omega) (fun h2 its2 e4 e8 e9 e10 e11 e12 hit hh S2 ms2 => ?_) fun h2 hh ms2 => ?_
  · have := S.rv x hx
    rw [e] at this
    have := this.lt
    omega
  · have p2 : h <+: h2 := ms_pre pre_one (fun i hi => by rw [List.mem_singleton.mp hi]; exact Nat.le_refl _) ms2
    dsimp only
    rw [wpSs, wpS, wpE]
    simp only [List.getElem?_cons_succ, List.getElem?_cons_zero, Option.join_some, ws_some, wpP, wpSs, List.set]
    refine ⟨by simp, ?_⟩
    refine q _ _ its2 _ _ _ _ _ _ _ ⟨S2.el, fun x hx => (S2.rv x hx).rv, ?_, ?_, S.pr.trans p2, ?_, by omega⟩
    · rw [hit, show depth - d = depth - (d + 1) + 1 from by omega]
      exact S.lr.nxt
    · have := congrArg List.length hit
      rw [List.length_map, nxt_len, List.length_map] at this
      rw [this, show depth - d = depth - (d + 1) + 1 from by omega, Nat.pow_succ]
      exact Nat.mul_le_mul S.ln hm1
    · rw [S.jd, judge, hh, hit]; rfl
  · have p2 : h <+: h2 := ms_pre pre_one (fun i hi => by rw [List.mem_singleton.mp hi]; exact Nat.le_refl _) ms2
    refine qf h2 ?_ (S.pr.trans p2)
    rw [S.jd, judge, hh]; rfl
theorem end34 {F : FnS} {E : XP} {its : List Itm} {h : Hm} {Li : Nat} (el : h[Li]? = some (.lst (its.map itD))) (rv : ∀ x ∈ its, RV h x.2 x.1.2) (hl : its.length ≤ 1000) (hrl : ∀ x ∈ its, x.1.2.length ≤ 1000) {v0 v1 v2 v3 : D} {e4 e6 e7 e8 e9 e10 e11 e12 : Option D} {Q : VQ}
    (q : ∀ h', h <+: h' → Q (.bl (its.all fun x => decide (1 < (ans x.1.2).length))) h') : wpE F E G34 [some v0, some v1, some v2, some v3, e4, some (.ref Li), e6, e7, e8, e9, e10, e11, e12] h Q := by
  unfold G34
  simp only [wpSs, wpS, wpE, wpEs, wpCs, wpP, wpPs, List.map, List.replicate, List.cons_append, List.nil_append, List.append_nil, List.getElem?_cons_zero, List.getElem?_cons_succ, jn, ws_some, List.length_cons, List.length_nil, List.set, at0, at1, at2, idx_tup, c_gt, c_lt, c_le, c_ge, c_is, c_isnt, c_eqI, c_neI, c_eqS, c_neS, c_eqB, c_neB, isS, isNonD, isBlD, t_bl, b_int, b_abs, b_max2, b_min2, b_lenT, o_add, o_sub, permD, Option.map_some]
  rw [it_lst el]
  simp only [ws_some]
  refine comp_all itD (fun x => if (!decide (1 < (ans x.1.2).length)) = true then some (.int 1) else none) (still_one el) its (by unfold LIM; omega) (fun x hx h2 R p k => ?_) fun h2 p2 e2 => ?_
  · simp only [itD, wpSs, wpS, wpE, wpEs, wpCs, wpP, wpPs, List.map, List.replicate, List.cons_append, List.nil_append, List.append_nil, List.getElem?_cons_zero, List.getElem?_cons_succ, jn, ws_some, List.length_cons, List.length_nil, List.set, at0, at1, at2, idx_tup, c_gt, c_lt, c_le, c_ge, c_is, c_isnt, c_eqI, c_neI, c_eqS, c_neS, c_eqB, c_neB, isS, isNonD, isBlD, t_bl, b_int, b_abs, b_max2, b_min2, b_lenT, o_add, o_sub, permD, Option.map_some, wipeE]
    refine ⟨by simp, by simp, ?_⟩
    have hrv := (rv x hx).pre p
    have hxl := hrl x hx
    obtain ⟨g, hitr, st⟩ := hrv.it
    rw [hitr]
    simp only [ws_some]
    refine comp_all rowD (fun r => some (.tup [.int r.2, .int 1])) st x.1.2 (by unfold LIM; omega) (fun r hr h3 R' p3 k3 => ?_) fun h3 p3 e3 => ?_
    · simp only [rowD, wpSs, wpS, wpE, wpEs, wpCs, wpP, wpPs, List.map, List.replicate, List.cons_append, List.nil_append, List.append_nil, List.getElem?_cons_zero, List.getElem?_cons_succ, jn, ws_some, List.length_cons, List.length_nil, List.set, at0, at1, at2, idx_tup, c_gt, c_lt, c_le, c_ge, c_is, c_isnt, c_eqI, c_neI, c_eqS, c_neS, c_eqB, c_neB, isS, isNonD, isBlD, t_bl, b_int, b_abs, b_max2, b_min2, b_lenT, o_add, o_sub, permD, Option.map_some, wipeE]
      exact ⟨by simp, k3 h3 (List.prefix_refl _)⟩
    · have e4 : x.1.2.filterMap (fun r => some (D.tup [.int r.2, .int 1])) = (x.1.2.map fun r => (D.int r.2, D.int 1)).map fun p => D.tup [p.1, p.2] := by
        rw [filterMap_some, List.map_map]; rfl
      rw [e4] at e3
      obtain ⟨kvs, e5, e6⟩ := b_dictL e3 (by rw [List.length_map]; unfold LIM; omega) fun p hp => by
        obtain ⟨r, _, rfl⟩ := List.mem_map.mp hp
        rfl
      rw [e5]
      simp only [ws_some]
      rw [b_lenD last_at]
      have e7 : kvs.length = (ans x.1.2).length := by
        have : kvs.map (·.1) = ((x.1.2.map (·.2)).foldl uq []).map D.int := by
          rw [e6, ← dk_ints, List.map_map, List.map_map]
          rfl
        have := congrArg List.length this
        rw [List.length_map, List.length_map] at this
        rw [this, ans, lin, sortI_length]
      rw [e7]
      simp only [ws_some, c_lt, t_bl]
      have := k (h3 ++ [.dct kvs]) (p3.trans pre_one)
      by_cases c : 1 < (ans x.1.2).length
      · have c' : ¬ ((ans x.1.2).length : Int) < 2 := by omega
        simp only [c, c', decide_true, decide_false, Bool.not_true, Bool.false_eq_true, if_false] at this ⊢
        exact this
      · have c' : ((ans x.1.2).length : Int) < 2 := by omega
        simp only [c, c', decide_true, decide_false, Bool.not_false, if_true] at this ⊢
        exact this
  · rw [filterMap_if] at e2
    have e3 : (its.filter fun x => !decide (1 < (ans x.1.2).length)).map (fun _ => D.int 1) = ((its.filter fun x => !decide (1 < (ans x.1.2).length)).map (fun _ => (1 : Int))).map D.int := by
      rw [List.map_map]; rfl
    rw [e3] at e2
    rw [eq_empty (pre_at pre_one e2) last_at]
    simp only [ws_some]
    have := q _ (p2.trans (pre_one (c := .lst [])))
    have e4 : decide ((its.filter fun x => !decide (1 < (ans x.1.2).length)).map (fun _ => (1 : Int)) = []) = its.all fun x => decide (1 < (ans x.1.2).length) := by
      rw [Bool.eq_iff_iff, decide_eq_true_eq, List.map_eq_nil_iff, List.filter_eq_nil_iff, List.all_eq_true]
      simp
    rw [e4]
    exact this
theorem tail34 {F : FnS} {E : XP} {V : PR} {many depth : Nat} {rs0 : List Rw} (hm1 : many ≤ 3) (hV : V.length ≤ 1000) (hd : depth ≤ 2) (h0 : rs0.length ≤ 1000) (hw : WF many rs0) {h : Hm} {e4 e5 e6 e7 e8 e9 e10 e11 e12 : Option D} {Z : Ends}
    (q : ∀ h', h <+: h' → Z.rt (.bl (judge V many depth [([], rs0)])) h') :
    wpSs F E T34 [some (rowsD rs0), some (.int many), some (.int (depth : Int)), some (playD V), e4, e5, e6, e7, e8, e9, e10, e11, e12] h Z := by
  unfold T34
  rw [wpSs, wpS]
  simp only [wpE, wpEs, wpP, List.getElem?_cons_zero, Option.join_some, ws_some]
  refine ⟨by simp, ?_⟩
  simp only [List.set]
  rw [wpSs, for_wp, wpEs, wpE]
  simp only [List.getElem?_cons_succ, List.getElem?_cons_zero, Option.join_some, ws_some, wpEs]
  rw [it_range (by omega) (by omega)]
  simp only [ws_some]
  have el : (h ++ [Cell.lst [.tup [.tup [], rowsD rs0]]])[h.length]? = some (.lst [.tup [.tup [], rowsD rs0]]) := last_at
  have p1 : h <+: h ++ [Cell.lst [.tup [.tup [], rowsD rs0]]] := pre_one
  generalize h ++ [Cell.lst [.tup [.tup [], rowsD rs0]]] = H1 at el p1 ⊢
  refine forL_inv (fun l env h' => ∃ (d t Li : Nat) (its : List Itm) (e4 e6 e7 e8 e9 e10 e11 e12 : Option D), l = (rngD 0 (depth : Int).toNat).drop t ∧ t + d = depth ∧ OL V many depth d rs0 h' H1 Li its ∧ env = [some (rowsD rs0), some (.int many), some (.int (depth : Int)), some (playD V), e4, some (.ref Li), e6, e7, e8, e9, e10, e11, e12])
    (fun _ _ h' _ => still_nil) (fun x l env h' R hi k => ?_) (fun env h' hi => ?_) _ _ _
    ⟨depth, 0, h.length, [(([], rs0), rowsD rs0)], _, _, _, _, _, _, _, _, rfl, by omega, ⟨el, (fun x hx => by rw [List.mem_singleton.mp hx]; exact .inl rfl), ⟨(fun p hp => by rw [List.mem_singleton.mp hp]; exact List.Sublist.refl _), (fun p hp => by rw [List.mem_singleton.mp hp]; exact hw), (fun p hp => by rw [List.mem_singleton.mp hp]; simp)⟩, by simp, List.prefix_refl _, rfl, Nat.le_refl _⟩, rfl⟩
  · obtain ⟨d, t, Li, its, e4, e6, e7, e8, e9, e10, e11, e12, hj, htd, S, rfl⟩ := hi
    have hjn : t < (depth : Int).toNat := by
      rcases Nat.lt_or_ge t (depth : Int).toNat with z | z
      · exact z
      · rw [rng_end z] at hj; cases hj
    rw [rng_drop hjn] at hj
    cases hj
    cases d with
    | zero => omega
    | succ d =>
      simp only [wpP, List.set]
      refine ⟨by simp, ?_⟩
      refine body34 hm1 hV hd h0 S (fun h2 Li' its' e4 e7 e8 e9 e10 e11 e12 S2 => k _ _ ⟨d, t + 1, Li', its', _, _, _, _, _, _, _, _, rfl, by omega, S2, rfl⟩) fun h2 hj p2 => ?_
      have := q h2 (p1.trans p2)
      rw [hj] at this
      exact this
  · obtain ⟨d, t, Li, its, e4, e6, e7, e8, e9, e10, e11, e12, hj, htd, S, rfl⟩ := hi
    have hjn : (depth : Int).toNat ≤ t := by
      rcases Nat.lt_or_ge t (depth : Int).toNat with z | z
      · rw [rng_drop z] at hj; cases hj
      · exact z
    have hd0 : d = 0 := by omega
    subst hd0
    rw [wpSs, wpS]
    have hln : its.length ≤ 9 := Nat.le_trans S.ln (pow3 (by omega))
    refine end34 S.el S.rv (by omega) (fun x hx => by
      have := (S.lr.sub x.1 (List.mem_map_of_mem hx)).length_le
      omega) fun h2 p2 => ?_
    have := q h2 (p1.trans (S.pr.trans p2))
    rw [S.jd, judge, List.all_map] at this
    exact this
end M47

end
section
set_option Elab.async false
set_option linter.all false
set_option autoImplicit false
/-! _law_is_play: the whole -/
namespace M47
open M
def Ok33 (F : FnS) (many : Nat) : Prop := ∀ (h : Hm) (d : D) (Q : VQ) (E : XP), okR h d → (∀ xs, d = .tup xs → ∀ x ∈ xs, okR h x) → Q (.bl (askB many d)) h → F 33 [.int (many : Int), d] h Q E
theorem x34 {F : FnS} {many : Nat} (C : Ok33 F many) {E : XP} {h : Hm} {x : D} {K : Nat} (va : VA h 101 K x) {v0 v2 v3 : D} {e5 e6 e7 e8 e9 e10 e11 e12 : Option D} {Q : VQ}
    (q : ∀ h', h <+: h' → Q (.bl (!entB many x)) h') : wpE F E X34 [some v0, some (.int many), some v2, some v3, some x, e5, e6, e7, e8, e9, e10, e11, e12] h Q := by
  unfold X34
  simp only [wpSs, wpS, wpE, wpEs, wpCs, wpP, wpPs, List.map, List.replicate, List.cons_append, List.nil_append, List.append_nil, List.getElem?_cons_zero, List.getElem?_cons_succ, jn, ws_some, List.length_cons, List.length_nil, List.set, at0, at1, at2, idx_tup, c_gt, c_lt, c_le, c_ge, c_is, c_isnt, c_eqI, c_neI, c_eqS, c_neS, c_eqB, c_neB, isS, isNonD, isBlD, t_bl, b_int, b_abs, b_max2, b_min2, b_lenT, o_add, o_sub, permD, Option.map_some, isi_ok va.ok]
  cases c : lenB 3 x with
  | false =>
    have he : entB many x = false := by
      unfold entB
      split
      · cases c
      · rfl
    rw [he] at q
    cases x with
    | tup xs =>
      have c' : ¬ (xs.length : Int) = 3 := of_decide_eq_false c
      simp only [kindB, decide_true, Bool.not_true, Bool.false_eq_true, if_false, wpSs, wpS, wpE, wpEs, wpCs, wpP, wpPs, List.map, List.replicate, List.cons_append, List.nil_append, List.append_nil, List.getElem?_cons_zero, List.getElem?_cons_succ, jn, ws_some, List.length_cons, List.length_nil, List.set, at0, at1, at2, idx_tup, c_gt, c_lt, c_le, c_ge, c_is, c_isnt, c_eqI, c_neI, c_eqS, c_neS, c_eqB, c_neB, isS, isNonD, isBlD, t_bl, b_int, b_abs, b_max2, b_min2, b_lenT, o_add, o_sub, permD, Option.map_some, c', decide_false, Bool.not_false, if_true]
      exact q h (List.prefix_refl _)
    | _ => exact q h (List.prefix_refl _)
  | true =>
    obtain ⟨a, b, d, rfl⟩ := len3 c
    have e3 : decide ((([a, b, d] : List D).length : Int) = 3) = true := rfl
    obtain ⟨k', _, hk⟩ := va.kid
    have vaa := hk a (by simp)
    have e3' : decide (((0 + 1 + 1 + 1 : Nat) : Int) = 3) = true := rfl
    simp only [kindB, decide_true, Bool.not_true, Bool.false_eq_true, if_false, wpSs, wpS, wpE, wpEs, wpCs, wpP, wpPs, List.map, List.replicate, List.cons_append, List.nil_append, List.append_nil, List.getElem?_cons_zero, List.getElem?_cons_succ, jn, ws_some, List.length_cons, List.length_nil, List.set, at0, at1, at2, idx_tup, c_gt, c_lt, c_le, c_ge, c_is, c_isnt, c_eqI, c_neI, c_eqS, c_neS, c_eqB, c_neB, isS, isNonD, isBlD, t_bl, b_int, b_abs, b_max2, b_min2, b_lenT, o_add, o_sub, permD, Option.map_some, e3', isi_ok vaa.ok]
    have ee : entB many (.tup [a, b, d]) = (hisB many a && askB many (.tup [b, d])) := rfl
    rw [ee] at q
    cases a with
    | tup hs =>
      simp only [decide_true, Bool.not_true, Bool.false_eq_true, if_false, optI_int, optI_non, slc_tup, ws_some, cut_tail, List.tail_cons]
      refine C h _ _ _ trivial (fun zs e z hz => ?_) ?_
      · injection e with e
        rw [← e] at hz
        exact (hk z (List.mem_cons_of_mem _ hz)).ok
      · simp only [ws_some, t_bl]
        cases c2 : askB many (.tup [b, d]) with
        | false =>
          simp only [Bool.not_false, if_true]
          rw [c2, Bool.and_false] at q
          exact q h (List.prefix_refl _)
        | true =>
          simp only [Bool.not_true, Bool.false_eq_true, if_false]
          rw [c2, Bool.and_true] at q
          rw [it_tup]
          simp only [ws_some]
          obtain ⟨k3, hl3, hk3⟩ := vaa.kid
          have key2 : ∀ {step : D → Hm → (Option D → Hm → Prop) → Prop} {Q' : Hm → Prop}, (∀ x ∈ hs, ∀ (h3 : Hm) (R : Option D → Hm → Prop), h <+: h3 → (∀ h', h3 <+: h' → R (if (!askB many x) = true then some (.int 1) else none) h') → step x h3 R) → (∀ h', h <+: h' → h'[h.length]? = some (.lst (hs.filterMap fun x => if (!askB many x) = true then some (D.int 1) else none)) → Q' h') → compL [] h.length step Q' hs (h ++ [.lst []]) := fun {step Q'} a b => by
            have := comp_all (g := []) (h0 := h) (step := step) (Q := Q') id (fun x => if (!askB many x) = true then some (D.int 1) else none) still_nil hs (by unfold LIM; omega) a b
            rw [map_id2] at this
            exact this
          refine key2 (fun y hy h3 R' p3 k3 => ?_) fun h3 p3 e3 => ?_
          · simp only [wipeE, wpSs, wpS, wpE, wpEs, wpCs, wpP, wpPs, List.map, List.replicate, List.cons_append, List.nil_append, List.append_nil, List.getElem?_cons_zero, List.getElem?_cons_succ, jn, ws_some, List.length_cons, List.length_nil, List.set, at0, at1, at2, idx_tup, c_gt, c_lt, c_le, c_ge, c_is, c_isnt, c_eqI, c_neI, c_eqS, c_neS, c_eqB, c_neB, isS, isNonD, isBlD, t_bl, b_int, b_abs, b_max2, b_min2, b_lenT, o_add, o_sub, permD, Option.map_some]
            refine ⟨by simp, ?_⟩
            have vy := (hk3 y hy).up p3
            refine C h3 y _ _ vy.ok vy.kok ?_
            simp only [ws_some, t_bl]
            have := k3 h3 (List.prefix_refl _)
            cases c3 : askB many y with
            | true =>
              rw [c3] at this
              simpa using this
            | false =>
              rw [c3] at this
              simpa using this
          · rw [filterMap_if] at e3
            have e4 : (hs.filter fun x => !askB many x).map (fun _ => D.int 1) = ((hs.filter fun x => !askB many x).map (fun _ => (1 : Int))).map D.int := by
              rw [List.map_map]; rfl
            rw [e4] at e3
            rw [ne_empty (pre_at pre_one e3) last_at]
            simp only [ws_some]
            have := q _ (p3.trans (pre_one (c := .lst [])))
            have e5 : decide ((hs.filter fun x => !askB many x).map (fun _ => (1 : Int)) = []) = hisB many (.tup hs) := by
              show _ = hs.all (askB many)
              rw [Bool.eq_iff_iff, decide_eq_true_eq, List.map_eq_nil_iff, List.filter_eq_nil_iff, List.all_eq_true]
              simp
            rw [e5]
            exact this
    | _ => exact q h (List.prefix_refl _)
theorem f34 {F : FnS} {many : Nat} (C : Ok33 F many) {E : XP} {h : Hm} {xs : List D} {K : Nat} (va : VA h 101 K (.tup xs)) {v0 v2 : D} {Z : Ends}
    (q : ∀ h' e4, h <+: h' → validV many (.tup xs) = true → Z.nx [some v0, some (.int many), some v2, some (.tup xs), e4, none, none, none, none, none, none, none, none] h')
    (qf : ∀ h', h <+: h' → validV many (.tup xs) = false → Z.rt (.bl false) h') :
    wpS F E F34 [some v0, some (.int many), some v2, some (.tup xs), none, none, none, none, none, none, none, none, none] h Z := by
  unfold F34
  rw [for_wp, wpEs, wpE]
  simp only [List.getElem?_cons_succ, List.getElem?_cons_zero, Option.join_some, ws_some, wpEs]
  rw [it_tup]
  simp only [ws_some]
  obtain ⟨k', hl, hk⟩ := va.kid
  refine forL_inv (fun l env h' => ∃ (done : List D) (e4 : Option D), xs = done ++ l ∧ done.all (entB many) = true ∧ h <+: h' ∧ env = [some v0, some (.int many), some v2, some (.tup xs), e4, none, none, none, none, none, none, none, none])
    (fun _ _ h' _ => still_nil) (fun x l env h' R hi k => ?_) (fun env h' hi => ?_) _ _ _ ⟨[], none, rfl, rfl, List.prefix_refl _, rfl⟩
  · obtain ⟨done, e4, hp, hd, p, rfl⟩ := hi
    have hx : x ∈ xs := by rw [hp]; simp
    simp only [wpP, List.set]
    refine ⟨by simp, ?_⟩
    rw [wpSs, wpS]
    refine x34 C ((hk x hx).up p) fun h2 p2 => ?_
    simp only [t_bl, ws_some]
    cases c : entB many x with
    | false =>
      simp only [Bool.not_false, if_true]
      rw [wpSs, wpS, wpE]
      refine qf h2 (p.trans p2) ?_
      show xs.all (entB many) = false
      rw [List.all_eq_false]
      exact ⟨x, hx, by rw [c]; simp⟩
    | true =>
      simp only [Bool.not_true, Bool.false_eq_true, if_false]
      rw [wpSs]
      dsimp only
      rw [wpSs]
      refine k _ _ ⟨done ++ [x], _, by rw [hp]; simp, by rw [List.all_append, hd]; simp [c], p.trans p2, rfl⟩
  · obtain ⟨done, e4, hp, hd, p, rfl⟩ := hi
    rw [List.append_nil] at hp
    subst hp
    exact q h' _ p hd
theorem k34 {F : FnS} {E : XP} {h : Hm} {V : PR} (hl : V.length ≤ 1000) {v0 v1 v2 : D} {e4 e5 e6 e7 e8 e9 e10 e11 e12 : Option D} {Q : VQ}
    (q : ∀ h', h <+: h' → Q (.bl (!decide (V.map (·.1)).Nodup)) h') : wpE F E K34 [some v0, some v1, some v2, some (playD V), e4, e5, e6, e7, e8, e9, e10, e11, e12] h Q := by
  unfold K34
  simp only [wpSs, wpS, wpE, wpEs, wpCs, wpP, wpPs, List.map, List.replicate, List.cons_append, List.nil_append, List.append_nil, List.getElem?_cons_zero, List.getElem?_cons_succ, jn, ws_some, List.length_cons, List.length_nil, List.set, at0, at1, at2, idx_tup, c_gt, c_lt, c_le, c_ge, c_is, c_isnt, c_eqI, c_neI, c_eqS, c_neS, c_eqB, c_neB, isS, isNonD, isBlD, t_bl, b_int, b_abs, b_max2, b_min2, b_lenT, o_add, o_sub, permD, Option.map_some, playD]
  rw [it_tup]
  simp only [ws_some]
  refine comp_all entD (fun e => some (.tup [keyD e.1, .int 1])) still_nil V (by unfold LIM; omega) (fun e he h2 R p k => ?_) fun h2 p2 e2 => ?_
  · obtain ⟨a, b, c, e1, e2, e3⟩ := ent_key e
    rw [e1]
    simp only [wipeE, wpSs, wpS, wpE, wpEs, wpCs, wpP, wpPs, List.map, List.replicate, List.cons_append, List.nil_append, List.append_nil, List.getElem?_cons_zero, List.getElem?_cons_succ, jn, ws_some, List.length_cons, List.length_nil, List.set, at0, at1, at2, idx_tup, c_gt, c_lt, c_le, c_ge, c_is, c_isnt, c_eqI, c_neI, c_eqS, c_neS, c_eqB, c_neB, isS, isNonD, isBlD, t_bl, b_int, b_abs, b_max2, b_min2, b_lenT, o_add, o_sub, permD, Option.map_some, optI_int, optI_non, slc_tup, cut3]
    refine ⟨by simp, ?_⟩
    rw [← e2]
    exact k h2 (List.prefix_refl _)
  · have e3 : V.filterMap (fun e => some (D.tup [keyD e.1, .int 1])) = (V.map fun e => (e.1, (1 : Int))).map fun p => D.tup [encK.e p.1, D.int p.2] := by
      rw [filterMap_some, List.map_map]; rfl
    rw [e3] at e2
    rw [b_dictE encK D.int rfl e2 (by rw [List.length_map]; unfold LIM; omega)]
    simp only [ws_some]
    rw [b_lenD last_at]
    simp only [wpSs, wpS, wpE, wpEs, wpCs, wpP, wpPs, List.map, List.replicate, List.cons_append, List.nil_append, List.append_nil, List.getElem?_cons_zero, List.getElem?_cons_succ, jn, ws_some, List.length_cons, List.length_nil, List.set, at0, at1, at2, idx_tup, c_gt, c_lt, c_le, c_ge, c_is, c_isnt, c_eqI, c_neI, c_eqS, c_neS, c_eqB, c_neB, isS, isNonD, isBlD, t_bl, b_int, b_abs, b_max2, b_min2, b_lenT, o_add, o_sub, permD, Option.map_some]
    have hlen : ((encL encK D.int (puts [] (V.map fun e => (e.1, (1 : Int))))).length : Int) = ((puts [] (V.map fun e => (e.1, (1 : Int)))).length : Int) := by unfold encL; rw [List.length_map]
    have hiff := puts_len_iff (V.map fun e => (e.1, (1 : Int)))
    have hm : (V.map fun e => (e.1, (1 : Int))).map (·.1) = V.map (·.1) := by rw [List.map_map]; rfl
    rw [hm, List.length_map] at hiff
    rw [hlen, List.length_map]
    have : decide (((puts [] (V.map fun e => (e.1, (1 : Int)))).length : Int) = (V.length : Int)) = decide (V.map (·.1)).Nodup := decide_eq_decide.mpr (by rw [← hiff]; omega)
    rw [this]
    exact q _ (p2.trans pre_one)
theorem lawplay_spec {n many depth K : Nat} {rs : List Rw} {v : D} {h : Hm} {Q : VQ} {E : XP} (hm1 : many ≤ 3) (hd : depth ≤ 2) (h0 : rs.length ≤ 1000) (hw : WF many rs) (va : VA h 101 K v)
    (q : ∀ h', h <+: h' → Q (.bl (playV many depth rs v)) h') : FW P (n + 4) 34 [rowsD rs, .int many, .int (depth : Int), v] h Q E := by
  refine fw_open (d := D34) rfl rfl ?_
  rw [d34_eq]
  have C : Ok33 (FW P (n + 3)) many := fun h d Q E ok okc q => pair33_spec ok okc q
  generalize FW P (n + 3) = F at C ⊢
  simp only [List.map, List.replicate]
  rw [wpSs, wpS]
  simp only [wpE, wpEs, List.cons_append, List.nil_append, List.getElem?_cons_succ, List.getElem?_cons_zero, Option.join_some, ws_some, isi_ok va.ok, t_bl]
  cases v with
  | tup xs =>
    simp only [kindB, decide_true, Bool.not_true, Bool.false_eq_true, if_false]
    rw [wpSs]
    dsimp only
    rw [wpSs]
    refine f34 C va (fun h2 e4 p2 ev => ?_) fun h2 p2 ev => ?_
    · have hv := valid_dec ev
      have hl : (dec (.tup xs)).length = xs.length := by
        show (xs.map decE).length = _
        rw [List.length_map]
      obtain ⟨_, hxl, _⟩ := va.kid
      unfold playV at q
      rw [ev, Bool.true_and] at q
      dsimp only
      rw [wpSs, wpS]
      generalize hV : dec (.tup xs) = V at hv hl q
      rw [hv]
      refine k34 (by omega) fun h3 p3 => ?_
      simp only [t_bl, ws_some]
      cases c : decide (V.map (·.1)).Nodup with
      | false =>
        simp only [Bool.not_false, if_true]
        rw [wpSs, wpS, wpE]
        rw [c, Bool.false_and] at q
        exact q h3 (p2.trans p3)
      | true =>
        simp only [Bool.not_true, Bool.false_eq_true, if_false]
        rw [c, Bool.true_and] at q
        rw [wpSs]
        dsimp only
        exact tail34 hm1 (by omega) hd h0 hw fun h4 p4 => q h4 (p2.trans (p3.trans p4))
    · have : playV many depth rs (.tup xs) = false := by
        unfold playV
        rw [ev, Bool.false_and]
      rw [this] at q
      exact q h2 p2
  | _ =>
    simp only [kindB]
    exact q h (List.prefix_refl _)
end M47

end
section
set_option Elab.async false
set_option linter.all false
set_option autoImplicit false
/-! _law_own_play -/
namespace M47
open M
def C35 : CE := .ife (.or (.cmp .is (.loc 13) (.lit .non)) (.cmp .gt (.loc 13) (.bin .sub (.bin .sub (.loc 2) (.loc 3)) (.lit (.int (1)))))) (.lst [(.tup [(.loc 11), (.loc 12)])]) (.lst [])
def B35 : List CS := [
  .asg (.slot 13) (.call 23 [(.loc 12), (.loc 1), (.dct [])] [] [0, 1, 2]),
  .asg (.slot 10) (.bin .add (.loc 10) C35)]
def S35 : CS := .for_ (.tup [(.slot 11), (.slot 12)]) .val [(.call 22 [(.loc 8), (.loc 9)] [] [0, 1])] B35
def W35 : CE := .idx (.loc 10) (.bin .sub (.blt .len [(.loc 10)]) (.lit (.int (1))))
def I35 : List CS := [
  .asg (.slot 10) (.lst []),
  S35,
  .expr (.meth .append (.loc 4) [(.tup [(.loc 7), (.loc 9), (.idx W35 (.lit (.int (0))))])]),
  .expr (.meth .append (.loc 6) [(.tup [(.bin .add (.loc 7) (.tup [(.tup [(.loc 9), (.idx W35 (.lit (.int (0))))])])), (.idx W35 (.lit (.int (1))))])])]
def M35 : List CS := [.for_ (.slot 9) .range [(.loc 1)] I35]
def L35 : CS := .for_ (.tup [(.slot 7), (.slot 8)]) .val [(.loc 5)] M35
def O35 : List CS := [
  .asg (.slot 6) (.lst []),
  L35,
  .asg (.slot 5) (.loc 6)]
theorem d35_eq : D35 = ⟨3, 14, [
  .asg (.tup [(.slot 4), (.slot 5)]) (.tup [(.lst []), (.lst [(.tup [(.tup []), (.loc 0)])])]),
  .for_ (.slot 3) .range [(.loc 2)] O35,
  .ret (.blt .tuple [(.loc 4)])]⟩ := rfl
def Ok22 (F : FnS) (many : Nat) : Prop := ∀ (a : Int) (rs : List Rw) (h : Hm) (Q : VQ) (E : XP), 0 ≤ a → a < many → WF many rs → rs.length ≤ 12 → (∀ h' r, h <+: h' → h'[r]? = some (.lst ((parts rs a).map partD)) → h.length ≤ r → Q (.ref r) h') → F 22 [rowsD rs, .int a] h Q E
def Ok23 (F : FnS) (many : Nat) : Prop := ∀ (rs : List Rw) (h : Hm) (Q : VQ) (E : XP), rs.length ≤ 12 → WF many rs → (∀ v h', NV many rs v → h <+: h' → Q (ndD v) h') → F 23 [rowsD rs, .int (many : Int), .ref h.length] (h ++ [.dct []]) Q E
theorem ok22 {n many : Nat} : Ok22 (FW P (n + 1)) many := fun a rs h Q E h0 h1 hw hl q => parts_spec hw h0 h1 (by omega) q
theorem ok23 {n many : Nat} (hn : 20 ≤ n) (hm : many ≤ 1000) : Ok23 (FW P n) many := fun rs h Q E hl hw q => needs_spec (rs0 := rs) (by omega) n rs _ _ _ _ (by omega) (List.Sublist.refl _) hw NM.new hm fun v h' mx _ nv => q v h' nv (mx_pre pre_one (Nat.le_refl _) mx)
theorem some35 {F : FnS} {many : Nat} (C22 : Ok22 F many) (C23 : Ok23 F many) {E : XP} {depth t d j : Nat} (ht : t + d + 1 = depth) (hj : j < many) {rs : List Rw} (hl : rs.length ≤ 12) (hw : WF many rs) {h : Hm} {s0 : Nat} (es : h[s0]? = some (.lst [])) {v0 v4 v5 v6 v7 : D} {e11 e12 e13 : Option D} {Z : Ends}
    (q : ∀ h' s e11 e12 e13, h <+: h' → h'[s]? = some (.lst ((opens many d rs j).map partD)) → Z.nx [some v0, some (.int many), some (.int (depth : Int)), some (.int (t : Int)), some v4, some v5, some v6, some v7, some (rowsD rs), some (.int (j : Int)), some (.ref s), e11, e12, e13] h') :
    wpS F E S35 [some v0, some (.int many), some (.int (depth : Int)), some (.int (t : Int)), some v4, some v5, some v6, some v7, some (rowsD rs), some (.int (j : Int)), some (.ref s0), e11, e12, e13] h Z := by
  unfold S35
  rw [for_wp, wpEs, wpE]
  simp only [wpEs, wpE, List.getElem?_cons_succ, List.getElem?_cons_zero, Option.join_some, ws_some, permD, List.append_nil]
  refine C22 (j : Int) rs h _ _ (by omega) (by omega) hw hl fun h1 r p1 er hr => ?_
  rw [it_lst er]
  simp only [ws_some]
  have hpl : (parts rs (j : Int)).length ≤ 12 := Nat.le_trans parts_len hl
  refine forL_inv (fun l env h' => ∃ (done rest : List (Int × List Rw)) (s : Nat) (e11 e12 e13 : Option D), parts rs (j : Int) = done ++ rest ∧ l = rest.map partD ∧ h1 <+: h' ∧ h'[s]? = some (.lst ((done.filter fun p => !tell many d p.2).map partD)) ∧ env = [some v0, some (.int many), some (.int (depth : Int)), some (.int (t : Int)), some v4, some v5, some v6, some v7, some (rowsD rs), some (.int (j : Int)), some (.ref s), e11, e12, e13])
    (fun _ _ _ ⟨_, _, _, _, _, _, _, _, p, _⟩ => still_one (pre_at p er)) (fun x l env h' R hi k => ?_) (fun env h' hi => ?_) _ _ _ ⟨[], parts rs (j : Int), s0, _, _, _, rfl, rfl, List.prefix_refl _, pre_at p1 es, rfl⟩
  · obtain ⟨done, rest, s, e11, e12, e13, hp, hx, p, es, rfl⟩ := hi
    cases rest with
    | nil => cases hx
    | cons x rest =>
      rw [List.map_cons] at hx
      cases hx
      have hpm : x ∈ parts rs (j : Int) := by rw [hp]; simp
      have hpe := (mem_parts.mp hpm).1
      have hsub2 : x.2.Sublist rs := by rw [hpe]; exact part_sub
      unfold B35
      simp only [partD, wpSs, wpS, wpE, wpEs, wpCs, wpP, wpPs, List.map, List.replicate, List.cons_append, List.nil_append, List.append_nil, List.getElem?_cons_zero, List.getElem?_cons_succ, jn, ws_some, List.length_cons, List.length_nil, List.set, at0, at1, at2, idx_tup, c_gt, c_lt, c_le, c_ge, c_is, c_isnt, c_eqI, c_neI, c_eqS, c_neS, c_eqB, c_neB, isS, isNonD, isBlD, t_bl, b_int, b_abs, b_max2, b_min2, b_lenT, o_add, o_sub, permD, Option.map_some, evens, mergeK]
      refine ⟨by simp, by simp, ?_⟩
      refine C23 x.2 h' _ _ (by have := hsub2.length_le; omega) (fun r hr => hw r (hsub2.subset hr)) fun v h2 nv p2 => ?_
      refine ⟨by simp, ?_⟩
      have es2 := pre_at p2 es
      have hdl : done.length ≤ 12 := by
        have := congrArg List.length hp
        rw [List.length_append] at this
        omega
      have hfl : ((done.filter fun p => !tell many d p.2).map partD).length ≤ 12 := by
        rw [List.length_map]
        exact Nat.le_trans (List.length_filter_le _ _) hdl
      have hc : ∀ (R : VQ) (e10 : Option D), (if tell many d x.2 = true then R (.ref h2.length) (h2 ++ [.lst []]) else R (.ref h2.length) (h2 ++ [.lst [.tup [.int x.1, rowsD x.2]]])) → wpE F E C35 [some v0, some (.int many), some (.int (depth : Int)), some (.int (t : Int)), some v4, some v5, some v6, some v7, some (rowsD rs), some (.int (j : Int)), e10, some (.int x.1), some (rowsD x.2), some (ndD v)] h2 R := fun R e10 hR => by
        unfold C35
        simp only [wpSs, wpS, wpE, wpEs, wpCs, wpP, wpPs, List.map, List.replicate, List.cons_append, List.nil_append, List.append_nil, List.getElem?_cons_zero, List.getElem?_cons_succ, jn, ws_some, List.length_cons, List.length_nil, List.set, at0, at1, at2, idx_tup, c_gt, c_lt, c_le, c_ge, c_is, c_isnt, c_eqI, c_neI, c_eqS, c_neS, c_eqB, c_neB, isS, isNonD, isBlD, t_bl, b_int, b_abs, b_max2, b_min2, b_lenT, o_add, o_sub, permD, Option.map_some]
        rw [nv.le d] at hR
        cases v with
        | none =>
          simp only [ndD, BEq.rfl, if_true, isNonD, t_bl, wpSs, wpS, wpE, wpEs, wpCs, wpP, wpPs, List.map, List.replicate, List.cons_append, List.nil_append, List.append_nil, List.getElem?_cons_zero, List.getElem?_cons_succ, jn, ws_some, List.length_cons, List.length_nil, List.set, at0, at1, at2, idx_tup, c_gt, c_lt, c_le, c_ge, c_is, c_isnt, c_eqI, c_neI, c_eqS, c_neS, c_eqB, c_neB, isS, isNonD, isBlD, t_bl, b_int, b_abs, b_max2, b_min2, b_lenT, o_add, o_sub, permD, Option.map_some]
          exact hR
        | some i =>
          simp only [ndD, isNonD, Bool.false_eq_true, if_false, wpSs, wpS, wpE, wpEs, wpCs, wpP, wpPs, List.map, List.replicate, List.cons_append, List.nil_append, List.append_nil, List.getElem?_cons_zero, List.getElem?_cons_succ, jn, ws_some, List.length_cons, List.length_nil, List.set, at0, at1, at2, idx_tup, c_gt, c_lt, c_le, c_ge, c_is, c_isnt, c_eqI, c_neI, c_eqS, c_neS, c_eqB, c_neB, isS, isNonD, isBlD, t_bl, b_int, b_abs, b_max2, b_min2, b_lenT, o_add, o_sub, permD, Option.map_some]
          have : ((depth : Int) - (t : Int) - 1) = (d : Int) := by omega
          rw [this]
          simp only [ndLe] at hR
          by_cases c : i ≤ (d : Int)
          · have c' : ¬ (d : Int) < i := by omega
            simp only [c, c', decide_true, decide_false, if_true, Bool.false_eq_true, if_false] at hR ⊢
            exact hR
          · have c' : (d : Int) < i := by omega
            simp only [c, c', decide_true, decide_false, if_true, Bool.false_eq_true, if_false] at hR ⊢
            exact hR
      refine hc _ _ ?_
      cases c : tell many d x.2 with
      | true =>
        simp only [if_true]
        rw [o_addL (pre_at pre_one es2) last_at (by simp; simp at hfl; omega)]
        simp only [ws_some]
        refine ⟨by simp, ?_⟩
        refine k _ _ ⟨done ++ [x], rest, _, _, _, _, by rw [hp]; simp, rfl, p.trans (p2.trans (pre_one.trans pre_one)), ?_, rfl⟩
        rw [last_at, List.filter_append]
        simp [c]
      | false =>
        simp only [Bool.false_eq_true, if_false]
        rw [o_addL (pre_at pre_one es2) last_at (by simp; simp at hfl; omega)]
        simp only [ws_some]
        refine ⟨by simp, ?_⟩
        refine k _ _ ⟨done ++ [x], rest, _, _, _, _, by rw [hp]; simp, rfl, p.trans (p2.trans (pre_one.trans pre_one)), ?_, rfl⟩
        rw [last_at, List.filter_append]
        simp [c, partD]
  · obtain ⟨done, rest, s, e11, e12, e13, hp, hx, p, es, rfl⟩ := hi
    have hr0 : rest = [] := List.map_eq_nil_iff.mp hx.symm
    subst hr0
    rw [List.append_nil] at hp
    rw [← hp] at es
    exact q h' s _ _ _ (p1.trans p) es
theorem w35 {F : FnS} {E : XP} {env : Env} {h : Hm} {s : Nat} {l : List (Int × List Rw)} {p : Int × List Rw} {Q : VQ} (e10 : env[10]? = some (some (.ref s))) (es : h[s]? = some (.lst ((l ++ [p]).map partD))) (q : Q (partD p) h) : wpE F E W35 env h Q := by
  unfold W35
  rw [wpE, wpE, e10]
  simp only [wpE, wpEs, e10, Option.join_some, ws_some]
  rw [b_lenL es]
  simp only [ws_some, o_sub]
  rw [idx_lst es]
  have : atI ((l ++ [p]).map partD) (((((l ++ [p]).map partD).length : Nat) : Int) - 1) = some (partD p) := by
    rw [List.length_map, List.length_append, List.length_singleton]
    refine at_pos (by omega) ?_
    have e : (((l.length + 1 : Nat) : Int) - 1).toNat = l.length := by omega
    rw [e, List.map_append, List.getElem?_append_right (by simp)]
    simp
  rw [this]
  simp only [ws_some]
  exact q
/-- the state of _law_own_play -/
structure SL (h : Hm) (Fc La : Nat) (fs : PR) (ls : Ln) : Prop where
  ef : h[Fc]? = some (.lst (fs.map entD))
  el : h[La]? = some (.lst (ls.map lnD))
  d3 : Fc ≠ La
theorem in35 {F : FnS} {many : Nat} (C22 : Ok22 F many) (C23 : Ok23 F many) {E : XP} {depth t d : Nat} (ht : t + d + 1 = depth) (hm1 : many ≤ 1000) {p : HI × List Rw} (hp : tell many (d + 1) p.2 = false) (hrl : p.2.length ≤ 12) (hw : WF many p.2) (hl : p.1.length ≤ 1000) {h : Hm} {Fc La : Nat} {fs : PR} {ls : Ln} (S : SL h Fc La fs ls) (lf : fs.length ≤ 10000) (ll : ls.length ≤ 10000) {v0 v5 : D} {e9 e10 e11 e12 e13 : Option D} {Z : Ends}
    (q : ∀ h' e9 e10 e11 e12 e13, SL h' Fc La (fs ++ ask1 many (fun p a => chL many d p.2 a) p) (ls ++ nxt1 many (fun p a => chL many d p.2 a) p) → MS [Fc, La] h h' → Z.nx [some v0, some (.int many), some (.int (depth : Int)), some (.int (t : Int)), some (.ref Fc), some v5, some (.ref La), some (hisD p.1), some (rowsD p.2), e9, e10, e11, e12, e13] h') :
    wpSs F E M35 [some v0, some (.int many), some (.int (depth : Int)), some (.int (t : Int)), some (.ref Fc), some v5, some (.ref La), some (hisD p.1), some (rowsD p.2), e9, e10, e11, e12, e13] h Z := by
  unfold M35
  rw [wpSs, for_wp, wpEs, wpE]
  simp only [List.getElem?_cons_succ, List.getElem?_cons_zero, Option.join_some, ws_some, wpEs]
  rw [it_range (by omega) (by omega)]
  simp only [ws_some]
  refine forL_inv (fun l env h' => ∃ (j : Nat) (e9 e10 e11 e12 e13 : Option D), l = (rngD 0 (many : Int).toNat).drop j ∧ j ≤ many ∧ SL h' Fc La (fs ++ ask1 j (fun p a => chL many d p.2 a) p) (ls ++ nxt1 j (fun p a => chL many d p.2 a) p) ∧ MS [Fc, La] h h' ∧ env = [some v0, some (.int many), some (.int (depth : Int)), some (.int (t : Int)), some (.ref Fc), some v5, some (.ref La), some (hisD p.1), some (rowsD p.2), e9, e10, e11, e12, e13])
    (fun _ _ _ _ => still_nil) (fun x l env h' R hi k => ?_) (fun env h' hi => ?_) _ _ _ ⟨0, _, _, _, _, _, rfl, by omega, by simpa [ask1, nxt1] using S, MS.refl _ _, rfl⟩
  · obtain ⟨j, e9, e10, e11, e12, e13, hj, jm, S1, ms, rfl⟩ := hi
    have hjn : j < (many : Int).toNat := by
      rcases Nat.lt_or_ge j (many : Int).toNat with z | z
      · exact z
      · rw [rng_end z] at hj; cases hj
    rw [rng_drop hjn] at hj
    cases hj
    have hjm : j < many := by omega
    simp only [wpP, List.set]
    refine ⟨by simp, ?_⟩
    unfold I35
    rw [wpSs, wpS]
    simp only [wpE, wpEs, wpP, List.set]
    refine ⟨by simp, ?_⟩
    rw [wpSs]
    dsimp only
    refine some35 C22 C23 ht hjm hrl hw last_at fun h1 s e11 e12 e13 p1 es => ?_
    have p1 : h' <+: h1 := pre_one.trans p1
    obtain ⟨l, o, ho, o1, o2⟩ := opens_ex hp hjm
    rw [ho] at es
    dsimp only
    rw [wpSs, wpS, wpE]
    simp only [wpE, wpEs, List.getElem?_cons_succ, List.getElem?_cons_zero, Option.join_some, ws_some]
    have ef1 := pre_at p1 S1.ef
    have el1 := pre_at p1 S1.el
    refine ⟨recv_app ef1, ?_⟩
    refine w35 (l := l) (p := o) rfl es ?_
    simp only [partD, idx_tup, at0, ws_some]
    have lf1 : (fs ++ ask1 j (fun p a => chL many d p.2 a) p).length < LIM := by simp [ask1]; unfold LIM; omega
    have ll1 : (ls ++ nxt1 j (fun p a => chL many d p.2 a) p).length < LIM := by simp [nxt1]; unfold LIM; omega
    rw [b_append ef1 (by rw [List.length_map]; exact lf1)]
    simp only [ws_some]
    have hsF : s ≠ Fc := fun e => by
      rw [e, ef1] at es
      injection es with es
      injection es with es
      have h1 := congrArg List.getLast? es
      rcases List.eq_nil_or_concat (fs ++ ask1 j (fun p a => chL many d p.2 a) p) with z | ⟨u, w, z⟩
      · rw [z] at h1; simp at h1
      · rw [z, List.concat_eq_append, List.map_append, List.map_append] at h1
        simp [entD, partD] at h1
    have el2 : (h1.set Fc (.lst ((fs ++ ask1 j (fun p a => chL many d p.2 a) p).map entD ++ [.tup [hisD p.1, .int (j : Int), .int o.1]])))[La]? = some (.lst ((ls ++ nxt1 j (fun p a => chL many d p.2 a) p).map lnD)) := by
      rw [List.getElem?_set_ne S1.d3]; exact el1
    have es2 : (h1.set Fc (.lst ((fs ++ ask1 j (fun p a => chL many d p.2 a) p).map entD ++ [.tup [hisD p.1, .int (j : Int), .int o.1]])))[s]? = some (.lst ((l ++ [o]).map partD)) := by
      rw [List.getElem?_set_ne hsF.symm]; exact es
    rw [wpSs, wpS, wpE]
    simp only [wpE, wpEs, List.getElem?_cons_succ, List.getElem?_cons_zero, Option.join_some, ws_some]
    refine ⟨recv_app el2, ?_⟩
    refine w35 (l := l) (p := o) rfl es2 ?_
    simp only [partD, idx_tup, at0, ws_some]
    have hadd : ∀ h, binS .add (hisD p.1) (.tup [.tup [.int (j : Int), .int o.1]]) h = some (hisD (p.1 ++ [((j : Int), o.1)]), h) := fun h => his_add (q := ((j : Int), o.1)) hl
    rw [hadd]
    simp only [ws_some]
    refine w35 (l := l) (p := o) rfl es2 ?_
    simp only [partD, idx_tup, at1, ws_some]
    rw [b_append el2 (by rw [List.length_map]; exact ll1)]
    simp only [ws_some, wpSs]
    refine k _ _ ⟨j + 1, _, _, _, _, _, rfl, by omega, ⟨?_, ?_, S1.d3⟩, ?_, rfl⟩
    · rw [List.getElem?_set_ne S1.d3.symm, set_at ef1, ask1_succ, ← List.append_assoc, List.map_append (l₂ := [_])]
      rw [o1]
      rfl
    · rw [set_at el2, nxt1_succ, ← List.append_assoc, List.map_append (l₂ := [_])]
      rw [o2, o1]
      rfl
    · exact ms.trans (((MS.pre p1).set (by simp) _).set (by simp) _)
  · obtain ⟨j, e9, e10, e11, e12, e13, hj, jm, S1, ms, rfl⟩ := hi
    have hjn : (many : Int).toNat ≤ j := by
      rcases Nat.lt_or_ge j (many : Int).toNat with z | z
      · rw [rng_drop z] at hj; cases hj
      · exact z
    have : j = many := by omega
    subst this
    exact q h' _ _ _ _ _ S1 ms
theorem mid35 {F : FnS} {many : Nat} (C22 : Ok22 F many) (C23 : Ok23 F many) {E : XP} {depth t d L : Nat} (ht : t + d + 1 = depth) {rs0 : List Rw} (h0 : rs0.length ≤ 12) (hm1 : many ≤ 3) {line : Ln} (op : OpL many (d + 1) line) (lr : LnR many L rs0 line) (hL : L ≤ 1000) (hll : line.length ≤ 1000) {h : Hm} {Fc La Li : Nat} {fs : PR} (S : SL h Fc La fs []) (lf : fs.length ≤ 1000) (eli : h[Li]? = some (.lst (line.map lnD))) (hLi : Li ∉ [Fc, La]) {v0 : D} {e7 e8 e9 e10 e11 e12 e13 : Option D} {Z : Ends}
    (q : ∀ h' e7 e8 e9 e10 e11 e12 e13, SL h' Fc La (fs ++ asks many (fun p a => chL many d p.2 a) line) (nxt many (fun p a => chL many d p.2 a) line) → MS [Fc, La] h h' → Z.nx [some v0, some (.int many), some (.int (depth : Int)), some (.int (t : Int)), some (.ref Fc), some (.ref Li), some (.ref La), e7, e8, e9, e10, e11, e12, e13] h') :
    wpS F E L35 [some v0, some (.int many), some (.int (depth : Int)), some (.int (t : Int)), some (.ref Fc), some (.ref Li), some (.ref La), e7, e8, e9, e10, e11, e12, e13] h Z := by
  unfold L35
  rw [for_wp, wpEs, wpE]
  simp only [List.getElem?_cons_succ, List.getElem?_cons_zero, Option.join_some, ws_some, wpEs]
  rw [it_lst eli]
  simp only [ws_some]
  refine forL_inv (fun l env h' => ∃ (done rest : Ln) (e7 e8 e9 e10 e11 e12 e13 : Option D), line = done ++ rest ∧ l = rest.map lnD ∧ SL h' Fc La (fs ++ asks many (fun p a => chL many d p.2 a) done) (nxt many (fun p a => chL many d p.2 a) done) ∧ MS [Fc, La] h h' ∧ env = [some v0, some (.int many), some (.int (depth : Int)), some (.int (t : Int)), some (.ref Fc), some (.ref Li), some (.ref La), e7, e8, e9, e10, e11, e12, e13])
    (fun _ _ _ ⟨_, _, _, _, _, _, _, _, _, _, _, _, ms, _⟩ => still_one (ms.cell eli hLi)) (fun x l env h' R hi k => ?_) (fun env h' hi => ?_) _ _ _ ⟨[], line, _, _, _, _, _, _, _, rfl, rfl, by simpa [asks, nxt] using S, MS.refl _ _, rfl⟩
  · obtain ⟨done, rest, e7, e8, e9, e10, e11, e12, e13, hp, hx, S1, ms, rfl⟩ := hi
    cases rest with
    | nil => cases hx
    | cons p rest =>
      rw [List.map_cons] at hx
      cases hx
      have hpm : p ∈ line := by rw [hp]; simp
      have hdl : done.length ≤ 1000 := by
        have := congrArg List.length hp
        rw [List.length_append] at this
        omega
      have hdm : done.length * many ≤ 1000 * 3 := Nat.mul_le_mul hdl hm1
      have hpl := lr.len p hpm
      have hsl := (lr.sub p hpm).length_le
      simp only [lnD, wpP, wpPs, List.set]
      refine ⟨by simp, by simp, ?_⟩
      refine in35 C22 C23 ht (by omega) (op p hpm) (by omega) (lr.wf p hpm) (by omega) S1 (by rw [List.length_append, asks_len]; omega) (by rw [nxt_len]; omega) fun h1 e9 e10 e11 e12 e13 S2 ms2 => ?_
      refine k _ _ ⟨done ++ [p], rest, _, _, _, _, _, _, _, by rw [hp]; simp, rfl, ?_, ms.trans ms2, rfl⟩
      rw [asks_add, nxt_add, ← List.append_assoc]
      exact S2
  · obtain ⟨done, rest, e7, e8, e9, e10, e11, e12, e13, hp, hx, S1, ms, rfl⟩ := hi
    have hr0 : rest = [] := List.map_eq_nil_iff.mp hx.symm
    subst hr0
    rw [List.append_nil] at hp
    subst hp
    exact q h' _ _ _ _ _ _ _ S1 ms
structure OW (many depth d : Nat) (rs0 : List Rw) (h H1 : Hm) (Fc Li : Nat) (fs : PR) (cur : Ln) : Prop where
  ef : h[Fc]? = some (.lst (fs.map entD))
  el : h[Li]? = some (.lst (cur.map lnD))
  d2 : Li ≠ Fc
  ms : MS [Fc] H1 h
  op : OpL many d cur
  lr : LnR many (depth - d) rs0 cur
  ln : cur.length ≤ 3 ^ (depth - d)
  all_ : fs ++ bld (chL many) many d cur = bld (chL many) many depth [([], rs0)]
  dl : d ≤ depth
theorem body35 {F : FnS} {many : Nat} (C22 : Ok22 F many) (C23 : Ok23 F many) {E : XP} {depth t d : Nat} (ht : t + d + 1 = depth) {rs0 : List Rw} (h0 : rs0.length ≤ 12) (hm1 : many ≤ 3) (hd : depth ≤ 2) {h H1 : Hm} {Fc Li : Nat} {fs : PR} {cur : Ln} (S : OW many depth (d + 1) rs0 h H1 Fc Li fs cur) {v0 : D} {e6 e7 e8 e9 e10 e11 e12 e13 : Option D} {Z : Ends}
    (q : ∀ h' Li' fs' cur' e6 e7 e8 e9 e10 e11 e12 e13, OW many depth d rs0 h' H1 Fc Li' fs' cur' → Z.nx [some v0, some (.int many), some (.int (depth : Int)), some (.int (t : Int)), some (.ref Fc), some (.ref Li'), e6, e7, e8, e9, e10, e11, e12, e13] h') :
    wpSs F E O35 [some v0, some (.int many), some (.int (depth : Int)), some (.int (t : Int)), some (.ref Fc), some (.ref Li), e6, e7, e8, e9, e10, e11, e12, e13] h Z := by
  unfold O35
  rw [wpSs, wpS]
  simp only [wpE, wpEs, wpP]
  refine ⟨by simp, ?_⟩
  rw [wpSs]
  simp only [List.set]
  have hF : Fc < h.length := (List.getElem?_eq_some_iff.mp S.ef).1
  have hLi : Li < h.length := (List.getElem?_eq_some_iff.mp S.el).1
  have hdl := S.dl
  have h3 : cur.length ≤ 9 := Nat.le_trans S.ln (pow3 (by omega))
  have hfs : fs.length ≤ 12 := by
    have := bld_len (ch := chL many) (line := [(([] : HI), rs0)]) hm1 hd rfl
    rw [← S.all_, List.length_append] at this
    omega
  have d2 := S.d2
  refine mid35 C22 C23 ht h0 hm1 S.op S.lr (by omega) (by omega) ⟨pre_at pre_one S.ef, last_at, by omega⟩ (by omega) (pre_at pre_one S.el) (by simp; omega) fun h2 e7 e8 e9 e10 e11 e12 e13 S2 ms2 => ?_
  dsimp only
  rw [wpSs, wpS, wpE]
  simp only [List.getElem?_cons_succ, List.getElem?_cons_zero, Option.join_some, ws_some, wpP, wpSs, List.set]
  refine ⟨by simp, ?_⟩
  have hH := S.ms.len
  refine q _ _ _ _ _ _ _ _ _ _ _ _ ⟨S2.ef, S2.el, S2.d3.symm, ?_, S.op.nxt (chL_ok many), ?_, ?_, ?_, by omega⟩
  · refine (S.ms.trans (MS.pre pre_one)).via ms2 fun i hi => ?_
    simp only [List.mem_cons, List.not_mem_nil, or_false] at hi ⊢
    omega
  · have := S.lr.nxt (f := fun p a => chL many d p.2 a)
    rw [show depth - d = depth - (d + 1) + 1 from by omega]
    exact this
  · rw [nxt_len, show depth - d = depth - (d + 1) + 1 from by omega, Nat.pow_succ]
    exact Nat.mul_le_mul S.ln hm1
  · rw [← S.all_, bld, List.append_assoc]
theorem own_spec {many n depth : Nat} {rs : List Rw} {h : Hm} {Q : VQ} {E : XP} (hn : 20 ≤ n) (hl : rs.length ≤ 12) (hm1 : many ≤ 3) (hd : depth ≤ 2) (hw : WF many rs) (ht : tell many depth rs = false)
    (q : ∀ h', h <+: h' → Q (playD (bld (chL many) many depth [([], rs)])) h') : FW P (n + 2) 35 [rowsD rs, .int many, .int (depth : Int)] h Q E := by
  refine fw_open (d := D35) rfl rfl ?_
  rw [d35_eq]
  have C22 : Ok22 (FW P (n + 1)) many := ok22
  have C23 : Ok23 (FW P (n + 1)) many := ok23 (by omega) (by omega)
  generalize FW P (n + 1) = F at C22 C23 ⊢
  rw [wpSs, wpS]
  simp only [wpE, wpEs, wpP, wpPs, List.map, List.replicate, List.cons_append, List.nil_append, List.getElem?_cons_zero, Option.join_some, ws_some]
  refine ⟨by simp, by simp, ?_⟩
  rw [wpSs, for_wp, wpEs, wpE]
  simp only [List.set, List.getElem?_cons_succ, List.getElem?_cons_zero, Option.join_some, ws_some, wpEs]
  rw [it_range (by omega) (by omega)]
  simp only [ws_some]
  have p1 : h <+: h ++ [Cell.lst []] ++ [.lst [.tup [.tup [], rowsD rs]]] := pre_one.trans pre_one
  have ef : (h ++ [Cell.lst []] ++ [.lst [.tup [.tup [], rowsD rs]]])[h.length]? = some (.lst []) := pre_at pre_one last_at
  have el : (h ++ [Cell.lst []] ++ [.lst [.tup [.tup [], rowsD rs]]])[(h ++ [Cell.lst []]).length]? = some (.lst [.tup [.tup [], rowsD rs]]) := last_at
  have hr : (h ++ [Cell.lst []]).length = h.length + 1 := by simp
  rw [hr] at el ⊢
  generalize h ++ [Cell.lst []] ++ [.lst [.tup [.tup [], rowsD rs]]] = H1 at p1 ef el ⊢
  refine forL_inv (fun l env h' => ∃ (d t Li : Nat) (fs : PR) (cur : Ln) (e3 e6 e7 e8 e9 e10 e11 e12 e13 : Option D), l = (rngD 0 (depth : Int).toNat).drop t ∧ t + d = depth ∧ OW many depth d rs h' H1 h.length Li fs cur ∧ env = [some (rowsD rs), some (.int many), some (.int (depth : Int)), e3, some (.ref h.length), some (.ref Li), e6, e7, e8, e9, e10, e11, e12, e13])
    (fun _ _ _ _ => still_nil) (fun x l env h' R hi k => ?_) (fun env h' hi => ?_) _ _ _
    ⟨depth, 0, h.length + 1, [], [([], rs)], _, _, _, _, _, _, _, _, _, rfl, by omega, ⟨ef, el, by omega, MS.refl _ _, (fun p hp => by rw [List.mem_singleton.mp hp]; exact ht), ⟨(fun p hp => by rw [List.mem_singleton.mp hp]; exact List.Sublist.refl _), (fun p hp => by rw [List.mem_singleton.mp hp]; exact hw), (fun p hp => by rw [List.mem_singleton.mp hp]; simp)⟩, by simp, rfl, Nat.le_refl _⟩, rfl⟩
  · obtain ⟨d, t, Li, fs, cur, e3, e6, e7, e8, e9, e10, e11, e12, e13, hj, htd, S, rfl⟩ := hi
    have hjn : t < (depth : Int).toNat := by
      rcases Nat.lt_or_ge t (depth : Int).toNat with z | z
      · exact z
      · rw [rng_end z] at hj; cases hj
    rw [rng_drop hjn] at hj
    cases hj
    cases d with
    | zero => omega
    | succ d =>
      simp only [wpP, List.set]
      refine ⟨by simp, ?_⟩
      exact body35 C22 C23 (by omega) hl hm1 hd S fun h2 Li' fs' cur' e6 e7 e8 e9 e10 e11 e12 e13 S2 => k _ _ ⟨d, t + 1, Li', fs', cur', _, _, _, _, _, _, _, _, _, rfl, by omega, S2, rfl⟩
  · obtain ⟨d, t, Li, fs, cur, e3, e6, e7, e8, e9, e10, e11, e12, e13, hj, htd, S, rfl⟩ := hi
    have hjn : (depth : Int).toNat ≤ t := by
      rcases Nat.lt_or_ge t (depth : Int).toNat with z | z
      · rw [rng_drop z] at hj; cases hj
      · exact z
    have hd0 : d = 0 := by omega
    subst hd0
    have hall := S.all_
    rw [bld, List.append_nil] at hall
    rw [wpSs, wpS, wpE]
    simp only [wpEs, wpE, List.getElem?_cons_succ, List.getElem?_cons_zero, Option.join_some, ws_some]
    rw [b_tupleL S.ef]
    simp only [ws_some]
    rw [hall]
    exact q h' (ms_pre p1 (fun i hi => by rw [List.mem_singleton.mp hi]; exact Nat.le_refl _) S.ms)
end M47

end
section
set_option Elab.async false
set_option linter.all false
set_option autoImplicit false
/-! the law -/
namespace M47
open M
/-- what the law calls -/
structure LF (F : FnS) (many : Nat) (rs : List Rw) : Prop where
  play : ∀ (d : Nat) (h : Hm) (Q : VQ) (E : XP), d ≤ 2 → (∀ h', h <+: h' → Q (if tell many d rs = true then .non else playD (bld (chF many) many d [([], rs)])) h') → F 30 [rowsD rs, .int many, .int (d : Int)] h Q E
  own : ∀ (d : Nat) (h : Hm) (Q : VQ) (E : XP), d ≤ 2 → tell many d rs = false → (∀ h', h <+: h' → Q (playD (bld (chL many) many d [([], rs)])) h') → F 35 [rowsD rs, .int many, .int (d : Int)] h Q E
  bent : ∀ (v : D) (h : Hm) (a : Nat) (Q : VQ) (E : XP), VA [] 50 4 v → BX h a → (∀ w h', VA h' 101 6 w → BX h' a → MX a h h' → Q w h') → F 20 [.ref a, v] h Q E
  lp : ∀ (d : Nat) (v : D) (h : Hm) (Q : VQ) (E : XP), d ≤ 2 → VA h 101 6 v → (∀ h', h <+: h' → Q (.bl (playV many d rs v)) h') → F 34 [rowsD rs, .int many, .int (d : Int), v] h Q E
  hp : ∀ (d : Nat) (v : D) (h : Hm) (Q : VQ) (E : XP), d ≤ 2 → VA h 101 6 v → (∀ h', h <+: h' → Q (.bl (playV many d rs v)) h') → F 32 [rowsD rs, .int many, .int (d : Int), v] h Q E
  same : ∀ (b : Bool) (h : Hm) (Q : VQ) (E : XP), Q (.bl true) h → F 19 [.bl b, .bl b] h Q E
theorem LF.mk' {n many : Nat} (hn : 60 ≤ n) (hm : many ≤ 3) {rs : List Rw} (hl : rs.length ≤ 12) (hw : WF many rs) : LF (FW P n) many rs := by
  obtain ⟨n, rfl⟩ : ∃ n', n = n' + 5 := ⟨n - 5, by omega⟩
  refine ⟨fun d h Q E hd q => ?_, fun d h Q E hd ht q => ?_, fun v h a Q E va b q => ?_, fun d v h Q E hd va q => ?_, fun d v h Q E hd va q => ?_, fun b h Q E q => ?_⟩
  · exact play_spec (n := n + 2) (by omega) hl hm hd hw q
  · exact own_spec (n := n + 3) (by omega) hl hm hd hw ht q
  · exact bent_ok 4 (n + 5) v h a Q E (by omega) va b q
  · exact lawplay_spec (n := n + 1) hm hd (by omega) hw va q
  · exact holds_spec (n := n) hm hd (by omega) hw va q
  · refine same_bool (n := n + 4) trivial ?_
    have : isBb b (.bl b) = true := by simp [isBb]
    rw [this]
    exact q
def A36 : CE := .or (.cmp .is (.loc 5) (.lit .non)) (.cmp .gt (.loc 5) (.loc 6))
def N36 : CE := .ife (.loc 10) (.bin .add (.lst [(.loc 9), (.call 35 [(.loc 4), (.loc 3), (.loc 6)] [] [0, 1, 2])]) (.comp [11] (.slot 11) .range [(.lit (.int (5)))] [] (.call 20 [(.loc 2), (.loc 9)] [] [0, 1]))) (.lst [])
def C36 : CE := .and (.loc 10) (.or (.not (.call 34 [(.loc 4), (.loc 3), (.loc 6), (.loc 9)] [] [0, 1, 2, 3])) (.cmp .isnt (.call 32 [(.loc 4), (.loc 3), (.loc 6), (.idx (.loc 7) (.lit (.int (1))))] [] [0, 1, 2, 3]) (.lit (.bl true))))
def V36 : List CS := [
  .ite (.not (.call 19 [(.call 32 [(.loc 4), (.loc 3), (.loc 6), (.loc 8)] [] [0, 1, 2, 3]), (.call 34 [(.loc 4), (.loc 3), (.loc 6), (.loc 8)] [] [0, 1, 2, 3])] [] [0, 1])) [
    .ret (.lit (.bl false))] []]
def Y36 : CE := .bin .add (.loc 7) (.lst [(.tup []), (.tup [(.tup [(.tup []), (.lit (.int (0))), (.lit (.int (0)))])]), (.lit .non)])
def W36 : CS := .for_ (.slot 8) .val [Y36] V36
def Z36 : List CS := [
  .asg (.tup [(.slot 9), (.slot 10)]) (.tup [(.call 30 [(.loc 4), (.loc 3), (.loc 6)] [] [0, 1, 2]), A36]),
  .ite (.cmp .ne (.cmp .isnt (.loc 9) (.lit .non)) (.loc 10)) [
    .ret (.lit (.bl false))] [],
  .asg (.slot 7) N36,
  .ite C36 [
    .ret (.lit (.bl false))] [],
  W36]
def B36 : List CS := [
  .asg (.slot 2) (.call 16 [(.loc 0), (.loc 1)] [] [0, 1]),
  .asg (.slot 3) (.bin .add (.lit (.int (1))) (.call 17 [(.loc 2), (.lit (.int (3)))] [] [0, 1])),
  .asg (.slot 4) (.call 26 [(.loc 2), (.loc 3)] [] [0, 1]),
  .asg (.slot 5) (.call 23 [(.loc 4), (.loc 3), (.dct [])] [] [0, 1, 2]),
  .for_ (.slot 6) .range [(.lit (.int (3)))] Z36]
def J36 : CE := .blt .max2 [(.lit (.int (3))), (.blt .min2 [(.blt .len [(.loc 0)]), (.lit (.int (6)))])]
theorem d36_eq : D36 = ⟨1, 12, [.for_ (.slot 1) .range [J36] B36, .ret (.lit (.bl true))]⟩ := rfl
theorem a36 {F : FnS} {E : XP} {many : Nat} {rs : List Rw} {v : Option Int} (nv : NV many rs v) {d : Nat} {h : Hm} {v0 v1 v2 v3 v4 : D} {e7 e8 e9 e10 e11 : Option D} {R : VQ} (q : R (.bl (!tell many d rs)) h) : wpE F E A36 [some v0, some v1, some v2, some v3, some v4, some (ndD v), some (.int (d : Int)), e7, e8, e9, e10, e11] h R := by
  unfold A36
  simp only [wpSs, wpS, wpE, wpEs, wpCs, wpP, wpPs, List.map, List.replicate, List.cons_append, List.nil_append, List.append_nil, List.getElem?_cons_zero, List.getElem?_cons_succ, jn, ws_some, List.length_cons, List.length_nil, List.set, at0, at1, at2, idx_tup, c_gt, c_lt, c_le, c_ge, c_is, c_isnt, c_eqI, c_neI, c_eqS, c_neS, c_eqB, c_neB, isS, isNonD, isBlD, t_bl, b_int, b_abs, b_max2, b_min2, b_lenT, o_add, o_sub, permD, Option.map_some]
  rw [nv.le d] at q
  cases v with
  | none =>
    simp only [ndD, isNonD, t_bl, if_true]
    exact q
  | some i =>
    simp only [ndD, isNonD, Bool.false_eq_true, if_false, wpSs, wpS, wpE, wpEs, wpCs, wpP, wpPs, List.map, List.replicate, List.cons_append, List.nil_append, List.append_nil, List.getElem?_cons_zero, List.getElem?_cons_succ, jn, ws_some, List.length_cons, List.length_nil, List.set, at0, at1, at2, idx_tup, c_gt, c_lt, c_le, c_ge, c_is, c_isnt, c_eqI, c_neI, c_eqS, c_neS, c_eqB, c_neB, isS, isNonD, isBlD, t_bl, b_int, b_abs, b_max2, b_min2, b_lenT, o_add, o_sub, permD, Option.map_some]
    simp only [ndLe] at q
    have : (!decide (i ≤ (d : Int))) = decide ((d : Int) < i) := by
      by_cases c : i ≤ (d : Int)
      · have c' : ¬ (d : Int) < i := by omega
        simp [c, c']
      · have c' : (d : Int) < i := by omega
        simp [c, c']
    rw [this] at q
    exact q
theorem odd_va : ∀ d ∈ [D.tup [], D.tup [.tup [.tup [], .int 0, .int 0]], .non], VA [] 101 6 d := vaBs_ok 6 _ (by decide)
theorem y36 {F : FnS} {E : XP} {h : Hm} {T : Nat} {vs : List D} (eT : h[T]? = some (.lst vs)) (hl : vs.length ≤ 100) (va : ∀ x ∈ vs, VA h 101 6 x) {v0 v1 v2 v3 v4 v5 v6 v9 v10 : D} {e8 e11 : Option D} {R : List D → Hm → Prop}
    (q : ∀ h' U us, h <+: h' → h'[U]? = some (.lst us) → (∀ x ∈ us, VA h' 101 6 x) → R [.ref U] h') : wpEs F E [Y36] [some v0, some v1, some v2, some v3, some v4, some v5, some v6, some (.ref T), e8, some v9, some v10, e11] h R := by
  unfold Y36
  simp only [wpSs, wpS, wpE, wpEs, wpCs, wpP, wpPs, List.map, List.replicate, List.cons_append, List.nil_append, List.append_nil, List.getElem?_cons_zero, List.getElem?_cons_succ, jn, ws_some, List.length_cons, List.length_nil, List.set, at0, at1, at2, idx_tup, c_gt, c_lt, c_le, c_ge, c_is, c_isnt, c_eqI, c_neI, c_eqS, c_neS, c_eqB, c_neB, isS, isNonD, isBlD, t_bl, b_int, b_abs, b_max2, b_min2, b_lenT, o_add, o_sub, permD, Option.map_some]
  rw [o_addL (pre_at pre_one eT) last_at (by simp; omega)]
  simp only [ws_some]
  refine q _ _ _ (pre_one.trans pre_one) last_at fun x hx => ?_
  rcases List.mem_append.mp hx with hx | hx
  · exact (va x hx).up (pre_one.trans pre_one)
  · exact (odd_va x hx).nil (Nat.le_refl _) (Nat.le_refl _)
theorem w36 {F : FnS} {E : XP} {many : Nat} {rs : List Rw} (C : LF F many rs) {d : Nat} (hd : d ≤ 2) {h : Hm} {T : Nat} {vs : List D} (eT : h[T]? = some (.lst vs)) (hl : vs.length ≤ 100) (va : ∀ x ∈ vs, VA h 101 6 x) {v0 v1 v2 v5 v9 v10 : D} {e8 e11 : Option D} {Z : Ends}
    (q : ∀ h' e8, h <+: h' → Z.nx [some v0, some v1, some v2, some (.int many), some (rowsD rs), some v5, some (.int (d : Int)), some (.ref T), e8, some v9, some v10, e11] h') :
    wpS F E W36 [some v0, some v1, some v2, some (.int many), some (rowsD rs), some v5, some (.int (d : Int)), some (.ref T), e8, some v9, some v10, e11] h Z := by
  unfold W36
  rw [for_wp]
  refine y36 eT hl va fun h1 U us p1 eU vu => ?_
  rw [it_lst eU]
  simp only [ws_some]
  refine forL_inv (fun l env h' => ∃ e8, env = [some v0, some v1, some v2, some (.int many), some (rowsD rs), some v5, some (.int (d : Int)), some (.ref T), e8, some v9, some v10, e11] ∧ h1 <+: h' ∧ ∀ x ∈ l, VA h' 101 6 x)
    (fun _ _ _ ⟨_, _, p, _⟩ => still_one (pre_at p eU)) (fun x l env h' R hi k => ?_) (fun env h' hi => ?_) _ _ _ ⟨_, rfl, List.prefix_refl _, vu⟩
  · obtain ⟨e8, rfl, p, vl⟩ := hi
    have vx := vl x List.mem_cons_self
    unfold V36
    simp only [wpSs, wpS, wpE, wpEs, wpCs, wpP, wpPs, List.map, List.replicate, List.cons_append, List.nil_append, List.append_nil, List.getElem?_cons_zero, List.getElem?_cons_succ, jn, ws_some, List.length_cons, List.length_nil, List.set, at0, at1, at2, idx_tup, c_gt, c_lt, c_le, c_ge, c_is, c_isnt, c_eqI, c_neI, c_eqS, c_neS, c_eqB, c_neB, isS, isNonD, isBlD, t_bl, b_int, b_abs, b_max2, b_min2, b_lenT, o_add, o_sub, permD, Option.map_some]
    refine ⟨by simp, ?_⟩
    refine C.hp d x h' _ _ hd vx fun h2 p2 => ?_
    refine C.lp d x h2 _ _ hd (vx.up p2) fun h3 p3 => ?_
    refine C.same _ _ _ _ ?_
    simp only [ws_some, t_bl, Bool.not_true, Bool.false_eq_true, if_false]
    exact k _ _ ⟨_, rfl, p.trans (p2.trans p3), fun y hy => (vl y (List.mem_cons_of_mem _ hy)).up (p2.trans p3)⟩
  · obtain ⟨e8, rfl, p, vl⟩ := hi
    exact q h' _ (p1.trans p)
theorem n36 {F : FnS} {E : XP} {many : Nat} {rs : List Rw} (C : LF F many rs) {d : Nat} (hd : d ≤ 2) (hm : many ≤ 3) (ht : tell many d rs = false) {c : Cell} {h : Hm} {a : Nat} (h0 : h[0]? = some c) (ha : 0 ≠ a) (bx : BX h a) {v1 v5 : D} {e7 e8 e11 : Option D} {R : VQ}
    (q : ∀ h' T us, h'[0]? = some c → BX h' a → h'[T]? = some (.lst (playD (bld (chF many) many d [([], rs)]) :: playD (bld (chL many) many d [([], rs)]) :: us)) → us.length ≤ 5 → (∀ x ∈ us, VA h' 101 6 x) → R (.ref T) h') :
    wpE F E N36 [some (.ref 0), some v1, some (.ref a), some (.int many), some (rowsD rs), some v5, some (.int (d : Int)), e7, e8, some (playD (bld (chF many) many d [([], rs)])), some (.bl true), e11] h R := by
  unfold N36
  simp only [wpSs, wpS, wpE, wpEs, wpCs, wpP, wpPs, List.map, List.replicate, List.cons_append, List.nil_append, List.append_nil, List.getElem?_cons_zero, List.getElem?_cons_succ, jn, ws_some, List.length_cons, List.length_nil, List.set, at0, at1, at2, idx_tup, c_gt, c_lt, c_le, c_ge, c_is, c_isnt, c_eqI, c_neI, c_eqS, c_neS, c_eqB, c_neB, isS, isNonD, isBlD, t_bl, b_int, b_abs, b_max2, b_min2, b_lenT, o_add, o_sub, permD, Option.map_some, if_true]
  refine C.own d h _ _ hd ht fun h1 p1 => ?_
  have hva : VA [] 50 4 (playD (bld (chF many) many d [([], rs)])) := bld_va hm hd
  generalize playD (bld (chF many) many d [([], rs)]) = f at hva q ⊢
  generalize playD (bld (chL many) many d [([], rs)]) = g at q ⊢
  have h01 := pre_at p1 h0
  have bx1 := bx.pre p1
  have eA : (h1 ++ [Cell.lst [f, g]])[h1.length]? = some (.lst [f, g]) := last_at
  have h02 := pre_at (pre_one (c := .lst [f, g])) h01
  have bx2 := bx1.pre (pre_one (c := .lst [f, g]))
  have hal := bx1.lt
  have hlA : (h1 ++ [Cell.lst [f, g]]).length = h1.length + 1 := by simp
  generalize h1 ++ [Cell.lst [f, g]] = h2 at eA h02 bx2 hlA ⊢
  rw [it_range (by omega) (by omega)]
  simp only [ws_some]
  refine comp_inv (fun l acc hh => ∃ (j : Nat), l = (rngD 0 (5 : Int).toNat).drop j ∧ acc.length = j ∧ j ≤ 5 ∧ (∀ t ∈ acc, VA hh 101 6 t) ∧ hh[0]? = some c ∧ BX hh a ∧ hh[h1.length]? = some (.lst [f, g]) ∧ hh[h2.length]? = some (.lst acc))
    (fun _ _ _ _ => still_nil) (fun y l' acc hh R' hi k1 k2 => ?_) (fun vs h9 hi => ?_) _ _ _ ⟨0, rfl, rfl, by omega, (fun t ht => absurd ht List.not_mem_nil), pre_at pre_one h02, bx2.pre pre_one, pre_at pre_one eA, last_at⟩
  · obtain ⟨j, hj, il, im, va, hh0, bxa, eAa, ea⟩ := hi
    have hin : j < (5 : Int).toNat := by
      rcases Nat.lt_or_ge j (5 : Int).toNat with z | z
      · exact z
      · rw [rng_end z] at hj; cases hj
    rw [rng_drop hin] at hj
    cases hj
    simp only [wpSs, wpS, wpE, wpEs, wpCs, wpP, wpPs, List.map, List.replicate, List.cons_append, List.nil_append, List.append_nil, List.getElem?_cons_zero, List.getElem?_cons_succ, jn, ws_some, List.length_cons, List.length_nil, List.set, at0, at1, at2, idx_tup, c_gt, c_lt, c_le, c_ge, c_is, c_isnt, c_eqI, c_neI, c_eqS, c_neS, c_eqB, c_neB, isS, isNonD, isBlD, t_bl, b_int, b_abs, b_max2, b_min2, b_lenT, o_add, o_sub, permD, Option.map_some, wipeE]
    refine ⟨by simp, ?_⟩
    rw [hlA] at ea k1
    refine C.bent f hh a _ _ hva bxa fun w h10 wv b10 m10 => ?_
    have e10 := m10.cell ea (show h1.length + 1 ≠ a by omega)
    refine k1 _ h10 e10 (by unfold LIM; omega) ⟨j + 1, rfl, by simp [il], by omega, fun t ht => ?_, ?_, b10.set (by omega) _, ?_, ?_⟩
    · refine VA.mono (Nat.le_refl _) okR_setL 6 6 t (Nat.le_refl _) ?_
      rcases List.mem_append.mp ht with ht | ht
      · exact VA.mono (Nat.le_refl _) (okR_mx b10 m10) 6 6 t (Nat.le_refl _) (va t ht)
      · rw [List.mem_singleton.mp ht]; exact wv
    · rw [List.getElem?_set_ne (by omega)]; exact m10.cell hh0 ha
    · rw [List.getElem?_set_ne (by omega)]; exact m10.cell eAa (by omega)
    · exact set_at e10
  · obtain ⟨j9, hj9, il9, im9, va9, h09, bx9, eA9, e9'⟩ := hi
    rw [o_addL eA9 e9' (by simp; omega)]
    simp only [ws_some]
    refine q _ _ vs (pre_at pre_one h09) (bx9.pre pre_one) last_at (by omega) fun x hx => (va9 x hx).up pre_one
theorem c36 {F : FnS} {E : XP} {many : Nat} {rs : List Rw} (C : LF F many rs) {d : Nat} (hd : d ≤ 2) (hm : many ≤ 3) (lo : LO rs) (ht : tell many d rs = false) {h : Hm} {T : Nat} {us : List D} (eT : h[T]? = some (.lst (playD (bld (chF many) many d [([], rs)]) :: playD (bld (chL many) many d [([], rs)]) :: us))) {v0 v1 v2 v5 : D} {e8 e11 : Option D} {R : VQ}
    (q : ∀ h', h <+: h' → R (.bl false) h') :
    wpE F E C36 [some v0, some v1, some v2, some (.int many), some (rowsD rs), some v5, some (.int (d : Int)), some (.ref T), e8, some (playD (bld (chF many) many d [([], rs)])), some (.bl true), e11] h R := by
  unfold C36
  simp only [wpSs, wpS, wpE, wpEs, wpCs, wpP, wpPs, List.map, List.replicate, List.cons_append, List.nil_append, List.append_nil, List.getElem?_cons_zero, List.getElem?_cons_succ, jn, ws_some, List.length_cons, List.length_nil, List.set, at0, at1, at2, idx_tup, c_gt, c_lt, c_le, c_ge, c_is, c_isnt, c_eqI, c_neI, c_eqS, c_neS, c_eqB, c_neB, isS, isNonD, isBlD, t_bl, b_int, b_abs, b_max2, b_min2, b_lenT, o_add, o_sub, permD, Option.map_some, if_true]
  have vf : VA h 101 6 (playD (bld (chF many) many d [([], rs)])) := (bld_va hm hd).nil (by omega) (by omega)
  have vl : VA [] 50 4 (playD (bld (chL many) many d [([], rs)])) := bld_va hm hd
  have pf := bld_playV (chF_ok many) lo ht
  have pl := bld_playV (chL_ok many) lo ht
  generalize playD (bld (chF many) many d [([], rs)]) = f at vf pf eT ⊢
  generalize playD (bld (chL many) many d [([], rs)]) = g at vl pl eT ⊢
  refine C.lp d f h _ _ hd vf fun h1 p1 => ?_
  rw [pf]
  simp only [ws_some, t_bl, Bool.not_true, Bool.false_eq_true, if_false]
  rw [idx_lst (pre_at p1 eT), at1]
  simp only [ws_some]
  refine C.hp d g h1 _ _ hd (vl.nil (by omega) (by omega)) fun h2 p2 => ?_
  rw [pl]
  exact q h2 (p1.trans p2)
theorem z36 {F : FnS} {E : XP} {many : Nat} {rs : List Rw} (C : LF F many rs) {d : Nat} (hd : d ≤ 2) (hm : many ≤ 3) (lo : LO rs) {v : Option Int} (nv : NV many rs v) {c : Cell} {h : Hm} {a : Nat} (h0 : h[0]? = some c) (ha : 0 ≠ a) (bx : BX h a) {v1 : D} {e7 e8 e9 e10 e11 : Option D} {Z : Ends}
    (q : ∀ h' e7 e8 e9 e10 e11, h'[0]? = some c → BX h' a → Z.nx [some (.ref 0), some v1, some (.ref a), some (.int many), some (rowsD rs), some (ndD v), some (.int (d : Int)), e7, e8, e9, e10, e11] h') :
    wpSs F E Z36 [some (.ref 0), some v1, some (.ref a), some (.int many), some (rowsD rs), some (ndD v), some (.int (d : Int)), e7, e8, e9, e10, e11] h Z := by
  unfold Z36
  rw [wpSs, wpS]
  simp only [wpE, wpEs, List.getElem?_cons_succ, List.getElem?_cons_zero, Option.join_some, ws_some, permD, List.append_nil]
  refine C.play d h _ _ hd fun h1 p1 => ?_
  refine a36 nv ?_
  have h01 := pre_at p1 h0
  have bx1 := bx.pre p1
  cases ht : tell many d rs with
  | true =>
    simp only [if_true, wpP, wpPs, List.set, Bool.not_true]
    refine ⟨by simp, by simp, ?_⟩
    rw [wpSs, wpS]
    simp only [wpSs, wpS, wpE, wpEs, wpCs, wpP, wpPs, List.map, List.replicate, List.cons_append, List.nil_append, List.append_nil, List.getElem?_cons_zero, List.getElem?_cons_succ, jn, ws_some, List.length_cons, List.length_nil, List.set, at0, at1, at2, idx_tup, c_gt, c_lt, c_le, c_ge, c_is, c_isnt, c_eqI, c_neI, c_eqS, c_neS, c_eqB, c_neB, isS, isNonD, isBlD, t_bl, b_int, b_abs, b_max2, b_min2, b_lenT, o_add, o_sub, permD, Option.map_some]
    simp only [BEq.rfl, Bool.not_true, Bool.false_eq_true, if_false]
    unfold N36
    simp only [wpSs, wpS, wpE, wpEs, wpCs, wpP, wpPs, List.map, List.replicate, List.cons_append, List.nil_append, List.append_nil, List.getElem?_cons_zero, List.getElem?_cons_succ, jn, ws_some, List.length_cons, List.length_nil, List.set, at0, at1, at2, idx_tup, c_gt, c_lt, c_le, c_ge, c_is, c_isnt, c_eqI, c_neI, c_eqS, c_neS, c_eqB, c_neB, isS, isNonD, isBlD, t_bl, b_int, b_abs, b_max2, b_min2, b_lenT, o_add, o_sub, permD, Option.map_some, Bool.false_eq_true, if_false]
    refine ⟨by simp, ?_⟩
    unfold C36
    simp only [wpSs, wpS, wpE, wpEs, wpCs, wpP, wpPs, List.map, List.replicate, List.cons_append, List.nil_append, List.append_nil, List.getElem?_cons_zero, List.getElem?_cons_succ, jn, ws_some, List.length_cons, List.length_nil, List.set, at0, at1, at2, idx_tup, c_gt, c_lt, c_le, c_ge, c_is, c_isnt, c_eqI, c_neI, c_eqS, c_neS, c_eqB, c_neB, isS, isNonD, isBlD, t_bl, b_int, b_abs, b_max2, b_min2, b_lenT, o_add, o_sub, permD, Option.map_some, Bool.false_eq_true, if_false]
    exact w36 C hd (vs := []) last_at (by simp) (fun _ h => nomatch h) fun h2 e8 p2 => q h2 _ _ _ _ _ (pre_at (pre_one.trans p2) h01) (bx1.pre (pre_one.trans p2))
  | false =>
    simp only [Bool.false_eq_true, if_false, wpP, wpPs, List.set, Bool.not_false]
    refine ⟨by simp, by simp, ?_⟩
    rw [wpSs, wpS]
    have hne : ∀ V, isS (playD V) .non = some false := fun V => rfl
    simp only [wpE, wpEs, List.getElem?_cons_succ, List.getElem?_cons_zero, Option.join_some, ws_some, c_isnt, hne, Option.map_some, c_neB, t_bl]
    simp only [Bool.not_false, BEq.rfl, Bool.not_true, Bool.false_eq_true, if_false]
    rw [wpSs]
    dsimp only
    rw [wpSs, wpS]
    refine n36 C hd hm ht h01 ha bx1 fun h2 T us h02 bx2 eT ul vu => ?_
    simp only [wpP, List.set]
    refine ⟨by simp, ?_⟩
    rw [wpSs, wpS]
    refine c36 C hd hm lo ht eT fun h3 p3 => ?_
    simp only [ws_some, t_bl, Bool.false_eq_true, if_false]
    rw [wpSs]
    dsimp only
    rw [wpSs]
    refine w36 C hd (pre_at p3 eT) (by simp; omega) (fun x hx => ?_) fun h4 e8 p4 => ?_
    · rcases List.mem_cons.mp hx with rfl | hx
      · exact (bld_va hm hd).nil (by omega) (by omega)
      · rcases List.mem_cons.mp hx with rfl | hx
        · exact (bld_va hm hd).nil (by omega) (by omega)
        · exact (vu x hx).up p3
    · dsimp only
      rw [wpSs]
      exact q h4 _ _ _ _ _ (pre_at (p3.trans p4) h02) (bx2.pre (p3.trans p4))
theorem b36 {n : Nat} (hn : 70 ≤ n) {E : XP} {c : Cell} {ns : List Int} (hc : c = .lst (ns.map D.int) ∨ c = .ro (ns.map D.int)) {h : Hm} (h0 : h[0]? = some c) {i : Int} (i0 : 0 ≤ i) {e2 e3 e4 e5 e6 e7 e8 e9 e10 e11 : Option D} {Z : Ends}
    (q : ∀ h' e2 e3 e4 e5 e6 e7 e8 e9 e10 e11, h'[0]? = some c → Z.nx [some (.ref 0), some (.int i), e2, e3, e4, e5, e6, e7, e8, e9, e10, e11] h') :
    wpSs (FW P n) E B36 [some (.ref 0), some (.int i), e2, e3, e4, e5, e6, e7, e8, e9, e10, e11] h Z := by
  obtain ⟨n, rfl⟩ : ∃ n', n = n' + 2 := ⟨n - 2, by omega⟩
  have hlen0 : 0 < h.length := (List.getElem?_eq_some_iff.mp h0).1
  unfold B36
  rw [wpSs, wpS]
  simp only [wpE, wpEs, List.getElem?_cons_succ, List.getElem?_cons_zero, Option.join_some, ws_some, permD, List.append_nil]
  refine box_spec (n := n + 1) h0 hc i0 fun b0 b1 => ?_
  simp only [wpP, List.set]
  refine ⟨by simp, ?_⟩
  have bx : BX (h ++ [.lst [.int b0, .int b1]]) h.length := ⟨b0, b1, last_at⟩
  have h0' := pre_at (pre_one (c := .lst [.int b0, .int b1])) h0
  generalize h ++ [Cell.lst [D.int b0, D.int b1]] = h1 at bx h0'
  generalize ha : h.length = a at bx
  have ha0 : 0 ≠ a := by omega
  rw [wpSs, wpS]
  simp only [wpE, wpEs, List.getElem?_cons_succ, List.getElem?_cons_zero, Option.join_some, ws_some, permD, List.append_nil, List.cons_append, List.nil_append]
  refine take_bx (n := n + 1) bx (by omega) (by omega) fun d h2 d0 d1 bx2 mx2 => ?_
  have h02 := mx2.cell h0' ha0
  rw [o_add]
  simp only [ws_some, wpP, List.set]
  refine ⟨by simp, ?_⟩
  obtain ⟨many, hmany⟩ : ∃ m : Nat, (m : Int) = 1 + d := ⟨(1 + d).toNat, by omega⟩
  rw [← hmany]
  rw [wpSs, wpS]
  simp only [wpE, wpEs, List.getElem?_cons_succ, List.getElem?_cons_zero, Option.join_some, ws_some, permD, List.append_nil, List.cons_append, List.nil_append]
  refine rows_spec (n := n) (by omega) (by omega) bx2 fun rs h3 ok hne hl bx3 mx3 => ?_
  have h03 := mx3.cell h02 ha0
  obtain ⟨wf, lo⟩ := ok
  simp only [wpP, List.set]
  refine ⟨by simp, ?_⟩
  rw [wpSs, wpS]
  simp only [wpE, wpEs, List.getElem?_cons_succ, List.getElem?_cons_zero, Option.join_some, ws_some, permD, List.append_nil, List.cons_append, List.nil_append, evens, mergeK]
  have hal3 := bx3.lt
  refine needs_spec (rs0 := rs) (by omega) (n + 2) rs _ h3.length _ _ (by omega) (List.Sublist.refl _) wf NM.new (by omega) fun v h4 mx4 _ nv => ?_
  have h04 := mx4.cell (pre_at pre_one h03) (show 0 ≠ h3.length by omega)
  have bx4 := (bx3.pre pre_one).mx mx4 (show a ≠ h3.length by omega)
  simp only [wpP, List.set]
  refine ⟨by simp, ?_⟩
  have C : LF (FW P (n + 2)) many rs := LF.mk' (by omega) (by omega) (by omega) wf
  have hm3 : many ≤ 3 := by omega
  generalize FW P (n + 2) = F at C ⊢
  clear mx2 mx3 mx4 bx bx2 bx3 h0' h02 h03
  rw [wpSs, for_wp, wpEs, wpE]
  simp only [wpEs]
  rw [it_range (by omega) (by omega)]
  simp only [ws_some]
  refine forL_inv (fun l env h' => ∃ e6 e7 e8 e9 e10 e11, env = [some (.ref 0), some (.int i), some (.ref a), some (.int (many : Int)), some (rowsD rs), some (ndD v), e6, e7, e8, e9, e10, e11] ∧ h'[0]? = some c ∧ BX h' a ∧ ∀ x ∈ l, ∃ d : Nat, d ≤ 2 ∧ x = .int (d : Int))
    (fun _ _ _ _ => still_nil) (fun x l env h' R hi kk => ?_) (fun env h' hi => ?_) _ _ _ ⟨_, _, _, _, _, _, rfl, h04, bx4, fun x hx => ?_⟩
  · obtain ⟨e6, e7, e8, e9, e10, e11, rfl, hh0, bxh, hx⟩ := hi
    obtain ⟨d, hd, rfl⟩ := hx x List.mem_cons_self
    simp only [wpP, List.set]
    refine ⟨by simp, ?_⟩
    exact z36 C hd hm3 lo nv hh0 ha0 bxh fun h5 e7 e8 e9 e10 e11 h05 bx5 => kk _ _ ⟨_, _, _, _, _, _, rfl, h05, bx5, fun y hy => hx y (List.mem_cons_of_mem _ hy)⟩
  · obtain ⟨e6, e7, e8, e9, e10, e11, rfl, hh0, bxh, hx⟩ := hi
    rw [wpSs]
    exact q h' _ _ _ _ _ _ _ _ _ _ hh0
  · have : (3 : Int).toNat = 3 := rfl
    rw [this] at hx
    unfold rngD at hx
    obtain ⟨i, hi, rfl⟩ := List.mem_map.mp hx
    have := List.mem_range.mp hi
    exact ⟨i, by omega, by rw [Int.zero_add]⟩
theorem j36 {F : FnS} {E : XP} {c : Cell} {ns : List Int} (hc : c = .lst (ns.map D.int) ∨ c = .ro (ns.map D.int)) {l : Env} {R : List D → Hm → Prop} (q : ∀ t : Int, 0 ≤ t → t ≤ 6 → R [.int t] [c]) : wpEs F E [J36] (some (.ref 0) :: l) [c] R := by
  unfold J36
  simp only [wpSs, wpS, wpE, wpEs, wpCs, wpP, wpPs, List.map, List.replicate, List.cons_append, List.nil_append, List.append_nil, List.getElem?_cons_zero, List.getElem?_cons_succ, jn, ws_some, List.length_cons, List.length_nil, List.set, at0, at1, at2, idx_tup, c_gt, c_lt, c_le, c_ge, c_is, c_isnt, c_eqI, c_neI, c_eqS, c_neS, c_eqB, c_neB, isS, isNonD, isBlD, t_bl, b_int, b_abs, b_max2, b_min2, b_lenT, o_add, o_sub, permD, Option.map_some]
  rw [b_lenC (h := [c]) (a := 0) rfl hc]
  simp only [wpSs, wpS, wpE, wpEs, wpCs, wpP, wpPs, List.map, List.replicate, List.cons_append, List.nil_append, List.append_nil, List.getElem?_cons_zero, List.getElem?_cons_succ, jn, ws_some, List.length_cons, List.length_nil, List.set, at0, at1, at2, idx_tup, c_gt, c_lt, c_le, c_ge, c_is, c_isnt, c_eqI, c_neI, c_eqS, c_neS, c_eqB, c_neB, isS, isNonD, isBlD, t_bl, b_int, b_abs, b_max2, b_min2, b_lenT, o_add, o_sub, permD, Option.map_some]
  have hr : ∃ t : Int, (if (if (6 : Int) < ((ns.map D.int).length : Int) then (6 : Int) else ((ns.map D.int).length : Int)) > 3 then (if (6 : Int) < ((ns.map D.int).length : Int) then (6 : Int) else ((ns.map D.int).length : Int)) else 3) = t ∧ 0 ≤ t ∧ t ≤ 6 := by
    refine ⟨_, rfl, ?_, ?_⟩
    · split <;> (try split) <;> omega
    · split <;> (try split) <;> omega
  obtain ⟨t, ht, t0, t7⟩ := hr
  rw [ht]
  exact q t t0 t7
theorem law_ok {c : Cell} {ns : List Int} (hc : c = .lst (ns.map D.int) ∨ c = .ro (ns.map D.int)) (hns : ns.length ≤ 63) {Q : VQ} {E : XP} (q : ∀ h', Q (.bl true) h') : FW P 100 36 [.ref 0] [c] Q E := by
  refine fw_open (n := 99) (d := D36) rfl rfl ?_
  have hB := @b36 99 (by omega) E c ns hc
  rw [d36_eq]
  generalize FW P 99 = F at hB ⊢
  simp only [List.map, List.replicate]
  rw [wpSs, for_wp]
  refine j36 hc fun t t0 t6 => ?_
  rw [it_range (by omega) (by omega)]
  simp only [ws_some]
  refine forL_inv (fun l env h' => ∃ e1 e2 e3 e4 e5 e6 e7 e8 e9 e10 e11 : Option D, env = [some (.ref 0), e1, e2, e3, e4, e5, e6, e7, e8, e9, e10, e11] ∧ h'[0]? = some c ∧ ∀ x ∈ l, ∃ i : Int, 0 ≤ i ∧ x = .int i)
    (fun _ _ _ _ => still_nil) (fun x l env h' R hi kk => ?_) (fun env h' hi => ?_) _ _ _ ⟨none, none, none, none, none, none, none, none, none, none, none, rfl, rfl, fun x hx => ?_⟩
  · obtain ⟨e1, e2, e3, e4, e5, e6, e7, e8, e9, e10, e11, rfl, h0, hx⟩ := hi
    obtain ⟨i, i0, rfl⟩ := hx x List.mem_cons_self
    simp only [wpP, List.set]
    refine ⟨by simp, ?_⟩
    exact hB h0 i0 fun h5 e2 e3 e4 e5 e6 e7 e8 e9 e10 e11 h05 => kk _ _ ⟨_, _, _, _, _, _, _, _, _, _, _, rfl, h05, fun y hy => hx y (List.mem_cons_of_mem _ hy)⟩
  · rw [wpSs, wpS, wpE]
    exact q h'
  · unfold rngD at hx
    obtain ⟨i, _, rfl⟩ := List.mem_map.mp hx
    exact ⟨_, by omega, rfl⟩
end M47

end
section
set_option Elab.async false
set_option linter.all false
set_option maxRecDepth 100000
set_option maxHeartbeats 0
namespace M47
open M PySem
def ids : List (PySem.Str × Nat × List PySem.Str) := [
  (S "is_int", 1, [S "value"]),
  (S "is_number", 2, [S "value", S "least", S "most"]),
  (S "is_tuple", 3, [S "value", S "many"]),
  (S "answers_in", 4, [S "rows", S "told", S "answer"]),
  (S "parted", 5, [S "rows", S "ask", S "some", S "here", S "told", S "answer", S "row"]),
  (S "can_tell", 7, [S "rows", S "many", S "depth", S "met"]),
  (S "telling_ask", 8, [S "rows", S "many", S "depth", S "met", S "ask", S "parts", S "told", S "part"]),
  (S "open_part", 29, [S "rows", S "many", S "depth", S "ask", S "met", S "told", S "part"]),
  (S "play_of", 30, [S "rows", S "many", S "depth", S "line", S "left", S "met", S "found", S "later", S "history", S "part", S "ask", S "told", S "behind"]),
  (S "is_asked", 31, [S "many", S "value"]),
  (S "play_holds", 32, [S "rows", S "many", S "depth", S "value", S "turn", S "told", S "line", S "later", S "history", S "part", S "ask", S "row", S "here", S "one"]),
  (S "_law_box", 16, [S "script", S "k", S "cell", S "great"]),
  (S "_law_take", 17, [S "box", S "many", S "raw", S "digit"]),
  (S "_law_pick", 18, [S "box", S "some"]),
  (S "_law_same", 19, [S "told", S "due", S "one", S "other"]),
  (S "_law_bent", 20, [S "box", S "value", S "odd", S "spot", S "way"]),
  (S "_law_is_number", 21, [S "value", S "most"]),
  (S "_law_parts", 22, [S "rows", S "look", S "here", S "row"]),
  (S "_law_needs", 23, [S "rows", S "many", S "met", S "found", S "look", S "parts", S "needs", S "row", S "told", S "part"]),
  (S "_law_any_rows", 26, [S "box", S "many", S "found", S "turn", S "ask"]),
  (S "_law_is_pair", 33, [S "many", S "value"]),
  (S "_law_is_play", 34, [S "rows", S "many", S "depth", S "value", S "row", S "line", S "turn", S "later", S "history", S "part", S "ask", S "some", S "one"]),
  (S "_law_own_play", 35, [S "rows", S "many", S "depth", S "left", S "found", S "line", S "later", S "history", S "part", S "ask", S "some", S "told", S "behind_now", S "needs"]),
  (S "law", 36, [S "script", S "k", S "box", S "many", S "rows", S "needs", S "depth", S "values", S "value", S "told", S "is_few", S "turn"])]
def csts : List (PySem.Str × D) := []
abbrev R : PySem.W.OpenRow := PySem.W.OpenLaw.row PySem.Challenge.rw_strangewords_k47_whole_the_answerer_of_a
abbrev body : List PySem.Stmt := PySem.Challenge.pw_strangewords_k47_whole_the_answerer_of_a.main.body
abbrev tab : List Row := tabOf ids body
abbrev fa : List He.Fa := faOf tab
abbrev fn : List He.DefD := fnOfTab tab
abbrev hk : PySem.W.Hook := hookM 4 fa csts fn
def ob (s : PySem.W.SharedT) : He.AlD := obsMG 4 fa csts fn (HandSHeadRun.getT s)
theorem ob_eq (s : PySem.W.SharedT) : ob s = hk.obs s.abs := obsMG_eq (HandSHeadRun.getT_eq s)
theorem tabB : tab.all rowB = true := by kernel_rfl
abbrev loose : List PySem.Str := [S "is_int", S "is_number", S "is_tuple", S "answers_in", S "parted", S "can_tell", S "telling_ask", S "open_part", S "play_of", S "is_asked", S "play_holds", S "_law_box", S "_law_take", S "_law_pick", S "_law_same", S "_law_bent", S "_law_is_number", S "_law_parts", S "_law_needs", S "_law_any_rows", S "_law_is_pair", S "_law_is_play", S "_law_own_play"]
theorem run (w : PySem.World) : HandSHeadRun.RunEq R (PySem.W.view R.prog [27]) hk ob 4000 loose w := by
  intro os
  kernel_rfl
theorem allC : (tab.all fun r => (r.def_ (gmOf tab csts)).isSome) = true := by kernel_rfl
theorem idsN : (tab.map fun r => r.fi.id).Nodup := by decide +kernel
theorem P_eq : progOf tab (gmOf tab csts) = P := by kernel_rfl
theorem P_ok : ∀ r ∈ tab, ∃ d, r.def_ (gmOf tab csts) = some d ∧ P.lookup r.fi.id = some d := by rw [← P_eq]; exact prog_ok allC idsN
def rLaw : Row := (tab[23]?).getD noRow
end M47
open PySem PySem.W PySem.Calls PyProof.Rows
set_option maxRecDepth 100000 in
set_option maxHeartbeats 0 in
theorem PySem.Challenge.cw_strangewords_k47_whole_the_answerer_of_a_holds : PySem.Challenge.rw_strangewords_k47_whole_the_answerer_of_a.Holds := by
  w_on; o_law
  refine HandSHeadRun.head_any (r := OpenLaw.row PySem.Challenge.rw_strangewords_k47_whole_the_answerer_of_a) (q := view (OpenLaw.row PySem.Challenge.rw_strangewords_k47_whole_the_answerer_of_a).prog [27]) (H := M47.hk) (ob := M47.ob) (M := 4000) (loose := M47.loose) (d := HandSHeadRun.topDef (OpenLaw.row PySem.Challenge.rw_strangewords_k47_whole_the_answerer_of_a).prog 27) (kwd := []) M47.ob_eq
    (by kernel_rfl) (fun s => by kernel_rfl) M47.run (by kernel_rfl) (by kernel_rfl) (by kernel_rfl) (by rfl) (by first | assumption | decide +kernel) (by decide +kernel) ⟨rfl, rfl, rfl, rfl, rfl, by decide +kernel⟩ ?hw ?hc
  case hw => w_witness2
  case hc =>
    refine L2.walk_ofE (l := PySem.Challenge.rw_strangewords_k47_whole_the_answerer_of_a) (n := 63) (k := 100) (x := "script") (CX := M.CXN) rfl (by decide) (by kernel_rfl) ⟨rfl, by decide, by decide⟩ ?F (fun _ _ _ _ z => z)
    intro w mg fa h Y G hmg0
    obtain ⟨K, KX, c⟩ := Y
    have hmg : mg ("law" : PySem.Str) = some (.ref fa) := by
      have e : (HandSHeadRun.topDef (OpenLaw.row PySem.Challenge.rw_strangewords_k47_whole_the_answerer_of_a).prog 27).name = ("law" : PySem.Str) := by kernel_rfl
      rw [← e]
      exact hmg0
    exact M.law_end (tab := M47.tab) (cs := M47.csts) (Pm := M47.P) (r := M47.rLaw) 100 KX G hmg c M47.tabB M47.P_ok (i := 23) (by kernel_rfl) (by kernel_rfl) (by kernel_rfl) (by kernel_rfl) (by kernel_rfl) fun c ns hc hl => M47.law_ok hc hl fun _ => rfl

end
