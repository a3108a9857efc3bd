import PyProof.Rows.All
import Wide.All
import OpenK.AllK
import Wide.FinOn
import HandS.ForMost
import HandS.Exc
import HandS.Conv
import HandS.Zip
import HandS.Style
import HandS.Flow
import HandS.IsInst
import HandS.Deep
import HandS.Defaults
import HandS.TupAny
import HandS.TupMul
import HandS.Rev
import KE.KDictKeyed
import KE.SortData
import HandS.SetKeys
import HandS.More
import KE.GoesZip
import HandS.Zip0
import HandS.DictComp
import HandS.Ends
import HandS.Words
import HandS.WordsExc
import HandS.Head0
import HandS.Head1
import HandS.Head2
import HandS.HeadEnd
import HandS.HeadHook1
import HandS.HeadHook2
import HandS.HeadHook4
import PySem.Challenge.RW_strangewords_k67_who_judges_open
section
set_option linter.all false
set_option autoImplicit false
/-! mini: a small language over data, its meaning by weakest preconditions -/
namespace M

inductive D where
  | non
  | bl (b : Bool)
  | int (i : Int)
  | str (s : List Nat)
  | tup (xs : List D)
  | lst (xs : List D)
  | ref (a : Nat)
  deriving Inhabited

mutual
/-- Python's == on data (a list's snapshot is a .lst) -/
def eqD : D → D → Bool
  | .non, .non => true
  | .bl a, .bl b => a == b
  | .bl a, .int j => (if a then 1 else 0) == j
  | .int i, .bl b => i == (if b then 1 else 0)
  | .int i, .int j => decide (i = j)
  | .str x, .str y => decide (x = y)
  | .tup xs, .tup ys => eqDs xs ys
  | .lst xs, .lst ys => eqDs xs ys
  | _, _ => false
def eqDs : List D → List D → Bool
  | [], [] => true
  | x :: xs, y :: ys => eqD x y && eqDs xs ys
  | _, _ => false
end
mutual
def dep : D → Nat
  | .tup xs => deps xs + 1
  | .lst xs => deps xs + 1
  | _ => 0
def deps : List D → Nat
  | [] => 0
  | x :: xs => max (dep x) (deps xs)
end
mutual
/-- no list, no dict in it -/
def pureD : D → Bool
  | .tup xs => pureDs xs
  | .lst _ => false
  | .ref _ => false
  | _ => true
def pureDs : List D → Bool
  | [] => true
  | x :: xs => pureD x && pureDs xs
end

inductive Cell where
  | lst (xs : List D)
  | ro (xs : List D)
  | dct (kvs : List (D × D))
  deriving Inhabited

abbrev Hm := List Cell
abbrev Env := List (Option D)
abbrev VQ := D → Hm → Prop

def LIM : Nat := 16777216

def ws {α : Type} (o : Option α) (f : α → Prop) : Prop := match o with
  | some a => f a
  | none => False
@[simp] theorem ws_some {α : Type} {a : α} {f : α → Prop} : ws (some a) f = f a := rfl
@[simp] theorem ws_none {α : Type} {f : α → Prop} : ws (none : Option α) f = False := rfl
theorem ws_iff {α : Type} {o : Option α} {f : α → Prop} : ws o f ↔ ∃ a, o = some a ∧ f a := by
  cases o with
  | none => simp
  | some a => simp
theorem ws_mono {α : Type} {o : Option α} {f g : α → Prop} (h : ws o f) (k : ∀ a, f a → g a) : ws o g := by
  cases o with
  | none => exact h
  | some a => exact k a h

def getL (h : Hm) (a : Nat) : Option (List D) := match h[a]? with
  | some (.lst xs) => some xs
  | some (.ro xs) => some xs
  | _ => none
def getM (h : Hm) (a : Nat) : Option (List D) := match h[a]? with
  | some (.lst xs) => some xs
  | _ => none
def getK (h : Hm) (a : Nat) : Option (List (D × D)) := match h[a]? with
  | some (.dct kvs) => some kvs
  | _ => none

/-! snapshots -/
mutual
def snapD (f : Nat → Option (List D)) : D → Option D
  | .ref a => (f a).map D.lst
  | .tup xs => (snapDs f xs).map D.tup
  | .lst _ => none
  | d => some d
def snapDs (f : Nat → Option (List D)) : List D → Option (List D)
  | [] => some []
  | x :: xs => match snapD f x, snapDs f xs with
    | some y, some ys => some (y :: ys)
    | _, _ => none
end
def snapN (h : Hm) : Nat → Nat → Option (List D)
  | 0, _ => none
  | n + 1, a => match getL h a with
    | some xs => snapDs (snapN h n) xs
    | none => none
def snap (h : Hm) (d : D) : Option D := snapD (snapN h 6) d

/-- == of two values -/
def eqv (h : Hm) (a b : D) : Option Bool := match snap h a, snap h b with
  | some x, some y => if min (dep x) (dep y) ≤ 60 then some (eqD x y) else none
  | _, _ => none

def truth (h : Hm) : D → Option Bool
  | .non => some false
  | .bl b => some b
  | .int i => some (decide (i ≠ 0))
  | .str s => some (!s.isEmpty)
  | .tup xs => some (!xs.isEmpty)
  | .ref a => match h[a]? with
    | some (.lst xs) => some (!xs.isEmpty)
    | some (.ro xs) => some (!xs.isEmpty)
    | _ => none
  | .lst _ => none

/-! dicts: association lists by == -/
/-- a key: a whole number, a text, or a tuple (nested to eight deep) -/
def keyOK : D → Bool
  | .int _ => true
  | .str _ => true
  | .tup xs => pureDs xs && decide (deps xs ≤ 7)
  | _ => false
/-- a leaf key -/
def leafB : D → Bool
  | .int _ => true
  | .str _ => true
  | _ => false
def isTup : D → Bool
  | .tup _ => true
  | _ => false
/-- a key for a dict: all its keys are tuples, or none is -/
def keyIn (kvs : List (D × D)) (k : D) : Bool := keyOK k && kvs.all fun p => isTup p.1 == isTup k
def dget (kvs : List (D × D)) (k : D) : Option D := (kvs.find? fun p => eqD p.1 k).map (·.2)
def dput (kvs : List (D × D)) (k v : D) : List (D × D) := if (kvs.any fun p => eqD p.1 k) = true then kvs.map (fun p => if eqD p.1 k = true then (p.1, v) else p) else kvs ++ [(k, v)]

/-! order: data as rows of signs, compared sign by sign -/
mutual
def toks : D → List (Int ⊕ List Nat)
  | .non => []
  | .bl b => [.inl (if b then 1 else 0)]
  | .int n => [.inl n]
  | .str x => [.inr x]
  | .tup xs => toksL xs
  | .lst xs => toksL xs
  | .ref _ => []
def toksL : List D → List (Int ⊕ List Nat)
  | [] => [.inl 0]
  | x :: xs => .inl 1 :: (toks x ++ toksL xs)
end
def ltI : Int ⊕ List Nat → Int ⊕ List Nat → Bool
  | .inl a, .inl b => decide (a < b)
  | .inl _, .inr _ => true
  | .inr _, .inl _ => false
  | .inr a, .inr b => decide (a < b)
def ltT : List (Int ⊕ List Nat) → List (Int ⊕ List Nat) → Bool
  | [], [] => false
  | [], _ :: _ => true
  | _ :: _, [] => false
  | x :: r, y :: t => ltI x y || (!ltI y x && ltT r t)
/-- x < y, of data that is alike place by place -/
def ltB (x y : D) : Bool := ltT (toks x) (toks y)

/-! sequences -/
def ixN (n : Nat) (i : Int) : Option Nat :=
  if 0 ≤ i then (if i < n then some i.toNat else none) else if -(n : Int) ≤ i then some (i + n).toNat else none
def atI (xs : List D) (i : Int) : Option D := (ixN xs.length i).bind fun j => xs[j]?
/-- a slice's bound, brought within 0 and n -/
def sIx (n d : Nat) : Option Int → Nat
  | none => d
  | some v => if v < 0 then (v + (n : Int)).toNat else min v.toNat n
def cutL (xs : List D) (lo hi : Option Int) : List D := (xs.drop (sIx xs.length 0 lo)).take (sIx xs.length xs.length hi - sIx xs.length 0 lo)
def optI : D → Option (Option Int)
  | .non => some none
  | .int i => some (some i)
  | _ => none

inductive Bop where
  | add | sub | mul | fdiv | mod | pow | xor
  deriving DecidableEq
inductive Cop where
  | eq | ne | lt | le | gt | ge | isin | notin | is | isnt
  deriving DecidableEq
inductive Ty where
  | int | bool | str | tuple | list | dict
  deriving DecidableEq
inductive Blt where
  | len | abs | int | max2 | min2 | max1 | min1 | sum | all | any | sorted | tuple | list | dict
  | isi (t : Ty)
  | tupRange | lstRange | lstZip | dctZip
  | append | extend | pop0 | popI | index | insert | setdefault | get2 | rev | update
  deriving DecidableEq
/-- what a for walks -/
inductive IK where
  | val | keys | range | zip | enum | items | values
  deriving DecidableEq
inductive Pat where
  | slot (i : Nat)
  | tup (ps : List Pat)

def LINT : Int := 18446744073709551616

/-- the heap with a new cell -/
def newC (h : Hm) (c : Cell) : Option (D × Hm) := some (.ref h.length, h ++ [c])
def binS (op : Bop) (x y : D) (h : Hm) : Option (D × Hm) :=
  match op, x, y with
  | .add, .int i, .int j => some (.int (i + j), h)
  | .add, .str s, .str t => if s.length + t.length ≤ LIM then some (.str (s ++ t), h) else none
  | .add, .tup s, .tup t => if s.length + t.length ≤ LIM then some (.tup (s ++ t), h) else none
  | .add, .ref a, .ref b => match getM h a, getM h b with
    | some s, some t => if s.length + t.length ≤ LIM then newC h (.lst (s ++ t)) else none
    | _, _ => none
  | .sub, .int i, .int j => some (.int (i - j), h)
  | .mul, .int i, .int j => if (-LINT < i ∧ i < LINT) ∨ (-LINT < j ∧ j < LINT) then some (.int (i * j), h) else none
  | .mul, .tup s, .int j => if s.length ≠ 0 ∧ 2 ≤ j ∧ j ≤ 1000 ∧ s.length ≤ 1000 then some (.tup (List.replicate j.toNat s).flatten, h) else none
  | .mul, .ref a, .int j => match getM h a with
    | some s => if -1000 ≤ j ∧ j ≤ 1000 ∧ s.length ≤ 10000 then newC h (.lst (List.replicate j.toNat s).flatten) else none
    | none => none
  | .fdiv, .int i, .int j => if j ≠ 0 ∧ j.natAbs < 1073741824 then some (.int (i.fdiv j), h) else none
  | .mod, .int i, .int j => if j ≠ 0 then some (.int (i.fmod j), h) else none
  | .pow, .int i, .int j => if 0 ≤ j ∧ j ≤ 1000000 ∧ i.natAbs < 2 ^ 64 then some (.int (i ^ j.toNat), h) else none
  | _, _, _ => none

/-- x op= y, of ints and of texts -/
def augS (op : Bop) (x y : D) (h : Hm) : Option (D × Hm) := match op, x, y with
  | .add, .int i, .int j => some (.int (i + j), h)
  | .sub, .int i, .int j => some (.int (i - j), h)
  | .mul, .int i, .int j => if (-LINT < i ∧ i < LINT) ∨ (-LINT < j ∧ j < LINT) then some (.int (i * j), h) else none
  | .add, .str s, .str t => if s.length + t.length ≤ LIM then some (.str (s ++ t), h) else none
  | _, _, _ => none
/-- the items that a whole walk sees -/
def itemsOf (h : Hm) : D → Option (List D)
  | .tup xs => some xs
  | .ref a => match h[a]? with
    | some (.lst xs) => some xs
    | some (.ro xs) => some xs
    | some (.dct kvs) => some (kvs.map (·.1))
    | none => none
  | _ => none
def lstOf (h : Hm) : D → Option (List D)
  | .ref a => getL h a
  | _ => none
/-- the items of a list or a tuple -/
def seqOf (h : Hm) : D → Option (List D)
  | .tup xs => some xs
  | .ref a => getL h a
  | _ => none

def anyEq (h : Hm) (x : D) (ys : List D) : Option Bool := match snap h x, snapDs (snapN h 6) ys with
  | some a, some bs => if min (deps bs) (dep a) ≤ 60 then some (bs.any fun b => eqD b a) else none
  | _, _ => none
def indexEq (h : Hm) (x : D) (ys : List D) : Option Nat := match snap h x, snapDs (snapN h 6) ys with
  | some a, some bs => if dep a ≤ 60 ∧ deps bs ≤ 60 then bs.findIdx? fun b => eqD b a else none
  | _, _ => none
def inS (h : Hm) (x : D) : D → Option Bool
  | .tup ys => anyEq h x ys
  | .ref a => match h[a]? with
    | some (.lst ys) => anyEq h x ys
    | some (.ro ys) => anyEq h x ys
    | some (.dct kvs) => if keyIn kvs x then some (dget kvs x).isSome else none
    | none => none
  | _ => none

def isNonD : D → Bool
  | .non => true
  | _ => false
def isBlD (b : Bool) : D → Bool
  | .bl c => b == c
  | _ => false
/-- x is y, y being None, True, False -/
def isS (x : D) : D → Option Bool
  | .non => some (isNonD x)
  | .bl b => some (isBlD b x)
  | _ => none
def cmpS (op : Cop) (x y : D) (h : Hm) : Option Bool :=
  match op with
  | .eq => eqv h x y
  | .ne => (eqv h x y).map not
  | .lt => match x, y with
    | .int i, .int j => some (decide (i < j))
    | .str s, .str t => some (decide (s < t))
    | _, _ => none
  | .gt => match x, y with
    | .int i, .int j => some (decide (j < i))
    | _, _ => none
  | .le => match x, y with
    | .int i, .int j => some (decide (i ≤ j))
    | _, _ => none
  | .ge => match x, y with
    | .int i, .int j => some (decide (j ≤ i))
    | _, _ => none
  | .isin => inS h x y
  | .notin => (inS h x y).map not
  | .is => isS x y
  | .isnt => (isS x y).map not

def lenS (h : Hm) : D → Option Nat
  | .tup xs => some xs.length
  | .str s => some s.length
  | .ref a => match h[a]? with
    | some (.lst xs) => some xs.length
    | some (.ro xs) => some xs.length
    | some (.dct kvs) => some kvs.length
    | none => none
  | _ => none

def isiS (h : Hm) (t : Ty) : D → Option Bool
  | .non => some false
  | .bl _ => some (t = .int ∨ t = .bool)
  | .int _ => some (t = .int)
  | .str _ => some (t = .str)
  | .tup _ => some (t = .tuple)
  | .ref a => match h[a]? with
    | some (.lst _) => some (t = .list)
    | some (.ro _) => some (t = .list)
    | some (.dct _) => none
    | none => none
  | .lst _ => none

def intsOf : List D → Option (List Int)
  | [] => some []
  | .int i :: r => (intsOf r).map (i :: ·)
  | _ :: _ => none
def boolsOf : List D → Option (List Bool)
  | [] => some []
  | .bl b :: r => (boolsOf r).map (b :: ·)
  | _ :: _ => none
def pairsOf : List D → Option (List (D × D))
  | [] => some []
  | .tup [k, v] :: r => (pairsOf r).map ((k, v) :: ·)
  | _ :: _ => none
/-- the pairs put one behind another; none: a key that can't be -/
def mergeK (kvs : List (D × D)) : List (D × D) → Option (List (D × D))
  | [] => some kvs
  | (k, v) :: r => if keyIn kvs k then mergeK (dput kvs k v) r else none

/-! sorting: stable, by insertion -/
mutual
/-- place by place of one kind -/
def alikeD : D → D → Bool
  | .bl _, .bl _ => true
  | .int _, .int _ => true
  | .str _, .str _ => true
  | .non, .non => true
  | .tup xs, .tup ys => alikeDs xs ys
  | _, _ => false
def alikeDs : List D → List D → Bool
  | x :: xs, y :: ys => alikeD x y && alikeDs xs ys
  | _, _ => true
end
/-- what can be sorted: items alike place by place, all of them tuples with an item, or none of them a tuple -/
def consTup : D → Bool
  | .tup (_ :: _) => true
  | _ => false
def flatD : D → Bool
  | .bl _ => true
  | .int _ => true
  | .str _ => true
  | _ => false
def sortOK (xs : List D) : Bool := pureDs xs && decide (deps xs ≤ 60) && (xs.all fun x => xs.all fun y => alikeD x y) && (xs.all consTup || xs.all flatD)
def insD (x : D) : List D → List D
  | [] => [x]
  | y :: ys => if ltB y x then y :: insD x ys else x :: y :: ys
def sortD : List D → List D
  | [] => []
  | x :: xs => insD x (sortD xs)

/-! the built-ins -/
def rngD (i : Int) (n : Nat) : List D := (List.range n).map fun (k : Nat) => D.int (i + (k : Int))
def zipD (xs ys : List D) : List D := List.zipWith (fun a b => D.tup [a, b]) xs ys
def enumD (xs : List D) : List D := xs.zipIdx.map fun p => D.tup [.int (p.2 : Int), p.1]
def small (i : Int) : Bool := decide (-1000000 ≤ i) && decide (i ≤ 1000000)
def bltS (b : Blt) (ds : List D) (h : Hm) : Option (D × Hm) :=
  match b, ds with
  | .len, [d] => (lenS h d).map fun (n : Nat) => (D.int (n : Int), h)
  | .abs, [.int i] => some (.int (if i < 0 then -i else i), h)
  | .int, [.int i] => some (.int i, h)
  | .max2, [.int i, .int j] => some (.int (if j > i then j else i), h)
  | .min2, [.int i, .int j] => some (.int (if j < i then j else i), h)
  | .max1, [d] => ((lstOf h d).bind intsOf).bind fun ns => if ns ≠ [] then some (.int (ns.foldl max (ns.headD 0)), h) else none
  | .min1, [d] => ((lstOf h d).bind intsOf).bind fun ns => if ns ≠ [] then some (.int (ns.foldl min (ns.headD 0)), h) else none
  | .sum, [d] => ((lstOf h d).bind intsOf).map fun ns => (.int ns.sum, h)
  | .all, [d] => ((lstOf h d).bind boolsOf).map fun bs => (.bl (bs.all id), h)
  | .any, [d] => ((lstOf h d).bind boolsOf).map fun bs => (.bl (bs.any id), h)
  | .sorted, [.ref a] => (itemsOf h (.ref a)).bind fun xs => if sortOK xs = true then newC h (.lst (sortD xs)) else none
  | .tuple, [d] => (seqOf h d).map fun xs => (.tup xs, h)
  | .list, [d] => (itemsOf h d).bind fun xs => newC h (.lst xs)
  | .dict, [d] => ((lstOf h d).bind pairsOf).bind fun ps => if (ps.all fun p => leafB p.1) = true ∧ ps.length ≤ LIM then (mergeK [] ps).bind fun kvs => newC h (.dct kvs) else none
  | .isi t, [d] => (isiS h t d).map fun k => (.bl k, h)
  | .tupRange, [.int j] => if small j = true then some (.tup (rngD 0 j.toNat), h) else none
  | .lstRange, [.int j] => if small j = true then newC h (.lst (rngD 0 j.toNat)) else none
  | .lstRange, [.int i, .int j] => if (small i && small j) = true then newC h (.lst (rngD i (j - i).toNat)) else none
  | .lstZip, [x, y] => (seqOf h x).bind fun xs => (seqOf h y).bind fun ys => newC h (.lst (zipD xs ys))
  | .dctZip, [x, y] => (seqOf h x).bind fun xs => (seqOf h y).bind fun ys => (mergeK [] (xs.zip ys)).bind fun kvs => newC h (.dct kvs)
  | .append, [.ref a, x] => (getM h a).bind fun xs => if xs.length < LIM then some (.non, h.set a (.lst (xs ++ [x]))) else none
  | .extend, [.ref a, .ref b] => (getM h a).bind fun xs => (getM h b).bind fun ys => if xs.length + ys.length ≤ LIM ∧ a ≠ b then some (.non, h.set a (.lst (xs ++ ys))) else none
  | .pop0, [.ref a] => (getM h a).bind fun xs => xs.getLast?.map fun x => (x, h.set a (.lst xs.dropLast))
  | .popI, [.ref a, .int i] => if small i = true then (getM h a).bind fun xs => (ixN xs.length i).bind fun k => (xs[k]?).map fun x => (x, h.set a (.lst (xs.eraseIdx k))) else none
  | .index, [d, x] => (lstOf h d).bind fun xs => (indexEq h x xs).map fun (k : Nat) => (D.int (k : Int), h)
  | .insert, [.ref a, .int i, x] => (getM h a).bind fun xs => if xs.length < LIM ∧ 0 ≤ i ∧ i ≤ xs.length then some (.non, h.set a (.lst (xs.take i.toNat ++ x :: xs.drop i.toNat))) else none
  | .setdefault, [.ref a, k, x] => (getK h a).bind fun kvs => if keyIn kvs k = true ∧ kvs.length < LIM then (match dget kvs k with
      | some v => some (v, h)
      | none => some (x, h.set a (.dct (dput kvs k x)))) else none
  | .get2, [.ref a, k, x] => (getK h a).bind fun kvs => if keyIn kvs k = true then some ((dget kvs k).getD x, h) else none
  | .rev, [.tup xs] => some (.tup xs.reverse, h)
  | .rev, [.ref a] => (getL h a).bind fun xs => newC h (.lst xs.reverse)
  | _, _ => none

/-- whether a method's receiver is of its kind -/
def recvOK (b : Blt) (x : D) (h : Hm) : Bool := match b, x with
  | .append, .ref a => (getL h a).isSome
  | .extend, .ref a => (getL h a).isSome
  | .pop0, .ref a => (getL h a).isSome
  | .popI, .ref a => (getL h a).isSome
  | .insert, .ref a => (getL h a).isSome
  | .index, .ref a => (getL h a).isSome
  | .setdefault, .ref a => (getK h a).isSome
  | .get2, .ref a => (getK h a).isSome
  | _, _ => false
def idxS (x i : D) (h : Hm) : Option D :=
  match x, i with
  | .tup xs, .int k => atI xs k
  | .ref a, i => (match h[a]?, i with
    | some (.lst xs), .int k => atI xs k
    | some (.ro xs), .int k => atI xs k
    | some (.dct kvs), k => if keyIn kvs k = true then dget kvs k else none
    | _, _ => none)
  | _, _ => none
/-- of a list, of a dict -/
def idxR (x i : D) (h : Hm) : Option D := match x with
  | .ref _ => idxS x i h
  | _ => none
def slcS (x : D) (a b : Option Int) (h : Hm) : Option (D × Hm) :=
  match x with
  | .tup xs => some (.tup (cutL xs a b), h)
  | .ref r => (getL h r).bind fun xs => newC h (.lst (cutL xs a b))
  | _ => none
def setS (o i v : D) (h : Hm) : Option Hm :=
  match o with
  | .ref a => (match h[a]?, i with
    | some (.lst xs), .int k => (ixN xs.length k).map fun j => h.set a (.lst (xs.set j v))
    | some (.dct kvs), k => if keyIn kvs k = true ∧ kvs.length < LIM then some (h.set a (.dct (dput kvs k v))) else none
    | _, _ => none)
  | _ => none

/-! ### syntax -/
inductive CE where
  | loc (i : Nat)
  | lit (d : D)
  | tup (es : List CE)
  | lst (es : List CE)
  | dct (es : List CE)
  | dctP (es : List CE)
  | bin (op : Bop) (a b : CE)
  | neg (a : CE)
  | not (a : CE)
  | and (a b : CE)
  | or (a b : CE)
  | cmp (op : Cop) (a b : CE)
  | chn (op op' : Cop) (a b c : CE)
  | ife (c a b : CE)
  | call (f : Nat) (es : List CE) (dv : List D) (perm : List Nat)
  | blt (b : Blt) (es : List CE)
  | meth (b : Blt) (o : CE) (es : List CE)
  | idx (a i : CE)
  | slc (a lo hi : CE)
  | comp (own : List Nat) (p : Pat) (k : IK) (it : List CE) (cs : List CE) (elt : CE)
  | dcomp (own : List Nat) (p : Pat) (k : IK) (it : List CE) (cs : List CE) (key val : CE)
inductive CS where
  | asg (p : Pat) (e : CE)
  | set (o i e : CE)
  | aug (i : Nat) (op : Bop) (e : CE)
  | augs (o i : CE) (op : Bop) (e : CE)
  | expr (e : CE)
  | ret (e : CE)
  | pass
  | brk
  | cont
  | ite (c : CE) (a b : List CS)
  | whil (c : CE) (a : List CS)
  | for_ (p : Pat) (k : IK) (it : List CE) (a : List CS)

/-! ### meaning -/
abbrev XP := Nat → List D → Hm → Prop
/-- a function: its arguments, the heap, what is wanted of its value, of its exception -/
abbrev FnS := Nat → List D → Hm → VQ → XP → Prop

mutual
/-- a value stored to a target of names -/
def wpP : Pat → D → Env → (Env → Prop) → Prop
  | .slot i, v, env, Q => i < env.length ∧ Q (env.set i (some v))
  | .tup ps, v, env, Q => match v with
    | .tup xs => wpPs ps xs env Q
    | _ => False
def wpPs : List Pat → List D → Env → (Env → Prop) → Prop
  | [], [], env, Q => Q env
  | p :: ps, x :: xs, env, Q => wpP p x env fun e1 => wpPs ps xs e1 Q
  | _, _, _, _ => False
end
mutual
/-- the slots of a target -/
def slotsP : Pat → List Nat
  | .slot i => [i]
  | .tup ps => slotsPs ps
def slotsPs : List Pat → List Nat
  | [] => []
  | p :: ps => slotsP p ++ slotsPs ps
end
def wipeE (env : Env) : List Nat → Env
  | [] => env
  | i :: r => (wipeE env r).set i none

/-- the list cells that a walked value leans on -/
def leanOn (h : Hm) : D → Option (List (Nat × Cell))
  | .tup _ => some []
  | .ref a => (h[a]?).map fun c => [(a, c)]
  | _ => none
/-- the items of a walk, and the cells that must stay while it is walked -/
def iterS (k : IK) (ds : List D) (h : Hm) : Option (List D × List (Nat × Cell)) :=
  match k, ds with
  | .val, [x] => (seqOf h x).bind fun xs => (leanOn h x).map fun l => (xs, l)
  | .keys, [.ref a] => (getK h a).bind fun kvs => (leanOn h (.ref a)).map fun l => (kvs.map fun p => p.1, l)
  | .range, [.int j] => if small j = true then some (rngD 0 j.toNat, []) else none
  | .range, [.int i, .int j] => if (small i && small j) = true then some (rngD i (j - i).toNat, []) else none
  | .zip, [x, y] => (seqOf h x).bind fun xs => (seqOf h y).bind fun ys => (leanOn h x).bind fun l => (leanOn h y).map fun m => (zipD xs ys, l ++ m)
  | .enum, [.ref a] => (getL h a).bind fun xs => (leanOn h (.ref a)).map fun l => (enumD xs, l)
  | .items, [.ref a] => (getK h a).bind fun kvs => (leanOn h (.ref a)).map fun l => (kvs.map fun p => .tup [p.1, p.2], l)
  | .values, [.ref a] => (getK h a).bind fun kvs => (leanOn h (.ref a)).map fun l => (kvs.map fun p => p.2, l)
  | _, _ => none
def still (l : List (Nat × Cell)) (h : Hm) : Prop := ∀ p ∈ l, h[p.1]? = some p.2

/-- a comprehension's turns: what one turn gives (none: its test fails); the new list at a -/
def compL (g : List (Nat × Cell)) (a : Nat) (step : D → Hm → (Option D → Hm → Prop) → Prop) (Q : Hm → Prop) : List D → Hm → Prop
  | [], h => still g h ∧ Q h
  | x :: xs, h => still g h ∧ step x h fun r h' => match r with
    | some y => ws (getM h' a) fun acc => acc.length < LIM ∧ compL g a step Q xs (h'.set a (.lst (acc ++ [y])))
    | none => compL g a step Q xs h'
def dcompL (g : List (Nat × Cell)) (a : Nat) (step : D → Hm → (Option (D × D) → Hm → Prop) → Prop) (Q : Hm → Prop) : List D → Hm → Prop
  | [], h => still g h ∧ Q h
  | x :: xs, h => still g h ∧ step x h fun r h' => match r with
    | some y => ws (getK h' a) fun kvs => (keyIn kvs y.1 = true ∧ isTup y.1 = false) ∧ kvs.length < LIM ∧ dcompL g a step Q xs (h'.set a (.dct (dput kvs y.1 y.2)))
    | none => dcompL g a step Q xs h'
/-- a for's turns -/
def forL (g : List (Nat × Cell)) (step : D → Env → Hm → (Env → Hm → Prop) → Prop) (nx : Env → Hm → Prop) : List D → Env → Hm → Prop
  | [], env, h => still g h ∧ nx env h
  | x :: xs, env, h => still g h ∧ step x env h fun env' h' => forL g step nx xs env' h'

def evens : List D → Option (List (D × D))
  | [] => some []
  | k :: v :: r => (evens r).map ((k, v) :: ·)
  | _ => none
def permD (ds : List D) : List Nat → Option (List D)
  | [] => some []
  | i :: r => match ds[i]?, permD ds r with
    | some d, some l => some (d :: l)
    | _, _ => none

mutual
def wpE (F : FnS) (E : XP) : CE → Env → Hm → VQ → Prop
  | .loc i, env, h, Q => ws (env[i]?.join) fun d => Q d h
  | .lit d, _, h, Q => Q d h
  | .tup es, env, h, Q => wpEs F E es env h fun ds h1 => Q (.tup ds) h1
  | .lst es, env, h, Q => wpEs F E es env h fun ds h1 => Q (.ref h1.length) (h1 ++ [.lst ds])
  | .dct es, env, h, Q => wpEs F E es env h fun ds h1 => ws (evens ds) fun ps => ws (mergeK [] ps) fun kvs => Q (.ref h1.length) (h1 ++ [.dct kvs])
  | .dctP es, env, h, Q => wpEs F E es env (h ++ [.dct []]) fun ds h1 => ws (evens ds) fun ps => h1[h.length]? = some (.dct []) ∧ (ps.all fun p => leafB p.1) = true ∧ ps.length ≤ 15 ∧ ws (mergeK [] ps) fun kvs => Q (.ref h.length) (h1.set h.length (.dct kvs))
  | .bin op a b, env, h, Q => wpE F E a env h fun x h1 => wpE F E b env h1 fun y h2 => ws (binS op x y h2) fun r => Q r.1 r.2
  | .neg a, env, h, Q => wpE F E a env h fun x h1 => match x with
    | .int i => Q (.int (-i)) h1
    | _ => False
  | .not a, env, h, Q => wpE F E a env h fun x h1 => ws (truth h1 x) fun k => Q (.bl !k) h1
  | .and a b, env, h, Q => wpE F E a env h fun x h1 => ws (truth h1 x) fun k => if k = true then wpE F E b env h1 Q else Q x h1
  | .or a b, env, h, Q => wpE F E a env h fun x h1 => ws (truth h1 x) fun k => if k = true then Q x h1 else wpE F E b env h1 Q
  | .cmp op a b, env, h, Q => wpE F E a env h fun x h1 => wpE F E b env h1 fun y h2 => ws (cmpS op x y h2) fun k => Q (.bl k) h2
  | .chn op op' a b c, env, h, Q => wpE F E a env h fun x h1 => wpE F E b env h1 fun y h2 => ws (cmpS op x y h2) fun k =>
      if k = true then wpE F E c env h2 fun z h3 => ws (cmpS op' y z h3) fun k' => Q (.bl k') h3 else Q (.bl false) h2
  | .ife c a b, env, h, Q => wpE F E c env h fun x h1 => ws (truth h1 x) fun k => if k = true then wpE F E a env h1 Q else wpE F E b env h1 Q
  | .call f es dv pm, env, h, Q => wpEs F E es env h fun ds h1 => ws (permD (ds ++ dv) pm) fun zs => F f zs h1 Q E
  | .blt b es, env, h, Q => wpEs F E es env h fun ds h1 => ws (bltS b ds h1) fun r => Q r.1 r.2
  | .meth b o es, env, h, Q => wpE F E o env h fun x h1 => recvOK b x h1 = true ∧ wpEs F E es env h1 fun ds h2 => ws (bltS b (x :: ds) h2) fun r => Q r.1 r.2
  | .idx a i, env, h, Q => wpE F E a env h fun x h1 => wpE F E i env h1 fun y h2 => ws (idxS x y h2) fun d => Q d h2
  | .slc a lo hi, env, h, Q => wpE F E a env h fun x h1 => wpE F E lo env h1 fun y h2 => ws (optI y) fun o => wpE F E hi env h2 fun z h3 => ws (optI z) fun o' => ws (slcS x o o' h3) fun r => Q r.1 r.2
  | .comp own p k it cs elt, env, h, Q => wpEs F E it env h fun ds h1 => ws (iterS k ds h1) fun I =>
      compL I.2 h1.length (fun x h2 R => wpP p x (wipeE env own) fun e2 => wpCs F cs e2 h2 fun k h3 => if k = true then wpE F (fun _ _ _ => False) elt e2 h3 fun y h4 => R (some y) h4 else R none h3)
        (fun h5 => Q (.ref h1.length) h5) I.1 (h1 ++ [.lst []])
  | .dcomp own p k it cs ke va, env, h, Q => wpEs F E it env h fun ds h1 => ws (iterS k ds h1) fun I =>
      dcompL I.2 h1.length (fun x h2 R => wpP p x (wipeE env own) fun e2 => wpCs F cs e2 h2 fun k h3 => if k = true then wpE F (fun _ _ _ => False) ke e2 h3 fun y h4 => wpE F (fun _ _ _ => False) va e2 h4 fun z h5 => R (some (y, z)) h5 else R none h3)
        (fun h5 => Q (.ref h1.length) h5) I.1 (h1 ++ [.dct []])
def wpEs (F : FnS) (E : XP) : List CE → Env → Hm → (List D → Hm → Prop) → Prop
  | [], _, h, Q => Q [] h
  | e :: es, env, h, Q => wpE F E e env h fun d h1 => wpEs F E es env h1 fun ds h2 => Q (d :: ds) h2
def wpCs (F : FnS) : List CE → Env → Hm → (Bool → Hm → Prop) → Prop
  | [], _, h, Q => Q true h
  | c :: cs, env, h, Q => wpE F (fun _ _ _ => False) c env h fun d h1 => ws (truth h1 d) fun k => if k = true then wpCs F cs env h1 Q else Q false h1
end

/-- a text within the line -/
def sOK (s : List Nat) : Bool := decide (s.length ≤ LIM) && s.all fun c => decide (c < 1114112)

structure Ends where
  nx : Env → Hm → Prop
  rt : VQ
  bk : Env → Hm → Prop
  ct : Env → Hm → Prop

mutual
def wpS (F : FnS) (E : XP) : CS → Env → Hm → Ends → Prop
  | .asg p e, env, h, Z => wpE F E e env h fun v h1 => wpP p v env fun env1 => Z.nx env1 h1
  | .set o i e, env, h, Z => wpE F E e env h fun v h1 => wpE F E o env h1 fun x h2 => wpE F E i env h2 fun y h3 => ws (setS x y v h3) fun h4 => Z.nx env h4
  | .aug i op e, env, h, Z => ws (env[i]?.join) fun x => wpE F E e env h fun y h1 => ws (augS op x y h1) fun r => Z.nx (env.set i (some r.1)) r.2
  | .augs o i op e, env, h, Z => wpE F E o env h fun x h1 => wpE F E i env h1 fun y h2 => ws (idxR x y h2) fun v => wpE F E e env h2 fun w h4 => ws (augS op v w h4) fun r => ws (setS x y r.1 r.2) fun h6 => Z.nx env h6
  | .expr e, env, h, Z => wpE F E e env h fun _ h1 => Z.nx env h1
  | .ret e, env, h, Z => wpE F E e env h Z.rt
  | .pass, env, h, Z => Z.nx env h
  | .brk, env, h, Z => Z.bk env h
  | .cont, env, h, Z => Z.ct env h
  | .ite c a b, env, h, Z => wpE F E c env h fun x h1 => ws (truth h1 x) fun k => if k = true then wpSs F E a env h1 Z else wpSs F E b env h1 Z
  | .whil c a, env, h, Z => ∃ W : Nat → Env → Hm → Prop, (∃ m, W m env h) ∧ ∀ m env h, W m env h →
      wpE F E c env h fun x h1 => ws (truth h1 x) fun k => if k = true then
        wpSs F E a env h1 { nx := fun e' h' => ∃ m', m' < m ∧ W m' e' h', ct := fun e' h' => ∃ m', m' < m ∧ W m' e' h', bk := Z.nx, rt := Z.rt } else Z.nx env h1
  | .for_ p k it a, env, h, Z => wpEs F E it env h fun ds h1 => ws (iterS k ds h1) fun I =>
      forL I.2 (fun x env h R => wpP p x env fun env1 => wpSs F E a env1 h { nx := R, ct := R, bk := Z.nx, rt := Z.rt }) Z.nx I.1 env h1
def wpSs (F : FnS) (E : XP) : List CS → Env → Hm → Ends → Prop
  | [], env, h, Z => Z.nx env h
  | s :: ss, env, h, Z => wpS F E s env h { Z with nx := fun e' h' => wpSs F E ss e' h' Z }
end

/-! ### programs -/
structure Def where
  params : Nat
  slots : Nat
  body : List CS
abbrev Prog := List (Nat × Def)
def FW (P : Prog) : Nat → FnS
  | 0 => fun _ _ _ _ _ => False
  | n + 1 => fun f ds h Q E => match P.lookup f with
    | some d => ds.length = d.params ∧ wpSs (FW P n) E d.body (ds.map some ++ List.replicate (d.slots - d.params) none) h { nx := fun _ h' => Q .non h', rt := Q, bk := fun _ _ => False, ct := fun _ _ => False }
    | none => False
end M

namespace M
/-! ### asking less -/
def FMono (F : FnS) : Prop := ∀ f ds h (Q Q' : VQ) (E : XP), F f ds h Q E → (∀ d h', Q d h' → Q' d h') → F f ds h Q' E
mutual
theorem wpP_mono : ∀ (p : Pat) (v : D) (env : Env) (Q Q' : Env → Prop), wpP p v env Q → (∀ e, Q e → Q' e) → wpP p v env Q'
  | .slot i, v, env, Q, Q', h, k => by unfold wpP at h ⊢; exact ⟨h.1, k _ h.2⟩
  | .tup ps, v, env, Q, Q', h, k => by
    unfold wpP at h ⊢
    cases v with
    | tup xs => exact wpPs_mono ps xs env Q Q' h k
    | _ => exact h
theorem wpPs_mono : ∀ (ps : List Pat) (xs : List D) (env : Env) (Q Q' : Env → Prop), wpPs ps xs env Q → (∀ e, Q e → Q' e) → wpPs ps xs env Q'
  | [], [], env, Q, Q', h, k => by unfold wpPs at h ⊢; exact k _ h
  | p :: ps, x :: xs, env, Q, Q', h, k => by
    unfold wpPs at h ⊢
    exact wpP_mono p x env _ _ h fun e he => wpPs_mono ps xs e Q Q' he k
  | [], _ :: _, _, _, _, h, _ => by unfold wpPs at h; exact h.elim
  | _ :: _, [], _, _, _, h, _ => by unfold wpPs at h; exact h.elim
end
theorem compL_mono {g : List (Nat × Cell)} {a : Nat} {st st' : D → Hm → (Option D → Hm → Prop) → Prop} {Q Q' : Hm → Prop} (hs : ∀ x h R R', st x h R → (∀ r h', R r h' → R' r h') → st' x h R') (hQ : ∀ h, Q h → Q' h) :
    ∀ (xs : List D) (h : Hm), compL g a st Q xs h → compL g a st' Q' xs h
  | [], h, k => ⟨k.1, hQ _ k.2⟩
  | x :: xs, h, k => ⟨k.1, hs x h _ _ k.2 fun r h' q => by
      cases r with
      | none => exact compL_mono hs hQ xs h' q
      | some y => exact ws_mono q fun acc q => ⟨q.1, compL_mono hs hQ xs _ q.2⟩⟩
theorem dcompL_mono {g : List (Nat × Cell)} {a : Nat} {st st' : D → Hm → (Option (D × D) → Hm → Prop) → Prop} {Q Q' : Hm → Prop} (hs : ∀ x h R R', st x h R → (∀ r h', R r h' → R' r h') → st' x h R') (hQ : ∀ h, Q h → Q' h) :
    ∀ (xs : List D) (h : Hm), dcompL g a st Q xs h → dcompL g a st' Q' xs h
  | [], h, k => ⟨k.1, hQ _ k.2⟩
  | x :: xs, h, k => ⟨k.1, hs x h _ _ k.2 fun r h' q => by
      cases r with
      | none => exact dcompL_mono hs hQ xs h' q
      | some y => exact ws_mono q fun kvs q => ⟨q.1, q.2.1, dcompL_mono hs hQ xs _ q.2.2⟩⟩
theorem forL_mono {g : List (Nat × Cell)} {st st' : D → Env → Hm → (Env → Hm → Prop) → Prop} {nx nx' : Env → Hm → Prop} (hs : ∀ x e h R R', st x e h R → (∀ e' h', R e' h' → R' e' h') → st' x e h R') (hQ : ∀ e h, nx e h → nx' e h) :
    ∀ (xs : List D) (e : Env) (h : Hm), forL g st nx xs e h → forL g st' nx' xs e h
  | [], e, h, k => ⟨k.1, hQ _ _ k.2⟩
  | x :: xs, e, h, k => ⟨k.1, hs x e h _ _ k.2 fun e' h' q => forL_mono hs hQ xs e' h' q⟩

section
variable {F : FnS} (hF : FMono F)
include hF
mutual
theorem wpE_mono : ∀ (c : CE) (E : XP) (env : Env) (h : Hm) (Q Q' : VQ), wpE F E c env h Q → (∀ d h', Q d h' → Q' d h') → wpE F E c env h Q'
  | .loc i, E, env, h, Q, Q', a, k => by unfold wpE at a ⊢; exact ws_mono a fun d q => k _ _ q
  | .lit d, E, env, h, Q, Q', a, k => by unfold wpE at a ⊢; exact k _ _ a
  | .tup es, E, env, h, Q, Q', a, k => by unfold wpE at a ⊢; exact wpEs_mono es E env h _ _ a fun d h' q => k _ _ q
  | .lst es, E, env, h, Q, Q', a, k => by unfold wpE at a ⊢; exact wpEs_mono es E env h _ _ a fun d h' q => k _ _ q
  | .dct es, E, env, h, Q, Q', a, k => by unfold wpE at a ⊢; exact wpEs_mono es E env h _ _ a fun d h' q => ws_mono q fun _ q => ws_mono q fun _ q => k _ _ q
  | .dctP es, E, env, h, Q, Q', a, k => by unfold wpE at a ⊢; exact wpEs_mono es E env _ _ _ a fun d h' q => ws_mono q fun _ q => ⟨q.1, q.2.1, q.2.2.1, ws_mono q.2.2.2 fun _ q => k _ _ q⟩
  | .bin op x y, E, env, h, Q, Q', a, k => by unfold wpE at a ⊢; exact wpE_mono x E env h _ _ a fun _ h1 q => wpE_mono y E env h1 _ _ q fun _ _ q => ws_mono q fun _ q => k _ _ q
  | .neg x, E, env, h, Q, Q', a, k => by
    unfold wpE at a ⊢; exact wpE_mono x E env h _ _ a fun d h1 q => by
      cases d with
      | int i => exact k _ _ q
      | _ => exact q
  | .not x, E, env, h, Q, Q', a, k => by unfold wpE at a ⊢; exact wpE_mono x E env h _ _ a fun d h1 q => ws_mono q fun _ q => k _ _ q
  | .and x y, E, env, h, Q, Q', a, k => by
    unfold wpE at a ⊢; exact wpE_mono x E env h _ _ a fun d h1 q => ws_mono q fun b q => by
      cases b with
      | true => exact wpE_mono y E env h1 _ _ q k
      | false => exact k _ _ q
  | .or x y, E, env, h, Q, Q', a, k => by
    unfold wpE at a ⊢; exact wpE_mono x E env h _ _ a fun d h1 q => ws_mono q fun b q => by
      cases b with
      | true => exact k _ _ q
      | false => exact wpE_mono y E env h1 _ _ q k
  | .cmp op x y, E, env, h, Q, Q', a, k => by unfold wpE at a ⊢; exact wpE_mono x E env h _ _ a fun _ h1 q => wpE_mono y E env h1 _ _ q fun _ _ q => ws_mono q fun _ q => k _ _ q
  | .chn op op' x y z, E, env, h, Q, Q', a, k => by
    unfold wpE at a ⊢; exact wpE_mono x E env h _ _ a fun _ h1 q => wpE_mono y E env h1 _ _ q fun _ h2 q => ws_mono q fun b q => by
      cases b with
      | true => exact wpE_mono z E env h2 _ _ q fun _ _ q => ws_mono q fun _ q => k _ _ q
      | false => exact k _ _ q
  | .ife c x y, E, env, h, Q, Q', a, k => by
    unfold wpE at a ⊢; exact wpE_mono c E env h _ _ a fun d h1 q => ws_mono q fun b q => by
      cases b with
      | true => exact wpE_mono x E env h1 _ _ q k
      | false => exact wpE_mono y E env h1 _ _ q k
  | .call f es dv pm, E, env, h, Q, Q', a, k => by unfold wpE at a ⊢; exact wpEs_mono es E env h _ _ a fun _ h1 q => ws_mono q fun _ q => hF _ _ _ _ _ _ q k
  | .blt b es, E, env, h, Q, Q', a, k => by unfold wpE at a ⊢; exact wpEs_mono es E env h _ _ a fun _ h1 q => ws_mono q fun _ q => k _ _ q
  | .meth b o es, E, env, h, Q, Q', a, k => by unfold wpE at a ⊢; exact wpE_mono o E env h _ _ a fun _ h1 q => ⟨q.1, wpEs_mono es E env h1 _ _ q.2 fun _ _ q => ws_mono q fun _ q => k _ _ q⟩
  | .idx x i, E, env, h, Q, Q', a, k => by unfold wpE at a ⊢; exact wpE_mono x E env h _ _ a fun _ h1 q => wpE_mono i E env h1 _ _ q fun _ _ q => ws_mono q fun _ q => k _ _ q
  | .slc x i j, E, env, h, Q, Q', a, k => by unfold wpE at a ⊢; exact wpE_mono x E env h _ _ a fun _ h1 q => wpE_mono i E env h1 _ _ q fun _ h2 q => ws_mono q fun _ q => wpE_mono j E env h2 _ _ q fun _ _ q => ws_mono q fun _ q => ws_mono q fun _ q => k _ _ q
  | .comp own p kd it cs elt, E, env, h, Q, Q', a, k => by
    unfold wpE at a ⊢
    refine wpEs_mono it E env h _ _ a fun _ h1 q => ws_mono q fun I q => ?_
    refine compL_mono ?_ ?_ _ _ q
    · intro x h2 R R' a r
      refine wpP_mono _ _ _ _ _ a fun e2 q => wpCs_mono cs e2 h2 _ _ q fun b h3 q => ?_
      cases b with
      | true => exact wpE_mono elt _ e2 h3 _ _ q fun _ _ q => r _ _ q
      | false => exact r _ _ q
    · exact fun _ q => k _ _ q
  | .dcomp own p kd it cs ke va, E, env, h, Q, Q', a, k => by
    unfold wpE at a ⊢
    refine wpEs_mono it E env h _ _ a fun _ h1 q => ws_mono q fun I q => ?_
    refine dcompL_mono ?_ ?_ _ _ q
    · intro x h2 R R' a r
      refine wpP_mono _ _ _ _ _ a fun e2 q => wpCs_mono cs e2 h2 _ _ q fun b h3 q => ?_
      cases b with
      | true => exact wpE_mono ke _ e2 h3 _ _ q fun _ h4 q => wpE_mono va _ e2 h4 _ _ q fun _ _ q => r _ _ q
      | false => exact r _ _ q
    · exact fun _ q => k _ _ q
theorem wpEs_mono : ∀ (es : List CE) (E : XP) (env : Env) (h : Hm) (Q Q' : List D → Hm → Prop), wpEs F E es env h Q → (∀ d h', Q d h' → Q' d h') → wpEs F E es env h Q'
  | [], E, env, h, Q, Q', a, k => by unfold wpEs at a ⊢; exact k _ _ a
  | e :: es, E, env, h, Q, Q', a, k => by unfold wpEs at a ⊢; exact wpE_mono e E env h _ _ a fun _ h1 q => wpEs_mono es E env h1 _ _ q fun _ _ q => k _ _ q
theorem wpCs_mono : ∀ (cs : List CE) (env : Env) (h : Hm) (Q Q' : Bool → Hm → Prop), wpCs F cs env h Q → (∀ d h', Q d h' → Q' d h') → wpCs F cs env h Q'
  | [], env, h, Q, Q', a, k => by unfold wpCs at a ⊢; exact k _ _ a
  | c :: cs, env, h, Q, Q', a, k => by
    unfold wpCs at a ⊢
    exact wpE_mono c _ env h _ _ a fun d h1 q => ws_mono q fun b q => by
      cases b with
      | true => exact wpCs_mono cs env h1 _ _ q k
      | false => exact k _ _ q
end
/-- the ends asking less -/
structure Ends.Le (Z Z' : Ends) : Prop where
  nx : ∀ e h, Z.nx e h → Z'.nx e h
  rt : ∀ d h, Z.rt d h → Z'.rt d h
  bk : ∀ e h, Z.bk e h → Z'.bk e h
  ct : ∀ e h, Z.ct e h → Z'.ct e h
mutual
theorem wpS_mono : ∀ (s : CS) (E : XP) (env : Env) (h : Hm) (Z Z' : Ends), wpS F E s env h Z → Z.Le Z' → wpS F E s env h Z'
  | .asg p e, E, env, h, Z, Z', a, k => by unfold wpS at a ⊢; exact wpE_mono hF e E env h _ _ a fun v h1 q => wpP_mono _ _ _ _ _ q fun _ q => k.nx _ _ q
  | .set o i e, E, env, h, Z, Z', a, k => by unfold wpS at a ⊢; exact wpE_mono hF e E env h _ _ a fun v h1 q => wpE_mono hF o E env h1 _ _ q fun v h2 q => wpE_mono hF i E env h2 _ _ q fun v h3 q => ws_mono q fun _ q => k.nx _ _ q
  | .aug i op e, E, env, h, Z, Z', a, k => by unfold wpS at a ⊢; exact ws_mono a fun x q => wpE_mono hF e E env h _ _ q fun y h1 q => ws_mono q fun _ q => k.nx _ _ q
  | .augs o i op e, E, env, h, Z, Z', a, k => by unfold wpS at a ⊢; exact wpE_mono hF o E env h _ _ a fun v h1 q => wpE_mono hF i E env h1 _ _ q fun v h2 q => ws_mono q fun _ q => wpE_mono hF e E env h2 _ _ q fun v h3 q => ws_mono q fun _ q => ws_mono q fun _ q => k.nx _ _ q
  | .expr e, E, env, h, Z, Z', a, k => by unfold wpS at a ⊢; exact wpE_mono hF e E env h _ _ a fun v h1 q => k.nx _ _ q
  | .ret e, E, env, h, Z, Z', a, k => by unfold wpS at a ⊢; exact wpE_mono hF e E env h _ _ a fun v h1 q => k.rt _ _ q
  | .pass, E, env, h, Z, Z', a, k => by unfold wpS at a ⊢; exact k.nx _ _ a
  | .brk, E, env, h, Z, Z', a, k => by unfold wpS at a ⊢; exact k.bk _ _ a
  | .cont, E, env, h, Z, Z', a, k => by unfold wpS at a ⊢; exact k.ct _ _ a
  | .ite c x y, E, env, h, Z, Z', a, k => by
    unfold wpS at a ⊢
    exact wpE_mono hF c E env h _ _ a fun v h1 q => ws_mono q fun b q => by
      cases b with
      | true => exact wpSs_mono x E env h1 Z Z' q k
      | false => exact wpSs_mono y E env h1 Z Z' q k
  | .whil c x, E, env, h, Z, Z', a, k => by
    unfold wpS at a ⊢
    obtain ⟨W, w0, w1⟩ := a
    refine ⟨W, w0, fun m e h' q => wpE_mono hF c E e h' _ _ (w1 m e h' q) fun v h1 q => ws_mono q fun b q => ?_⟩
    cases b with
    | true => exact wpSs_mono x E e h1 _ _ q ⟨fun _ _ q => q, k.rt, k.nx, fun _ _ q => q⟩
    | false => exact k.nx _ _ q
  | .for_ p kd it x, E, env, h, Z, Z', a, k => by
    unfold wpS at a ⊢
    refine wpEs_mono hF it E env h _ _ a fun _ h1 q => ws_mono q fun I q => ?_
    refine forL_mono ?_ k.nx _ _ _ q
    intro v e h2 R R' a r
    refine wpP_mono _ _ _ _ _ a fun e2 q => ?_
    refine wpSs_mono x E e2 h2 _ _ q ⟨?_, ?_, ?_, ?_⟩
    · exact r
    · exact k.rt
    · exact k.nx
    · exact r
theorem wpSs_mono : ∀ (s : List CS) (E : XP) (env : Env) (h : Hm) (Z Z' : Ends), wpSs F E s env h Z → Z.Le Z' → wpSs F E s env h Z'
  | [], E, env, h, Z, Z', a, k => by unfold wpSs at a ⊢; exact k.nx _ _ a
  | s :: ss, E, env, h, Z, Z', a, k => by
    unfold wpSs at a ⊢
    exact wpS_mono s E env h _ _ a ⟨fun e' h' q => wpSs_mono ss E e' h' Z Z' q k, k.rt, k.bk, k.ct⟩
end
end
theorem FW_mono (P : Prog) : ∀ n, FMono (FW P n)
  | 0, _, _, _, _, _, _, h, _ => h.elim
  | n + 1, f, ds, h, Q, Q', E, a, k => by
    unfold FW at a ⊢
    cases e : P.lookup f with
    | none => rw [e] at a; exact a.elim
    | some d =>
      rw [e] at a
      exact ⟨a.1, wpSs_mono (FW_mono P n) _ _ _ _ _ _ a.2 ⟨fun _ _ q => k _ _ q, k, fun _ _ q => q, fun _ _ q => q⟩⟩
end M

end
section
set_option Elab.async false
set_option linter.all false
set_option autoImplicit false
set_option maxRecDepth 100000
set_option maxHeartbeats 4000000
/-! the relation between mini's values and heap and the layer's -/
namespace M
open PySem (Addr Obj Value Str)
abbrev LHp := L2.Hp
abbrev LV := L2.V

mutual
inductive RV (K : PySem.W.Frag) (ρ : List Addr) (H : LHp) : D → LV → Prop
  | non : RV K ρ H .non .non
  | bl (b : Bool) : RV K ρ H (.bl b) (.bl b)
  | int (i : Int) : RV K ρ H (.int i) (.int i)
  | str (s : List Nat) (h : sOK s = true) : RV K ρ H (.str s) (.str ⟨s.toArray⟩)
  | tup {a : Addr} {xs : List LV} {ds : List D} : L2.SqT K H a xs → RVs K ρ H ds xs → RV K ρ H (.tup ds) (.ref a)
  | ref {i : Nat} {a : Addr} : ρ[i]? = some a → RV K ρ H (.ref i) (.ref a)
inductive RVs (K : PySem.W.Frag) (ρ : List Addr) (H : LHp) : List D → List LV → Prop
  | nil : RVs K ρ H [] []
  | cons {d : D} {v : LV} {ds : List D} {vs : List LV} : RV K ρ H d v → RVs K ρ H ds vs → RVs K ρ H (d :: ds) (v :: vs)
end

/-- tuples and locked things stay -/
structure TK (H H' : LHp) : Prop where
  tup : ∀ b xs, H b = some (.tup xs) → H' b = some (.tup xs)
  frz : ∀ b o u, H b = some (.frz o (.lst u)) → H' b = some (.frz o (.lst u))
  frt : ∀ b o u, H b = some (.frz o (.tup u)) → H' b = some (.frz o (.tup u))
theorem TK.refl (H : LHp) : TK H H := ⟨fun _ _ h => h, fun _ _ _ h => h, fun _ _ _ h => h⟩
theorem TK.trans {H H1 H2 : LHp} (a : TK H H1) (b : TK H1 H2) : TK H H2 := ⟨fun c xs h => b.tup c xs (a.tup c xs h), fun c o u h => b.frz c o u (a.frz c o u h), fun c o u h => b.frt c o u (a.frt c o u h)⟩
theorem TK.sqT {K : PySem.W.Frag} {H H' : LHp} {a : Addr} {xs : List LV} (t : TK H H') (h : L2.SqT K H a xs) : L2.SqT K H' a xs := by
  rcases h with (h | ⟨o, h⟩) | h
  · exact .inl (.inl (t.tup _ _ h))
  · exact .inl (.inr ⟨o, t.frt _ _ _ h⟩)
  · exact .inr h
theorem TK.new {H : LHp} {p : Addr} {o : L2.HO} (h : H p = none) : TK H (L2.upd H p o) :=
  ⟨fun b xs e => by rw [L2.upd_ne (L2.ne_of_none e h)]; exact e, fun b ob u e => by rw [L2.upd_ne (L2.ne_of_none e h)]; exact e, fun b ob u e => by rw [L2.upd_ne (L2.ne_of_none e h)]; exact e⟩
/-- a thing that changes -/
def Chg : L2.HO → Prop
  | .lst _ => True
  | .ext _ => True
  | .dK _ => True
  | _ => False
theorem TK.put {H : LHp} {p : Addr} {o u : L2.HO} (h : H p = some u) (c : Chg u) : TK H (L2.upd H p o) := by
  refine ⟨fun b xs e => ?_, fun b ob u' e => ?_, fun b ob u' e => ?_⟩
  · rw [L2.upd_ne (L2.ne_of e h fun z => by subst z; exact c)]; exact e
  · rw [L2.upd_ne (L2.ne_of e h fun z => by subst z; exact c)]; exact e
  · rw [L2.upd_ne (L2.ne_of e h fun z => by subst z; exact c)]; exact e

section
variable {K : PySem.W.Frag} {ρ ρ' : List Addr} {H H' : LHp}
theorem pre_get {i : Nat} {a : Addr} (p : ρ <+: ρ') (h : ρ[i]? = some a) : ρ'[i]? = some a := by
  obtain ⟨t, rfl⟩ := p
  have hi : i < ρ.length := (List.getElem?_eq_some_iff.mp h).1
  rw [List.getElem?_append_left hi]; exact h
mutual
theorem RV.mono (p : ρ <+: ρ') (t : TK H H') : ∀ {d : D} {v : LV}, RV K ρ H d v → RV K ρ' H' d v
  | _, _, .non => .non
  | _, _, .bl b => .bl b
  | _, _, .int i => .int i
  | _, _, .str s h => .str s h
  | _, _, .tup h r => .tup (t.sqT h) (RVs.mono p t r)
  | _, _, .ref h => .ref (pre_get p h)
theorem RVs.mono (p : ρ <+: ρ') (t : TK H H') : ∀ {ds : List D} {vs : List LV}, RVs K ρ H ds vs → RVs K ρ' H' ds vs
  | _, _, .nil => .nil
  | _, _, .cons h r => .cons (RV.mono p t h) (RVs.mono p t r)
end
theorem RVs.length : ∀ {ds : List D} {vs : List LV}, RVs K ρ H ds vs → ds.length = vs.length
  | _, _, .nil => rfl
  | _, _, .cons _ r => congrArg (· + 1) r.length
theorem RVs.get : ∀ {ds : List D} {vs : List LV} {i : Nat} {d : D}, RVs K ρ H ds vs → ds[i]? = some d → ∃ v, vs[i]? = some v ∧ RV K ρ H d v
  | _, _, _, _, .nil, e => by simp at e
  | _, _, 0, _, .cons h _, e => by simp at e; subst e; exact ⟨_, rfl, h⟩
  | _, _, i + 1, d, .cons _ r, e => by
    obtain ⟨v, h1, h2⟩ := RVs.get (i := i) (d := d) r (by simpa using e)
    exact ⟨v, by simpa using h1, h2⟩
theorem RVs.getV : ∀ {ds : List D} {vs : List LV} {i : Nat} {v : LV}, RVs K ρ H ds vs → vs[i]? = some v → ∃ d, ds[i]? = some d ∧ RV K ρ H d v
  | _, _, _, _, .nil, e => by simp at e
  | _, _, 0, _, .cons h _, e => by simp at e; subst e; exact ⟨_, rfl, h⟩
  | _, _, i + 1, v, .cons _ r, e => by
    obtain ⟨d, h1, h2⟩ := RVs.getV (i := i) (v := v) r (by simpa using e)
    exact ⟨d, by simpa using h1, h2⟩
theorem RVs.append : ∀ {ds es : List D} {vs ws : List LV}, RVs K ρ H ds vs → RVs K ρ H es ws → RVs K ρ H (ds ++ es) (vs ++ ws)
  | _, _, _, _, .nil, s => s
  | _, _, _, _, .cons h r, s => .cons h (RVs.append r s)
theorem RVs.take : ∀ {ds : List D} {vs : List LV} (n : Nat), RVs K ρ H ds vs → RVs K ρ H (ds.take n) (vs.take n)
  | _, _, 0, _ => .nil
  | _, _, _ + 1, .nil => .nil
  | _, _, n + 1, .cons h r => .cons h (RVs.take n r)
theorem RVs.drop : ∀ {ds : List D} {vs : List LV} (n : Nat), RVs K ρ H ds vs → RVs K ρ H (ds.drop n) (vs.drop n)
  | _, _, 0, r => r
  | _, _, _ + 1, .nil => .nil
  | _, _, n + 1, .cons _ r => RVs.drop n r
theorem RVs.set {d : D} {v : LV} (h : RV K ρ H d v) : ∀ {ds : List D} {vs : List LV} (n : Nat), RVs K ρ H ds vs → RVs K ρ H (ds.set n d) (vs.set n v)
  | _, _, _, .nil => .nil
  | _, _, 0, .cons _ r => .cons h r
  | _, _, n + 1, .cons q r => .cons q (RVs.set h n r)
theorem RVs.reverse : ∀ {ds : List D} {vs : List LV}, RVs K ρ H ds vs → RVs K ρ H ds.reverse vs.reverse
  | _, _, .nil => .nil
  | _, _, .cons h r => by rw [List.reverse_cons, List.reverse_cons]; exact RVs.append (RVs.reverse r) (.cons h .nil)
theorem RVs.eraseIdx : ∀ {ds : List D} {vs : List LV} (n : Nat), RVs K ρ H ds vs → RVs K ρ H (ds.eraseIdx n) (vs.eraseIdx n)
  | _, _, _, .nil => .nil
  | _, _, 0, .cons _ r => r
  | _, _, n + 1, .cons q r => .cons q (RVs.eraseIdx n r)
theorem RVs.dropLast {ds : List D} {vs : List LV} (r : RVs K ρ H ds vs) : RVs K ρ H ds.dropLast vs.dropLast := by
  rw [List.dropLast_eq_take, List.dropLast_eq_take, ← r.length]
  exact r.take _
theorem RVs.rep {ds : List D} {vs : List LV} (r : RVs K ρ H ds vs) : ∀ n : Nat, RVs K ρ H (List.replicate n ds).flatten (List.replicate n vs).flatten
  | 0 => .nil
  | n + 1 => by rw [List.replicate_succ, List.replicate_succ, List.flatten_cons, List.flatten_cons]; exact r.append (r.rep n)
end
end M

end
section
set_option Elab.async false
set_option linter.all false
set_option autoImplicit false
set_option maxRecDepth 100000
set_option maxHeartbeats 4000000
/-! the heaps' relation, readings of mini's meaning -/
namespace M
open PySem (Addr Obj Value Str)

theorem lim_eq : PySem.sizeLine = LIM := PySem.sizeLine_eq

/-- an int or text key -/
def leafKey : D → Option L2.Key
  | .int i => some (.inl i)
  | .str s => some (.inr ⟨s.toArray⟩)
  | _ => none
mutual
/-- a key at any depth -/
def nkey : D → PySem.NestedKey
  | .non => .none
  | .bl b => .num (if b then 1 else 0)
  | .int i => .num i
  | .str s => .text ⟨s.toArray⟩
  | .tup xs => .tup (nkeys xs)
  | .lst _ => .none
  | .ref _ => .none
def nkeys : List D → List PySem.NestedKey
  | [] => []
  | x :: xs => nkey x :: nkeys xs
end

section
variable (P : PySem.Program) (w : PySem.World) (K : PySem.W.Frag)
/-- the entries of a dict with int and text keys -/
inductive LK (ρ : List Addr) (H : LHp) : List (D × D) → List (L2.Key × LV) → Prop
  | nil : LK ρ H [] []
  | cons {k v : D} {kk : L2.Key} {vv : LV} {r : List (D × D)} {r' : List (L2.Key × LV)} : leafKey k = some kk → RV K ρ H k (L2.kV kk) → RV K ρ H v vv → LK ρ H r r' → LK ρ H ((k, v) :: r) ((kk, vv) :: r')
/-- the entries of a dict with tuple keys -/
inductive TKs (ρ : List Addr) (H : LHp) : List (D × D) → List (PySem.NestedKey × Addr × Value) → Prop
  | nil : TKs ρ H [] []
  | cons {ks : List D} {v : D} {a : Addr} {vv : LV} {u : Value} {r : List (D × D)} {r' : List (PySem.NestedKey × Addr × Value)} :
      keyOK (.tup ks) = true → RV K ρ H (.tup ks) (.ref a) → RV K ρ H v vv → L2.RelV vv u → TKs ρ H r r' → TKs ρ H ((.tup ks, v) :: r) ((nkey (.tup ks), a, u) :: r')
/-- the object of a dict with tuple keys -/
def DObj (ρ : List Addr) (H : LHp) (o : Obj) (kvs : List (D × D)) : Prop :=
  ∃ xs es ep, o.ExactDict ∧ o.data = .dict es ep ∧ es.toList = xs.map (PySem.entryOfKey (PySem.nestedKind P w)) ∧ (xs.map (·.1)).Nodup ∧ TKs K ρ H kvs xs ∧ kvs ≠ [] ∧ kvs.length ≤ LIM
/-- a list of the written part -/
def KLst (a : Addr) (xs : List LV) : Prop := ∃ (o : Obj) (its : Array Value) (n : Nat), K.lookup a = some o ∧ o.cls = .type "list" ∧ o.dict = none ∧ o.data = .seq its n ∧ its.size ≤ PySem.sizeLine ∧ L2.Vals xs its.toList
def CellOk (ρ : List Addr) (H : LHp) (a : Addr) : Cell → Prop
  | .lst ds => ∃ xs, H a = some (.lst xs) ∧ RVs K ρ H ds xs
  | .ro ds => ∃ xs, ((∃ ob, H a = some (.frz ob (.lst xs))) ∨ KLst K a xs) ∧ RVs K ρ H ds xs
  | .dct kvs => (∃ kvs', H a = some (.dK kvs') ∧ LK K ρ H kvs kvs' ∧ kvs.length ≤ LIM) ∨
      (a == PySem.sysModules) = false ∧ ∃ o, H a = some (.ext fun h => h.get? a = some o) ∧ DObj P w K ρ H o kvs
structure HR (ρ : List Addr) (hp : Hm) (H : LHp) : Prop where
  len : ρ.length = hp.length
  ok : ∀ (i : Nat) (a : Addr) (c : Cell), ρ[i]? = some a → hp[i]? = some c → CellOk P w K ρ H a c
  inj : ∀ (i j : Nat) (a : Addr) (c c' : Cell), ρ[i]? = some a → ρ[j]? = some a → hp[i]? = some c → hp[j]? = some c' → (∀ xs, c ≠ .ro xs) → (∀ xs, c' ≠ .ro xs) → i = j
end

section
variable {P : PySem.Program} {w : PySem.World} {K : PySem.W.Frag} {ρ ρ' : List Addr} {H H' : LHp} {hp : Hm}
theorem LK.mono (p : ρ <+: ρ') (t : TK H H') : ∀ {l : List (D × D)} {l' : List (L2.Key × LV)}, LK K ρ H l l' → LK K ρ' H' l l'
  | _, _, .nil => .nil
  | _, _, .cons a b c r => .cons a (b.mono p t) (c.mono p t) (LK.mono p t r)
theorem TKs.mono (p : ρ <+: ρ') (t : TK H H') : ∀ {l : List (D × D)} {l' : List (PySem.NestedKey × Addr × Value)}, TKs K ρ H l l' → TKs K ρ' H' l l'
  | _, _, .nil => .nil
  | _, _, .cons a b c d r => .cons a (b.mono p t) (c.mono p t) d (TKs.mono p t r)
theorem DObj.mono (p : ρ <+: ρ') (t : TK H H') {o : Obj} {kvs : List (D × D)} (h : DObj P w K ρ H o kvs) : DObj P w K ρ' H' o kvs := by
  obtain ⟨xs, es, ep, h1, h2, h3, h4, h5, h6, h7⟩ := h
  exact ⟨xs, es, ep, h1, h2, h3, h4, h5.mono p t, h6, h7⟩
/-- a cell stays, its own place being kept -/
theorem CellOk.mono (p : ρ <+: ρ') (t : TK H H') {a : Addr} {c : Cell} (h : CellOk P w K ρ H a c) (ha : (∀ xs, c ≠ .ro xs) → ∀ o, H a = some o → H' a = some o) : CellOk P w K ρ' H' a c := by
  cases c with
  | lst ds =>
    obtain ⟨xs, e, r⟩ := h
    exact ⟨xs, ha (fun _ z => nomatch z) _ e, r.mono p t⟩
  | ro ds =>
    obtain ⟨xs, e, r⟩ := h
    refine ⟨xs, ?_, r.mono p t⟩
    rcases e with ⟨ob, e⟩ | e
    · exact .inl ⟨ob, t.frz _ _ _ e⟩
    · exact .inr e
  | dct kvs =>
    rcases h with ⟨kvs', e, r, z⟩ | ⟨hs, o, e, r⟩
    · exact .inl ⟨kvs', ha (fun _ z => nomatch z) _ e, r.mono p t, z⟩
    · exact .inr ⟨hs, o, ha (fun _ z => nomatch z) _ e, r.mono p t⟩
theorem CellOk.there {a : Addr} {c : Cell} (h : CellOk P w K ρ H a c) (hc : ∀ xs, c ≠ .ro xs) : ∃ o, H a = some o ∧ Chg o := by
  cases c with
  | lst ds =>
    obtain ⟨xs, e, r⟩ := h
    exact ⟨_, e, trivial⟩
  | ro ds => exact absurd rfl (hc ds)
  | dct kvs =>
    rcases h with ⟨kvs', e, r, z⟩ | ⟨hs, o, e, r⟩
    · exact ⟨_, e, trivial⟩
    · exact ⟨_, e, trivial⟩
theorem HR.cell (h : HR P w K ρ hp H) {i : Nat} {a : Addr} {c : Cell} (hi : ρ[i]? = some a) (hc : hp[i]? = some c) : CellOk P w K ρ H a c := h.ok i a c hi hc
/-- the heap grows, nothing that is tracked here changes -/
theorem HR.grow (h : HR P w K ρ hp H) (t : TK H H') (k : ∀ a o, H a = some o → Chg o → H' a = some o) : HR P w K ρ hp H' :=
  ⟨h.len, fun i a c hi hc => (h.ok i a c hi hc).mono (List.prefix_refl _) t fun nr o e => by
    obtain ⟨o', e', c'⟩ := (h.ok i a c hi hc).there nr
    rw [e] at e'; cases e'
    exact k a o e c', h.inj⟩
theorem HR.new (h : HR P w K ρ hp H) {p : Addr} {o : L2.HO} (hn : H p = none) : HR P w K ρ hp (L2.upd H p o) :=
  h.grow (TK.new hn) fun a u e _ => by rw [L2.upd_ne (L2.ne_of_none e hn)]; exact e
theorem pre_snoc {α : Type} (l : List α) (x : α) : l <+: l ++ [x] := ⟨[x], rfl⟩
/-- a new cell -/
theorem HR.alloc (h : HR P w K ρ hp H) {p : Addr} {o : L2.HO} {c : Cell} (hn : H p = none) (hc : CellOk P w K (ρ ++ [p]) (L2.upd H p o) p c) (nr : ∀ xs, c ≠ .ro xs) : HR P w K (ρ ++ [p]) (hp ++ [c]) (L2.upd H p o) := by
  have hl := h.len
  have get : ∀ {i : Nat} {a : Addr}, (ρ ++ [p])[i]? = some a → (i < ρ.length ∧ ρ[i]? = some a) ∨ (i = ρ.length ∧ a = p) := fun {i a} e => by
    by_cases hi : i < ρ.length
    · rw [List.getElem?_append_left hi] at e; exact .inl ⟨hi, e⟩
    · rw [List.getElem?_append_right (by omega)] at e
      by_cases h0 : i - ρ.length = 0
      · rw [h0] at e; simp at e; exact .inr ⟨by omega, e.symm⟩
      · rw [List.getElem?_eq_none (by simp; omega)] at e; cases e
  have getc : ∀ {i : Nat} {c' : Cell}, i < ρ.length → (hp ++ [c])[i]? = some c' → hp[i]? = some c' := fun {i c'} hi e => by
    rwa [List.getElem?_append_left (by omega)] at e
  have getl : ∀ {c' : Cell}, (hp ++ [c])[ρ.length]? = some c' → c' = c := fun {c'} e => by
    rw [hl, List.getElem?_append_right (Nat.le_refl _)] at e; simp at e; exact e.symm
  refine ⟨by simp [hl], fun i a c' hi hc' => ?_, fun i j a c1 c2 hi hj h1 h2 n1 n2 => ?_⟩
  · rcases get hi with ⟨hlt, ha⟩ | ⟨rfl, rfl⟩
    · have q := h.ok i a c' ha (getc hlt hc')
      refine q.mono (pre_snoc _ _) (TK.new hn) fun nr' o' e => ?_
      rw [L2.upd_ne (L2.ne_of_none e hn)]; exact e
    · rw [getl hc']; exact hc
  · rcases get hi with ⟨hlt, ha⟩ | ⟨rfl, rfl⟩
    · rcases get hj with ⟨hlt', hb⟩ | ⟨rfl, rfl⟩
      · exact h.inj i j a c1 c2 ha hb (getc hlt h1) (getc hlt' h2) n1 n2
      · obtain ⟨o', e', _⟩ := (h.ok i a c1 ha (getc hlt h1)).there n1
        rw [hn] at e'; cases e'
    · rcases get hj with ⟨hlt', hb⟩ | ⟨rfl, _⟩
      · obtain ⟨o', e', _⟩ := (h.ok j a c2 hb (getc hlt' h2)).there n2
        rw [hn] at e'; cases e'
      · rfl
/-- a cell is changed -/
theorem HR.put (h : HR P w K ρ hp H) {i : Nat} {a : Addr} {c c' : Cell} {o u : L2.HO} (hi : ρ[i]? = some a) (hc : hp[i]? = some c) (nr : ∀ xs, c ≠ .ro xs) (hu : H a = some u) (cu : Chg u) (nr' : ∀ xs, c' ≠ .ro xs)
    (hc' : CellOk P w K ρ (L2.upd H a o) a c') : HR P w K ρ (hp.set i c') (L2.upd H a o) := by
  have t : TK H (L2.upd H a o) := TK.put hu cu
  have hlt : i < hp.length := (List.getElem?_eq_some_iff.mp hc).1
  refine ⟨by simp [h.len], fun j b d hj hd => ?_, fun j l b d1 d2 hj hl h1 h2 n1 n2 => ?_⟩
  · by_cases e : i = j
    · subst e
      rw [List.getElem?_set_self hlt] at hd
      cases hd
      rw [hi] at hj; cases hj
      exact hc'
    · rw [List.getElem?_set_ne e] at hd
      refine (h.ok j b d hj hd).mono (List.prefix_refl _) t fun nd o' e' => ?_
      have hb : b ≠ a := fun z => by
        subst z
        exact e (h.inj i j b c d hi hj hc hd nr nd)
      rw [L2.upd_ne hb]; exact e'
  · have old : ∀ {j : Nat} {d : Cell}, (hp.set i c')[j]? = some d → (∀ xs, d ≠ .ro xs) → ∃ d', hp[j]? = some d' ∧ ∀ xs, d' ≠ .ro xs := fun {j d} hd nd => by
      by_cases e : i = j
      · subst e; exact ⟨c, hc, nr⟩
      · rw [List.getElem?_set_ne e] at hd; exact ⟨d, hd, nd⟩
    obtain ⟨e1, q1, m1⟩ := old h1 n1
    obtain ⟨e2, q2, m2⟩ := old h2 n2
    exact h.inj j l b e1 e2 hj hl q1 q2 m1 m2

/-! ### a def's slots -/
def EnvR (K : PySem.W.Frag) (ρ : List Addr) (H : LHp) (env : Env) (σ : L2.St) : Prop :=
  σ.length = env.length ∧ ∀ (i : Nat) (d : D), env[i]? = some (some d) → ∃ v, σ[i]? = some (some v) ∧ RV K ρ H d v
theorem EnvR.mono {env : Env} {σ : L2.St} (p : ρ <+: ρ') (t : TK H H') (h : EnvR K ρ H env σ) : EnvR K ρ' H' env σ :=
  ⟨h.1, fun i d e => let ⟨v, a, b⟩ := h.2 i d e; ⟨v, a, b.mono p t⟩⟩
theorem EnvR.set {env : Env} {σ : L2.St} {i : Nat} {d : D} {v : LV} (h : EnvR K ρ H env σ) (r : RV K ρ H d v) : EnvR K ρ H (env.set i (some d)) (σ.set i (some v)) := by
  refine ⟨by simp [h.1], fun j d' e => ?_⟩
  by_cases hj : i = j
  · subst hj
    by_cases hi : i < env.length
    · rw [List.getElem?_set_self hi] at e
      cases e
      exact ⟨v, by rw [List.getElem?_set_self (by rw [h.1]; exact hi)], r⟩
    · rw [List.getElem?_eq_none (by simp; omega)] at e; cases e
  · rw [List.getElem?_set_ne hj] at e
    obtain ⟨v', a, b⟩ := h.2 j d' e
    exact ⟨v', by rw [List.getElem?_set_ne hj]; exact a, b⟩
theorem EnvR.none {env : Env} {σ : L2.St} {i : Nat} (h : EnvR K ρ H env σ) : EnvR K ρ H (env.set i none) (σ.set i none) := by
  refine ⟨by simp [h.1], fun j d' e => ?_⟩
  by_cases hj : i = j
  · subst hj
    by_cases hi : i < env.length
    · rw [List.getElem?_set_self hi] at e; cases e
    · rw [List.getElem?_eq_none (by simp; omega)] at e; cases e
  · rw [List.getElem?_set_ne hj] at e
    obtain ⟨v', a, b⟩ := h.2 j d' e
    exact ⟨v', by rw [List.getElem?_set_ne hj]; exact a, b⟩
theorem EnvR.wipe {env : Env} {σ : L2.St} (h : EnvR K ρ H env σ) : ∀ vs : List Nat, EnvR K ρ H (wipeE env vs) (L2.wipe σ vs)
  | [] => h
  | _ :: r => (EnvR.wipe h r).none
end

/-! ### readings -/
section
variable (P : PySem.Program) (w : PySem.World) (K : PySem.W.Frag)
/-- what is wanted behind, in the layer's words -/
def PV (ρ : List Addr) (H : LHp) (Q : L2.VK) : VQ := fun d hp' => ∀ (ρ' : List Addr) (H' : LHp) (v : LV), ρ <+: ρ' → TK H H' → HR P w K ρ' hp' H' → RV K ρ' H' d v → Q v H'
/-- an expression's reading by its meaning -/
def rdE (W : Env → Hm → VQ → Prop) : L2.TE := fun σ H Q => ∃ ρ env hp, HR P w K ρ hp H ∧ EnvR K ρ H env σ ∧ W env hp (PV P w K ρ H Q)
/-- a test's -/
def PB (ρ : List Addr) (H : LHp) (Q : Bool → LHp → Prop) : VQ := fun d hp' => ws (truth hp' d) fun k => ∀ (ρ' : List Addr) (H' : LHp), ρ <+: ρ' → TK H H' → HR P w K ρ' hp' H' → Q k H'
def rdT (W : Env → Hm → VQ → Prop) : L2.TT := fun σ H Q => ∃ ρ env hp, HR P w K ρ hp H ∧ EnvR K ρ H env σ ∧ W env hp (PB P w K ρ H Q)
/-- a list of arguments' -/
def PVs (ρ : List Addr) (H : LHp) (Q : List LV → LHp → Prop) : List D → Hm → Prop := fun ds hp' => ∀ (ρ' : List Addr) (H' : LHp) (vs : List LV), ρ <+: ρ' → TK H H' → HR P w K ρ' hp' H' → RVs K ρ' H' ds vs → Q vs H'
def rdA (W : Env → Hm → (List D → Hm → Prop) → Prop) : L2.TA := fun σ H Q => ∃ ρ env hp, HR P w K ρ hp H ∧ EnvR K ρ H env σ ∧ W env hp (PVs P w K ρ H Q)
end
/-- the meaning asks no more of less -/
def Mono (W : Env → Hm → VQ → Prop) : Prop := ∀ env h (Q Q' : VQ), W env h Q → (∀ d h', Q d h' → Q' d h') → W env h Q'

theorem PE.imp {X : L2.Cx} {e : PySem.Expr} {t t' : L2.TE} (h : L2.PE X e t) (k : ∀ σ H Q, t' σ H Q → t σ H Q) : L2.PE X e t' := ⟨fun pins s σ H Q I q => h.run pins s σ H Q I (k σ H Q q)⟩
theorem PT.imp {X : L2.Cx} {e : PySem.Expr} {t t' : L2.TT} (h : L2.PT X e t) (k : ∀ σ H Q, t' σ H Q → t σ H Q) : L2.PT X e t' := ⟨fun pins s σ H Q I q => h.run pins s σ H Q I (k σ H Q q)⟩
theorem PA.imp {X : L2.Cx} {e : List PySem.Expr} {t t' : L2.TA} (h : L2.PA X e t) (k : ∀ σ H Q, t' σ H Q → t σ H Q) : L2.PA X e t' := ⟨fun pos pins s σ H Q I q => h.run pos pins s σ H Q I (k σ H Q q)⟩
theorem PS.imp {X : L2.Cx} {e : PySem.Stmt} {t t' : L2.TS} (h : L2.PS X e t) (k : ∀ D σ H, t' D σ H → t D σ H) : L2.PS X e t' := ⟨fun pins s σ H D I q => h.run pins s σ H D I (k D σ H q)⟩
theorem PSs.imp {X : L2.Cx} {e : List PySem.Stmt} {t t' : L2.TS} (h : L2.PSs X e t) (k : ∀ D σ H, t' D σ H → t D σ H) : L2.PSs X e t' := ⟨fun pins s σ H D I q => h.run pins s σ H D I (k D σ H q)⟩
end M

end
section
set_option Elab.async false
set_option linter.all false
set_option autoImplicit false
set_option maxRecDepth 100000
set_option maxHeartbeats 4000000
/-! expressions: names, constants, operators -/
namespace M
open PySem (Addr Obj Value Str)
section
variable {X : L2.Cx}
abbrev rE (X : L2.Cx) (W : Env → Hm → VQ → Prop) : L2.TE := rdE X.prog X.w X.K W
abbrev rT (X : L2.Cx) (W : Env → Hm → VQ → Prop) : L2.TT := rdT X.prog X.w X.K W
abbrev rA (X : L2.Cx) (W : Env → Hm → (List D → Hm → Prop) → Prop) : L2.TA := rdA X.prog X.w X.K W
abbrev HRX (X : L2.Cx) := HR X.prog X.w X.K
abbrev PVX (X : L2.Cx) := PV X.prog X.w X.K

theorem PV.weak {P : PySem.Program} {w : PySem.World} {K : PySem.W.Frag} {ρ ρ' : List Addr} {H H' : LHp} {Q : L2.VK} (p : ρ <+: ρ') (t : TK H H') {d : D} {h : Hm} (q : PV P w K ρ H Q d h) : PV P w K ρ' H' Q d h :=
  fun ρ2 H2 v p2 t2 hr rv => q ρ2 H2 v (p.trans p2) (t.trans t2) hr rv
/-- where the heap is as it was -/
theorem PV.here {P : PySem.Program} {w : PySem.World} {K : PySem.W.Frag} {ρ : List Addr} {H : LHp} {Q : L2.VK} {d : D} {h : Hm} {v : LV} (q : PV P w K ρ H Q d h) (hr : HR P w K ρ h H) (rv : RV K ρ H d v) : Q v H :=
  q ρ H v (List.prefix_refl _) (TK.refl _) hr rv
/-- a new list -/
theorem PV.newL {P : PySem.Program} {w : PySem.World} {K : PySem.W.Frag} {ρ : List Addr} {H : LHp} {Q : L2.VK} {h : Hm} {ds : List D} {xs : List LV} {p : Addr} (q : PV P w K ρ H Q (.ref h.length) (h ++ [.lst ds])) (hr : HR P w K ρ h H) (r : RVs K ρ H ds xs) (hp : H p = none) :
    Q (.ref p) (L2.upd H p (.lst xs)) := by
  have t : TK H (L2.upd H p (.lst xs)) := TK.new hp
  refine q (ρ ++ [p]) _ _ (pre_snoc _ _) t (hr.alloc hp ⟨xs, L2.upd_same, r.mono (pre_snoc _ _) t⟩ fun _ z => nomatch z) (.ref ?_)
  rw [← hr.len]; simp
/-- a new tuple -/
theorem PV.newT {P : PySem.Program} {w : PySem.World} {K : PySem.W.Frag} {ρ : List Addr} {H : LHp} {Q : L2.VK} {h : Hm} {ds : List D} {xs : List LV} {p : Addr} (q : PV P w K ρ H Q (.tup ds) h) (hr : HR P w K ρ h H) (r : RVs K ρ H ds xs) (hp : H p = none) :
    Q (.ref p) (L2.upd H p (.tup xs)) := by
  have t : TK H (L2.upd H p (.tup xs)) := TK.new hp
  exact q ρ _ _ (List.prefix_refl _) t (hr.new hp) (.tup (L2.SqT.of L2.upd_same) (r.mono (List.prefix_refl _) t))

theorem pe_locM {F : FnS} {E : XP} {i : Nat} {x : Str} {pos : PySem.Pos} (hN : X.N[i]? = some x) (hv : L2.Vis X.env.scope x) (hd : (x == (PySem.Str.ofString "__debug__")) = false) (hcd : (x == (PySem.Str.ofString "__classdict__")) = false) : L2.PE X (.Name x pos) (rE X (wpE F E (.loc i))) :=
  PE.imp (L2.pe_var hN hv hd hcd) fun σ H Q ⟨ρ, env, hp, hr, he, h⟩ => by
    unfold wpE at h
    cases e : env[i]? with
    | none => rw [e] at h; exact h.elim
    | some o =>
      rw [e] at h
      cases o with
      | none => exact h.elim
      | some d =>
        obtain ⟨v, h1, h2⟩ := he.2 i d e
        exact ⟨v, h1, PV.here h hr h2⟩
theorem pe_intM {F : FnS} {E : XP} {i : Int} {j : Nat} {pos : PySem.Pos} : L2.PE X (.Constant (.int i) j pos) (rE X (wpE F E (.lit (.int i)))) :=
  PE.imp L2.pe_int fun σ H Q ⟨ρ, env, hp, hr, he, h⟩ => by unfold wpE at h; exact PV.here h hr (.int i)
theorem pe_blM {F : FnS} {E : XP} {b : Bool} {j : Nat} {pos : PySem.Pos} : L2.PE X (.Constant (.bool b) j pos) (rE X (wpE F E (.lit (.bl b)))) :=
  PE.imp L2.pe_bl fun σ H Q ⟨ρ, env, hp, hr, he, h⟩ => by unfold wpE at h; exact PV.here h hr (.bl b)
theorem pe_nonM {F : FnS} {E : XP} {j : Nat} {pos : PySem.Pos} : L2.PE X (.Constant .none j pos) (rE X (wpE F E (.lit .non))) :=
  PE.imp L2.pe_non fun σ H Q ⟨ρ, env, hp, hr, he, h⟩ => by unfold wpE at h; exact PV.here h hr .non
theorem pe_strM {F : FnS} {E : XP} {s : Str} {j : Nat} {pos : PySem.Pos} (hs : sOK s.cps.toList = true) : L2.PE X (.Constant (.str s) j pos) (rE X (wpE F E (.lit (.str s.cps.toList)))) :=
  PE.imp L2.pe_str fun σ H Q ⟨ρ, env, hp, hr, he, h⟩ => by
    unfold wpE at h
    have r : RV X.K ρ H (.str s.cps.toList) (.str ⟨s.cps.toList.toArray⟩) := .str _ hs
    exact PV.here h hr r
/-- a value of the written part -/
theorem pe_globM {F : FnS} {E : XP} {x : Str} {pos : PySem.Pos} {d : D} {v : LV} {u : Value} (hg : L2.Gl X x) (hm : X.mg x = some u) (r : L2.RelV v u) (hv : ∀ ρ H, RV X.K ρ H d v) (hd : (x == (PySem.Str.ofString "__debug__")) = false) : L2.PE X (.Name x pos) (rE X (wpE F E (.lit d))) :=
  PE.imp (L2.pe_glob hg hm r hd) fun σ H Q ⟨ρ, env, hp, hr, he, h⟩ => by unfold wpE at h; exact PV.here h hr (hv ρ H)

/-! ### lists of arguments -/
theorem pa_nilM {F : FnS} {E : XP} : L2.PA X [] (rA X (wpEs F E [])) :=
  PA.imp L2.pa_nil fun σ H Q ⟨ρ, env, hp, hr, he, h⟩ => by
    unfold wpEs at h
    exact h ρ H [] (List.prefix_refl _) (TK.refl _) hr .nil
theorem rd_cons {F : FnS} (hF : FMono F) {E : XP} {c : CE} {cs : List CE} {σ : L2.St} {H : LHp} {Q : List LV → LHp → Prop} (h : rA X (wpEs F E (c :: cs)) σ H Q) : L2.tCons (rE X (wpE F E c)) (rA X (wpEs F E cs)) σ H Q := by
  obtain ⟨ρ, env, hp, hr, he, h⟩ := h
  unfold wpEs at h
  refine ⟨ρ, env, hp, hr, he, wpE_mono hF c E env hp _ _ h fun d h1 q ρ1 H1 v p1 t1 hr1 rv1 => ?_⟩
  refine ⟨ρ1, env, h1, hr1, he.mono p1 t1, wpEs_mono hF cs E env h1 _ _ q fun ds h2 q ρ2 H2 vs p2 t2 hr2 rv2 => ?_⟩
  exact q ρ2 H2 (v :: vs) (p1.trans p2) (t1.trans t2) hr2 (.cons (rv1.mono p2 t2) rv2)
theorem pa_consM {F : FnS} (hF : FMono F) {E : XP} {e : PySem.Expr} {es : List PySem.Expr} {c : CE} {cs : List CE} (ha : L2.PE X e (rE X (wpE F E c))) (hr : L2.PA X es (rA X (wpEs F E cs))) (hs : PySem.starEach (e :: es) X.env = (false, PySem.eval e X.env) :: PySem.starEach es X.env) :
    L2.PA X (e :: es) (rA X (wpEs F E (c :: cs))) := PA.imp (L2.pa_cons ha hr hs) fun _ _ _ h => rd_cons hF h

/-! ### operators by values -/
/-- what a partial function of two values and the heap asks in the layer's words -/
def liftR (X : L2.Cx) (S : D → D → Hm → Option (D × Hm)) : L2.R2 := fun v u H Q => ∃ ρ hp x y r, HRX X ρ hp H ∧ RV X.K ρ H x v ∧ RV X.K ρ H y u ∧ S x y hp = some r ∧ PVX X ρ H Q r.1 r.2
theorem rd_bin {F : FnS} (hF : FMono F) {E : XP} {a b : CE} {S : D → D → Hm → Option (D × Hm)} {σ : L2.St} {H : LHp} {Q : L2.VK}
    (h : rE X (fun env h Q => wpE F E a env h fun x h1 => wpE F E b env h1 fun y h2 => ws (S x y h2) fun r => Q r.1 r.2) σ H Q) : L2.tOp (liftR X S) (rE X (wpE F E a)) (rE X (wpE F E b)) σ H Q := by
  obtain ⟨ρ, env, hp, hr, he, h⟩ := h
  refine ⟨ρ, env, hp, hr, he, wpE_mono hF a E env hp _ _ h fun x h1 q ρ1 H1 v p1 t1 hr1 rv1 => ?_⟩
  refine ⟨ρ1, env, h1, hr1, he.mono p1 t1, wpE_mono hF b E env h1 _ _ q fun y h2 q ρ2 H2 u p2 t2 hr2 rv2 => ?_⟩
  obtain ⟨r, e, q⟩ := ws_iff.mp q
  exact ⟨ρ2, h2, x, y, r, hr2, rv1.mono p2 t2, rv2, e, PV.weak (p1.trans p2) (t1.trans t2) q⟩

theorem OpR.imp {f : Value → Value → PySem.Sem Value} {r r' : L2.R2} (h : L2.OpR X f r) (k : ∀ x y H Q, r' x y H Q → r x y H Q) : L2.OpR X f r' := fun pins s σ H x y v u Q I rx ry q => h pins s σ H x y v u Q I rx ry (k _ _ _ _ q)
/-- a list that is read -/
theorem HR.getL {P : PySem.Program} {w : PySem.World} {K : PySem.W.Frag} {ρ : List Addr} {H : LHp} {hp : Hm} (hr : HR P w K ρ hp H) {i : Nat} {ds : List D} (h : getL hp i = some ds) : ∃ a xs, ρ[i]? = some a ∧ L2.SqL K H a xs ∧ RVs K ρ H ds xs := by
  have hl := hr.len
  unfold M.getL at h
  have hi : i < hp.length := by
    by_cases c : i < hp.length
    · exact c
    · rw [List.getElem?_eq_none (by omega)] at h; cases h
  have ha : ρ[i]? = some ρ[i] := List.getElem?_eq_getElem (by omega)
  cases e : hp[i]? with
  | none => rw [e] at h; cases h
  | some c =>
    rw [e] at h
    have q := hr.ok i _ c ha e
    cases c with
    | lst xs =>
      cases h
      obtain ⟨ys, e1, r⟩ := q
      exact ⟨_, ys, ha, .inl (.inl e1), r⟩
    | ro xs =>
      cases h
      obtain ⟨ys, e1, r⟩ := q
      refine ⟨_, ys, ha, ?_, r⟩
      rcases e1 with ⟨ob, e1⟩ | e1
      · exact .inl (.inr ⟨ob, e1⟩)
      · exact .inr e1
    | dct kvs => cases h
theorem RV.ref_inv {K : PySem.W.Frag} {ρ : List Addr} {H : LHp} {i : Nat} {v : LV} (h : RV K ρ H (.ref i) v) : ∃ a, v = .ref a ∧ ρ[i]? = some a := by
  cases h with
  | ref e => exact ⟨_, rfl, e⟩
theorem RV.tup_inv {K : PySem.W.Frag} {ρ : List Addr} {H : LHp} {ds : List D} {v : LV} (h : RV K ρ H (.tup ds) v) : ∃ a xs, v = .ref a ∧ L2.SqT K H a xs ∧ RVs K ρ H ds xs := by
  cases h with
  | tup e r => exact ⟨_, _, rfl, e, r⟩
theorem RV.int_inv {K : PySem.W.Frag} {ρ : List Addr} {H : LHp} {i : Int} {v : LV} (h : RV K ρ H (.int i) v) : v = .int i := by
  cases h; rfl
theorem RV.str_inv {K : PySem.W.Frag} {ρ : List Addr} {H : LHp} {s : List Nat} {v : LV} (h : RV K ρ H (.str s) v) : v = .str ⟨s.toArray⟩ ∧ sOK s = true := by
  cases h with
  | str _ h => exact ⟨rfl, h⟩

theorem sOK_app {a b : List Nat} (h : sOK a = true) (k : sOK b = true) (hl : a.length + b.length ≤ LIM) : sOK (a ++ b) = true := by
  unfold sOK at *
  simp only [Bool.and_eq_true, decide_eq_true_eq, List.all_append, List.length_append] at *
  exact ⟨hl, h.2, k.2⟩
theorem str_app (a b : List Nat) : (({ cps := a.toArray } : Str) ++ ({ cps := b.toArray } : Str)) = { cps := (a ++ b).toArray } := by
  show ({ cps := a.toArray ++ b.toArray } : Str) = _
  rw [List.append_toArray]
/-- a list that may be written -/
theorem HR.getM {P : PySem.Program} {w : PySem.World} {K : PySem.W.Frag} {ρ : List Addr} {H : LHp} {hp : Hm} (hr : HR P w K ρ hp H) {i : Nat} {ds : List D} (h : getM hp i = some ds) : ∃ a xs, ρ[i]? = some a ∧ hp[i]? = some (.lst ds) ∧ H a = some (.lst xs) ∧ RVs K ρ H ds xs := by
  have hl := hr.len
  unfold M.getM at h
  have hi : i < hp.length := by
    by_cases c : i < hp.length
    · exact c
    · rw [List.getElem?_eq_none (by omega)] at h; cases h
  have ha : ρ[i]? = some ρ[i] := List.getElem?_eq_getElem (by omega)
  cases e : hp[i]? with
  | none => rw [e] at h; cases h
  | some c =>
    rw [e] at h
    have q := hr.ok i _ c ha e
    cases c with
    | lst xs =>
      cases h
      obtain ⟨ys, e1, r⟩ := q
      exact ⟨_, ys, ha, rfl, e1, r⟩
    | ro xs => cases h
    | dct kvs => cases h
theorem getM_getL {hp : Hm} {i : Nat} {ds : List D} (h : getM hp i = some ds) : getL hp i = some ds := by
  unfold getM at h; unfold getL
  cases e : hp[i]? with
  | none => rw [e] at h; cases h
  | some c => rw [e] at h; cases c <;> first | exact h | cases h
theorem ref_eq {ρ : List Addr} {i : Nat} {a b : Addr} (h : ρ[i]? = some a) (h' : ρ[i]? = some b) : a = b := by rw [h] at h'; exact Option.some.inj h'
theorem newC_inv {h : Hm} {c : Cell} {r : D × Hm} (e : newC h c = some r) : r = (.ref h.length, h ++ [c]) := (Option.some.inj e).symm
theorem op_addM : L2.OpR X (PySem.binaryOp .Add) (liftR X (binS .add)) := by
  refine OpR.imp (L2.op_add.or (L2.op_add_str.or (L2.op_catA.or L2.op_cat))) fun v u H Q h => ?_
  obtain ⟨ρ, hp, x, y, r, hr, rx, ry, e, q⟩ := h
  cases x <;> cases y <;> simp only [binS] at e <;> first | (cases e; done) | skip
  · obtain rfl := rx.int_inv; obtain rfl := ry.int_inv
    cases e
    exact .inl ⟨_, _, rfl, rfl, PV.here q hr (.int _)⟩
  · obtain ⟨rfl, z1⟩ := rx.str_inv; obtain ⟨rfl, z2⟩ := ry.str_inv
    split at e
    · rename_i hl
      cases e
      refine .inr (.inl ⟨_, _, rfl, rfl, ?_, ?_⟩)
      · rw [lim_eq]; simpa [PySem.Str.length] using hl
      · rw [str_app]
        exact PV.here q hr (.str _ (sOK_app z1 z2 hl))
    · cases e
  · obtain ⟨a, xs, rfl, sa, ra⟩ := rx.tup_inv; obtain ⟨b, ys, rfl, sb, rb⟩ := ry.tup_inv
    split at e
    · rename_i hl
      cases e
      refine .inr (.inr (.inl ⟨a, b, xs, ys, rfl, rfl, sa, sb, ?_, ?_, ?_, ?_⟩))
      · rw [lim_eq, ← ra.length, ← rb.length]; exact hl
      · rintro rfl
        cases ra
        exact PV.here q hr (.tup sb (by simpa using rb))
      · rintro _ rfl
        cases rb
        exact PV.here q hr (.tup sa (by simpa using ra))
      · intro _ _ p hp'
        exact PV.newT q hr (ra.append rb) hp'
    · cases e
  · obtain ⟨a, rfl, ea⟩ := rx.ref_inv; obtain ⟨b, rfl, eb⟩ := ry.ref_inv
    split at e
    · rename_i s t e1 e2
      split at e
      · rename_i hl
        obtain rfl := newC_inv e
        obtain ⟨a', xs, ha, _, sa, ra⟩ := hr.getM e1
        obtain ⟨b', ys, hb, _, sb, rb⟩ := hr.getM e2
        obtain rfl := ref_eq ea ha
        obtain rfl := ref_eq eb hb
        exact .inr (.inr (.inr ⟨a, b, xs, ys, rfl, rfl, sa, sb, by rw [lim_eq, ← ra.length, ← rb.length]; exact hl, fun p hp' => PV.newL q hr (ra.append rb) hp'⟩))
      · cases e
    · cases e
theorem op_subM : L2.OpR X (PySem.binaryOp .Sub) (liftR X (binS .sub)) := by
  refine OpR.imp L2.op_sub fun v u H Q h => ?_
  obtain ⟨ρ, hp, x, y, r, hr, rx, ry, e, q⟩ := h
  cases x <;> cases y <;> simp only [binS] at e <;> first | (cases e; done) | skip
  obtain rfl := rx.int_inv; obtain rfl := ry.int_inv
  cases e
  exact ⟨_, _, rfl, rfl, PV.here q hr (.int _)⟩
theorem op_mulM : L2.OpR X (PySem.binaryOp .Mult) (liftR X (binS .mul)) := by
  refine OpR.imp (L2.op_mul.or (L2.op_repT.or L2.op_rep)) fun v u H Q h => ?_
  obtain ⟨ρ, hp, x, y, r, hr, rx, ry, e, q⟩ := h
  cases x <;> cases y <;> simp only [binS] at e <;> first | (cases e; done) | skip
  · obtain rfl := rx.int_inv; obtain rfl := ry.int_inv
    split at e
    · rename_i c
      cases e
      refine .inl ⟨_, _, rfl, rfl, ?_, PV.here q hr (.int _)⟩
      unfold LINT at c
      rcases c with c | c
      · exact .inl ⟨by omega, by omega⟩
      · exact .inr ⟨by omega, by omega⟩
    · cases e
  · obtain ⟨a, xs, rfl, sa, ra⟩ := rx.tup_inv; obtain rfl := ry.int_inv
    split at e
    · rename_i c
      cases e
      have hl := ra.length
      refine .inr (.inl ⟨a, _, xs, rfl, rfl, sa, ?_, c.2.1, c.2.2.1, by omega, fun p hp' => PV.newT q hr (ra.rep _) hp'⟩)
      rintro rfl
      exact c.1 hl
    · cases e
  · obtain ⟨a, rfl, ea⟩ := rx.ref_inv; obtain rfl := ry.int_inv
    split at e
    · rename_i s e1
      split at e
      · rename_i c
        obtain rfl := newC_inv e
        obtain ⟨a', xs, ha, _, sa, ra⟩ := hr.getM e1
        obtain rfl := ref_eq ea ha
        have hl := ra.length
        refine .inr (.inr ⟨a, _, xs, rfl, rfl, sa, by omega, by omega, ?_, fun p hp' => PV.newL q hr (ra.rep _) hp'⟩)
        rw [lim_eq]
        have := Nat.mul_le_mul (show xs.length ≤ 10000 by omega) (show _ ≤ 1000 from Int.toNat_le.mpr c.2.1)
        unfold LIM
        omega
      · cases e
    · cases e
theorem op_fdivM : L2.OpR X (PySem.binaryOp .FloorDiv) (liftR X (binS .fdiv)) := by
  refine OpR.imp L2.op_fdivN fun v u H Q h => ?_
  obtain ⟨ρ, hp, x, y, r, hr, rx, ry, e, q⟩ := h
  cases x <;> cases y <;> simp only [binS] at e <;> first | (cases e; done) | skip
  obtain rfl := rx.int_inv; obtain rfl := ry.int_inv
  split at e
  · rename_i c
    cases e
    exact ⟨_, _, rfl, rfl, c, PV.here q hr (.int _)⟩
  · cases e
theorem op_modM : L2.OpR X (PySem.binaryOp .Mod) (liftR X (binS .mod)) := by
  refine OpR.imp L2.op_modN fun v u H Q h => ?_
  obtain ⟨ρ, hp, x, y, r, hr, rx, ry, e, q⟩ := h
  cases x <;> cases y <;> simp only [binS] at e <;> first | (cases e; done) | skip
  obtain rfl := rx.int_inv; obtain rfl := ry.int_inv
  split at e
  · rename_i c
    cases e
    exact ⟨_, _, rfl, rfl, c, PV.here q hr (.int _)⟩
  · cases e
theorem op_powM : L2.OpR X (PySem.binaryOp .Pow) (liftR X (binS .pow)) := by
  refine OpR.imp L2.op_pow fun v u H Q h => ?_
  obtain ⟨ρ, hp, x, y, r, hr, rx, ry, e, q⟩ := h
  cases x <;> cases y <;> simp only [binS] at e <;> first | (cases e; done) | skip
  obtain rfl := rx.int_inv; obtain rfl := ry.int_inv
  split at e
  · rename_i c
    cases e
    exact ⟨_, _, rfl, rfl, c, PV.here q hr (.int _)⟩
  · cases e
end
end M

end
section
set_option Elab.async false
set_option linter.all false
set_option autoImplicit false
set_option maxRecDepth 100000
set_option maxHeartbeats 4000000
/-! comparisons, truth, what is equal -/
namespace M
open PySem (Addr Obj Value Str PyData)
mutual
def pd : D → PyData
  | .non => .none
  | .bl b => .bool b
  | .int i => .int i
  | .str s => .str ⟨s.toArray⟩
  | .tup xs => .tuple (pds xs)
  | .lst xs => .list (pds xs)
  | .ref _ => .dict []
def pds : List D → List PyData
  | [] => []
  | x :: xs => pd x :: pds xs
end
theorem str_mk_eq (a b : List Nat) : (({ cps := a.toArray } : Str) == { cps := b.toArray }) = decide (a = b) := by
  by_cases h : a = b
  · subst h; simp
  · rw [decide_eq_false h]
    refine beq_eq_false_iff_ne.mpr fun e => h ?_
    have := congrArg (fun z : Str => z.cps.toList) e
    simpa using this
mutual
theorem eqD_pd : ∀ x y : D, eqD x y = PyData.eqv (pd x) (pd y)
  | .non, y => by cases y <;> simp [eqD, pd, PyData.eqv]
  | .bl b, y => by cases y <;> simp [eqD, pd, PyData.eqv]
  | .int i, y => by
    cases y <;> simp [eqD, pd, PyData.eqv]
    rfl
  | .str s, y => by
    cases y <;> simp [eqD, pd, PyData.eqv]
    exact (str_mk_eq _ _).symm
  | .tup xs, y => by
    cases y <;> simp only [eqD, pd, PyData.eqv]
    exact eqDs_pds xs _
  | .lst xs, y => by
    cases y <;> simp only [eqD, pd, PyData.eqv]
    exact eqDs_pds xs _
  | .ref a, y => by cases y <;> simp [eqD, pd, PyData.eqv]
theorem eqDs_pds : ∀ xs ys : List D, eqDs xs ys = PyData.eqvAll (pds xs) (pds ys)
  | [], ys => by cases ys <;> simp [eqDs, pds, PyData.eqvAll]
  | x :: xs, ys => by
    cases ys with
    | nil => simp [eqDs, pds, PyData.eqvAll]
    | cons y ys => simp only [eqDs, pds, PyData.eqvAll, eqD_pd x y, eqDs_pds xs ys]
end
/-- what a snapshot is in the layer's words -/
structure SnapOk (K : PySem.W.Frag) (H : LHp) (v : LV) (s : D) : Prop where
  dp : L2.Dp K H v (pd s)
  lay : (pd s).canLay0 = true
  dep : dep s = (pd s).depth
structure SnapsOk (K : PySem.W.Frag) (H : LHp) (vs : List LV) (ss : List D) : Prop where
  dp : L2.DpAll K H vs (pds ss)
  lay : PyData.canLayAll0 (pds ss) = true
  dep : deps ss = PyData.depthAll (pds ss)
section
variable {K : PySem.W.Frag} {ρ : List Addr} {H : LHp} {f : Nat → Option (List D)}
theorem strOk_of {s : List Nat} (h : sOK s = true) : PyData.strOk ⟨s.toArray⟩ = true := by
  unfold sOK at h
  rw [Bool.and_eq_true] at h
  show Array.all s.toArray (fun c => decide (c < 0x110000)) = true
  rw [← Array.all_toList]
  exact h.2
mutual
theorem snapD_ok (hf : ∀ a ss, f a = some ss → ∀ addr, ρ[a]? = some addr → ∃ xs, L2.SqL K H addr xs ∧ SnapsOk K H xs ss) : ∀ (d s : D) (v : LV), RV K ρ H d v → snapD f d = some s → SnapOk K H v s
  | .non, s, v, r, e => by
    cases r; simp only [snapD, Option.some.injEq] at e; subst e
    exact ⟨.non, rfl, rfl⟩
  | .bl b, s, v, r, e => by
    cases r; simp only [snapD, Option.some.injEq] at e; subst e
    exact ⟨.bl b, rfl, rfl⟩
  | .int i, s, v, r, e => by
    cases r; simp only [snapD, Option.some.injEq] at e; subst e
    exact ⟨.int i, rfl, rfl⟩
  | .str x, s, v, r, e => by
    obtain ⟨rfl, h⟩ := r.str_inv; simp only [snapD, Option.some.injEq] at e; subst e
    exact ⟨.str _, strOk_of h, rfl⟩
  | .tup xs, s, v, r, e => by
    obtain ⟨a, ys, rfl, h1, h2⟩ := r.tup_inv
    simp only [snapD, Option.map_eq_some_iff] at e
    obtain ⟨ss, e1, rfl⟩ := e
    have q := snapDs_ok hf xs ss ys h2 e1
    exact ⟨.tup h1 q.dp, by simpa only [pd, PyData.canLay0] using q.lay, by simp only [pd, M.dep, PyData.depth, q.dep]⟩
  | .ref a, s, v, r, e => by
    obtain ⟨addr, rfl, h1⟩ := r.ref_inv
    simp only [snapD, Option.map_eq_some_iff] at e
    obtain ⟨ss, e1, rfl⟩ := e
    obtain ⟨xs, h2, q⟩ := hf a ss e1 addr h1
    exact ⟨.lst h2 q.dp, by simpa only [pd, PyData.canLay0] using q.lay, by simp only [pd, M.dep, PyData.depth, q.dep]⟩
  | .lst xs, s, v, r, e => by cases r
theorem snapDs_ok (hf : ∀ a ss, f a = some ss → ∀ addr, ρ[a]? = some addr → ∃ xs, L2.SqL K H addr xs ∧ SnapsOk K H xs ss) : ∀ (ds ss : List D) (vs : List LV), RVs K ρ H ds vs → snapDs f ds = some ss → SnapsOk K H vs ss
  | [], ss, vs, r, e => by
    cases r; simp only [snapDs, Option.some.injEq] at e; subst e
    exact ⟨.nil, rfl, rfl⟩
  | d :: ds, ss, vs, r, e => by
    cases r with
    | cons r1 r2 =>
      simp only [snapDs] at e
      split at e
      · rename_i y ys e1 e2
        cases e
        have q1 := snapD_ok hf d y _ r1 e1
        have q2 := snapDs_ok hf ds ys _ r2 e2
        exact ⟨.cons q1.dp q2.dp, by simp only [pds, PyData.canLayAll0, q1.lay, q2.lay, Bool.and_self], by simp only [pds, deps, PyData.depthAll, q1.dep, q2.dep]⟩
      · cases e
end
theorem snapN_ok {P : PySem.Program} {w : PySem.World} {hp : Hm} (hr : HR P w K ρ hp H) : ∀ (n a : Nat) (ss : List D), snapN hp n a = some ss → ∀ addr, ρ[a]? = some addr → ∃ xs, L2.SqL K H addr xs ∧ SnapsOk K H xs ss
  | 0, _, _, e, _, _ => by simp [snapN] at e
  | n + 1, a, ss, e, addr, ha => by
    simp only [snapN] at e
    split at e
    · rename_i xs e1
      obtain ⟨b, ys, hb, h1, h2⟩ := hr.getL e1
      obtain rfl := ref_eq ha hb
      exact ⟨ys, h1, snapDs_ok (snapN_ok hr n) xs ss ys h2 e⟩
    · cases e
theorem snap_ok {P : PySem.Program} {w : PySem.World} {hp : Hm} (hr : HR P w K ρ hp H) {d s : D} {v : LV} (r : RV K ρ H d v) (e : snap hp d = some s) : SnapOk K H v s := snapD_ok (snapN_ok hr 6) d s v r e
end

section
variable {X : L2.Cx}
/-- a comparison by values -/
def liftC (X : L2.Cx) (S : D → D → Hm → Option Bool) : L2.R2 := liftR X fun x y h => (S x y h).map fun k => (.bl k, h)
theorem op_eqM (hu : X.A.units + 64 < PySem.cLine) : L2.OpR X (PySem.compareOp .Eq) (liftC X fun x y h => cmpS .eq x y h) := by
  intro pins s σ H v u v' u' Q I rv ru h
  obtain ⟨ρ, hp, x, y, r, hr, rx, ry, e, q⟩ := h
  obtain ⟨k, e, rfl⟩ := Option.map_eq_some_iff.mp e
  simp only [cmpS, eqv] at e
  split at e
  · rename_i a b ea eb
    split at e
    · rename_i hd
      cases e
      have qa := snap_ok hr rx ea
      have qb := snap_ok hr ry eb
      obtain ⟨as, r1⟩ := L2.Dp.reads I _ _ _ qa.dp rv
      obtain ⟨bs, r2⟩ := L2.Dp.reads I _ _ _ qb.dp ru
      refine PySem.SeqAt.compareEq_reads r1 r2 qa.lay qb.lay ?_ ⟨.bl _, H, I, rfl, ?_⟩
      · rw [← qa.dep, ← qb.dep]; omega
      · rw [← eqD_pd]; exact PV.here q hr (.bl _)
    · cases e
  · cases e
theorem op_neM (hu : X.A.units + 64 < PySem.cLine) : L2.OpR X (PySem.compareOp .NotEq) (liftC X fun x y h => cmpS .ne x y h) := by
  intro pins s σ H v u v' u' Q I rv ru h
  obtain ⟨ρ, hp, x, y, r, hr, rx, ry, e, q⟩ := h
  obtain ⟨k, e', rfl⟩ := Option.map_eq_some_iff.mp e
  have e3 : (eqv hp x y).map not = some k := e'
  obtain ⟨k', e2, hk⟩ := Option.map_eq_some_iff.mp e3
  clear e e' e3
  subst hk
  simp only [eqv] at e2
  split at e2
  · rename_i a b ea eb
    split at e2
    · rename_i hd
      obtain rfl := Option.some.inj e2
      have qa := snap_ok hr rx ea
      have qb := snap_ok hr ry eb
      obtain ⟨as, r1⟩ := L2.Dp.reads I _ _ _ qa.dp rv
      obtain ⟨bs, r2⟩ := L2.Dp.reads I _ _ _ qb.dp ru
      refine PySem.SeqAt.compareNe_reads r1 r2 qa.lay qb.lay ?_ ⟨.bl _, H, I, rfl, ?_⟩
      · rw [← qa.dep, ← qb.dep]; omega
      · rw [← eqD_pd]; exact PV.here q hr (.bl _)
    · cases e2
  · cases e2
theorem any_pds (a : D) : ∀ bs : List D, ((pds bs).any fun b => b.eqv (pd a)) = bs.any fun b => eqD b a
  | [] => rfl
  | b :: bs => by simp only [pds, List.any_cons, any_pds a bs, eqD_pd]
/-- x in a list or a tuple -/
theorem in_run (hu : X.A.units + 65 < PySem.cLine) {pins : List (Addr × Obj)} {s : PySem.Shared} {σ : L2.St} {H : LHp} {E : Value → PySem.Shared → Prop} (I : L2.Inv X pins σ H s) {ρ : List Addr} {hp : Hm} (hr : HRX X ρ hp H) {x : D} {ys : List D} {v : LV} {xs : List LV} {a : Addr} {v' : Value}
    (rx : RV X.K ρ H x v) (ry : RVs X.K ρ H ys xs) (rv : L2.RelV v v') (ha : L2.SqL X.K H a xs ∨ L2.SqT X.K H a xs) {k : Bool} (e : anyEq hp x ys = some k) {Q : Value → PySem.Shared → Prop} :
    (Q (.bool k) s → PySem.wpAny (PySem.model X.prog X.w) X.A (PySem.compareOp .In v' (.ref a)) Q E s) ∧ (Q (.bool !k) s → PySem.wpAny (PySem.model X.prog X.w) X.A (PySem.compareOp .NotIn v' (.ref a)) Q E s) := by
  simp only [anyEq] at e
  split at e
  · rename_i d ds e1 e2
    split at e
    · rename_i hd
      cases e
      have qa := snap_ok hr rx e1
      have qb := snapDs_ok (snapN_ok hr 6) ys ds xs ry e2
      obtain ⟨as, r1⟩ := L2.Dp.reads I _ _ _ qa.dp rv
      have room : X.A.units + 1 + min (PyData.depthAll (pds ds)) (pd d).depth < PySem.cLine := by rw [← qa.dep, ← qb.dep]; omega
      rcases ha with ha | ha
      · obtain ⟨bs, r2⟩ := L2.Dp.reads I (.list (pds ds)) (.ref a) (.ref a) (.lst ha qb.dp) rfl
        exact ⟨fun q => PySem.SeqAt.in_list_reads r2 r1 qb.lay qa.lay room (by rw [any_pds]; exact q), fun q => PySem.SeqAt.notIn_list_reads r2 r1 qb.lay qa.lay room (by rw [any_pds]; exact q)⟩
      · obtain ⟨bs, r2⟩ := L2.Dp.reads I (.tuple (pds ds)) (.ref a) (.ref a) (.tup ha qb.dp) rfl
        exact ⟨fun q => PySem.SeqAt.in_tuple_reads r2 r1 qb.lay qa.lay room (by rw [any_pds]; exact q), fun q => PySem.SeqAt.notIn_tuple_reads r2 r1 qb.lay qa.lay room (by rw [any_pds]; exact q)⟩
    · cases e
  · cases e
end
end M

end
section
set_option Elab.async false
set_option linter.all false
set_option autoImplicit false
set_option maxRecDepth 100000
set_option maxHeartbeats 4000000
/-! dicts -/
namespace M
open PySem (Addr Obj Value Str PyData Heap NestedKey NestedIs NestedAll)
section
variable {X : L2.Cx} {pins : List (Addr × Obj)} {s : PySem.Shared} {σ : L2.St} {H : LHp} {ρ : List Addr}
mutual
/-- pure data is a key of the heap -/
theorem nested_of (I : L2.Inv X pins σ H s) : ∀ (d : D) (v : LV) (u : Value), pureD d = true → RV X.K ρ H d v → L2.RelV v u → NestedIs s.heap (nkey d) u
  | .non, _, _, _, r, ru => by cases r; cases ru; exact .none
  | .bl b, _, _, _, r, ru => by cases r; cases ru; exact .bool rfl
  | .int i, _, _, _, r, ru => by cases r; obtain ⟨t, rfl⟩ := ru; exact .int i t
  | .str x, _, _, _, r, ru => by obtain ⟨rfl, _⟩ := r.str_inv; obtain ⟨t, rfl⟩ := ru; exact .text _ t
  | .tup xs, _, _, hp, r, ru => by
    obtain ⟨a, ys, rfl, h1, h2⟩ := r.tup_inv
    cases ru
    obtain ⟨its, rv, ⟨o, ho, hc, n, hd⟩, _⟩ := I.tuple h1
    exact .tup ho hc hd (by simpa using nested_all I xs ys its (by simpa only [pureD] using hp) h2 rv)
  | .lst _, _, _, hp, _, _ => by simp [pureD] at hp
  | .ref _, _, _, hp, _, _ => by simp [pureD] at hp
theorem nested_all (I : L2.Inv X pins σ H s) : ∀ (ds : List D) (vs : List LV) (us : List Value), pureDs ds = true → RVs X.K ρ H ds vs → L2.Vals vs us → NestedAll s.heap (nkeys ds) us
  | [], _, _, _, r, ru => by cases r; cases ru; exact .nil
  | d :: ds, _, _, hp, r, ru => by
    cases r with
    | cons r1 r2 =>
      cases ru with
      | cons u1 u2 =>
        simp only [pureDs, Bool.and_eq_true] at hp
        exact .cons (nested_of I d _ _ hp.1 r1 u1) (nested_all I ds _ _ hp.2 r2 u2)
end
mutual
theorem nkey_depth : ∀ d : D, pureD d = true → (nkey d).depth = dep d
  | .non, _ => rfl
  | .bl _, _ => rfl
  | .int _, _ => rfl
  | .str _, _ => rfl
  | .tup xs, h => by simp only [nkey, NestedKey.depth, dep, nkeys_depth xs (by simpa only [pureD] using h)]
  | .lst _, h => by simp [pureD] at h
  | .ref _, h => by simp [pureD] at h
theorem nkeys_depth : ∀ ds : List D, pureDs ds = true → NestedKey.depthAll (nkeys ds) = deps ds
  | [], _ => rfl
  | d :: ds, h => by
    simp only [pureDs, Bool.and_eq_true] at h
    simp only [nkeys, NestedKey.depthAll, deps, nkey_depth d h.1, nkeys_depth ds h.2]
end
mutual
theorem nkey_eq : ∀ d e : D, pureD d = true → pureD e = true → NestedKey.beq (nkey d) (nkey e) = eqD d e
  | .non, e, _, he => by cases e <;> simp_all [nkey, NestedKey.beq, eqD, pureD]
  | .bl b, e, _, he => by
    cases e with
    | bl c => cases b <;> cases c <;> simp [nkey, NestedKey.beq, eqD]
    | int j => simp only [nkey, NestedKey.beq, eqD]; rfl
    | _ => simp_all [nkey, NestedKey.beq, eqD, pureD]
  | .int i, e, _, he => by
    cases e with
    | bl c => simp only [nkey, NestedKey.beq, eqD]; rfl
    | _ => simp_all [nkey, NestedKey.beq, eqD, pureD]
  | .str x, e, _, he => by cases e <;> simp_all [nkey, NestedKey.beq, eqD, pureD]
  | .tup xs, e, hd, he => by
    cases e <;> simp only [nkey, NestedKey.beq, eqD, pureD] at * <;> first | exact nkeys_eq xs _ hd he | simp_all
  | .lst _, _, h, _ => by simp [pureD] at h
  | .ref _, _, h, _ => by simp [pureD] at h
theorem nkeys_eq : ∀ ds es : List D, pureDs ds = true → pureDs es = true → NestedKey.beqAll (nkeys ds) (nkeys es) = eqDs ds es
  | [], es, _, _ => by cases es <;> simp [nkeys, NestedKey.beqAll, eqDs]
  | d :: ds, es, hd, he => by
    cases es with
    | nil => simp [nkeys, NestedKey.beqAll, eqDs]
    | cons e es =>
      simp only [pureDs, Bool.and_eq_true] at hd he
      simp only [nkeys, NestedKey.beqAll, eqDs, nkey_eq d e hd.1 he.1, nkeys_eq ds es hd.2 he.2]
end
theorem keyOK_pure {d : D} (h : keyOK d = true) : pureD d = true ∧ dep d ≤ 8 := by
  cases d <;> simp_all [keyOK, pureD, dep]
theorem nkey_dec {d e : D} (hd : pureD d = true) (he : pureD e = true) : decide (nkey d = nkey e) = eqD d e := by
  rw [NestedKey.decide_eq, nkey_eq d e hd he]
end

section
variable {K : PySem.W.Frag} {ρ : List Addr} {H : LHp}
theorem leaf_eq {a k : D} {ka kk : L2.Key} (h : leafKey a = some ka) (h' : leafKey k = some kk) : eqD a k = decide (ka = kk) := by
  cases a <;> simp only [leafKey] at h <;> first | (cases h; done) | skip
  all_goals (cases k <;> simp only [leafKey] at h' <;> first | (cases h'; done) | skip)
  all_goals (cases h; cases h')
  · rw [L2.key_ll]; rfl
  · rw [L2.key_lr]; rfl
  · rw [L2.key_rl]; rfl
  · rw [L2.key_rr]
    simp only [eqD]
    rename_i x y
    have := str_mk_eq x y
    rw [← this]
    by_cases e : ({ cps := x.toArray } : Str) = { cps := y.toArray }
    · rw [decide_eq_true e, e]; simp
    · rw [decide_eq_false e]; exact beq_eq_false_iff_ne.mpr e
theorem leaf_noTup {k : D} {kk : L2.Key} (h : leafKey k = some kk) : isTup k = false := by
  cases k <;> simp only [leafKey] at h <;> first | rfl | cases h
theorem dget_cons (a b k : D) (r : List (D × D)) : dget ((a, b) :: r) k = if eqD a k = true then some b else dget r k := by
  unfold dget
  rw [List.find?_cons]
  cases h : eqD a k with
  | true => simp
  | false => simp
theorem LK.get : ∀ {kvs : List (D × D)} {kvs' : List (L2.Key × LV)} {k : D} {kk : L2.Key}, LK K ρ H kvs kvs' → leafKey k = some kk →
    (dget kvs k = none ∧ L2.valV kvs' kk = none) ∨ ∃ d vv, dget kvs k = some d ∧ L2.valV kvs' kk = some vv ∧ RV K ρ H d vv
  | _, _, _, _, .nil, _ => .inl ⟨rfl, rfl⟩
  | _, _, k, kk, .cons (k := a) (kk := ka) h1 h2 h3 r, hk => by
    have e := leaf_eq h1 hk
    rw [dget_cons]
    by_cases q : ka = kk
    · rw [e, decide_eq_true q, if_pos rfl]
      exact .inr ⟨_, _, rfl, L2.valV_pos (p := (ka, _)) q, h3⟩
    · rw [e, decide_eq_false q, if_neg (by simp), L2.valV_neg (p := (ka, _)) q]
      exact LK.get r hk
theorem LK.any : ∀ {kvs : List (D × D)} {kvs' : List (L2.Key × LV)} {k : D} {kk : L2.Key}, LK K ρ H kvs kvs' → leafKey k = some kk → (kvs.any fun p => eqD p.1 k) = kvs'.any fun p => decide (p.1 = kk)
  | _, _, _, _, .nil, _ => rfl
  | _, _, k, kk, .cons h1 h2 h3 r, hk => by simp only [List.any_cons, leaf_eq h1 hk, LK.any r hk]
theorem LK.repl {k d : D} {kk : L2.Key} {dv : LV} (hk : leafKey k = some kk) (rd : RV K ρ H d dv) : ∀ {kvs : List (D × D)} {kvs' : List (L2.Key × LV)}, LK K ρ H kvs kvs' →
    LK K ρ H (kvs.map fun p => if eqD p.1 k = true then (p.1, d) else p) (kvs'.map fun p => if p.1 = kk then (p.1, dv) else p)
  | _, _, .nil => .nil
  | _, _, .cons (kk := ka) h1 h2 h3 r => by
    simp only [List.map_cons, leaf_eq h1 hk, decide_eq_true_eq]
    by_cases q : ka = kk
    · rw [if_pos q, if_pos q]; exact .cons h1 h2 rd (LK.repl hk rd r)
    · rw [if_neg q, if_neg q]; exact .cons h1 h2 h3 (LK.repl hk rd r)
theorem LK.snoc {k d : D} {kk : L2.Key} {dv : LV} (hk : leafKey k = some kk) (rk : RV K ρ H k (L2.kV kk)) (rd : RV K ρ H d dv) : ∀ {kvs : List (D × D)} {kvs' : List (L2.Key × LV)}, LK K ρ H kvs kvs' → LK K ρ H (kvs ++ [(k, d)]) (kvs' ++ [(kk, dv)])
  | _, _, .nil => .cons hk rk rd .nil
  | _, _, .cons h1 h2 h3 r => .cons h1 h2 h3 (LK.snoc hk rk rd r)
theorem LK.put {k d : D} {kk : L2.Key} {dv : LV} (hk : leafKey k = some kk) (rk : RV K ρ H k (L2.kV kk)) (rd : RV K ρ H d dv) {kvs : List (D × D)} {kvs' : List (L2.Key × LV)} (h : LK K ρ H kvs kvs') : LK K ρ H (dput kvs k d) (L2.putK kvs' kk dv) := by
  unfold dput L2.putK
  rw [h.any hk]
  split
  · exact h.repl hk rd
  · exact h.snoc hk rk rd
theorem LK.length : ∀ {kvs : List (D × D)} {kvs' : List (L2.Key × LV)}, LK K ρ H kvs kvs' → kvs.length = kvs'.length
  | _, _, .nil => rfl
  | _, _, .cons _ _ _ r => congrArg (· + 1) r.length

theorem TKs.length : ∀ {kvs : List (D × D)} {xs : List (NestedKey × Addr × Value)}, TKs K ρ H kvs xs → kvs.length = xs.length
  | _, _, .nil => rfl
  | _, _, .cons _ _ _ _ r => congrArg (· + 1) r.length
theorem TKs.get {ks : List D} (hk : keyOK (.tup ks) = true) : ∀ {kvs : List (D × D)} {xs : List (NestedKey × Addr × Value)}, TKs K ρ H kvs xs →
    (dget kvs (.tup ks) = none ∧ PySem.atKey xs (nkey (.tup ks)) = none) ∨ ∃ d a vv u, dget kvs (.tup ks) = some d ∧ PySem.atKey xs (nkey (.tup ks)) = some (a, u) ∧ RV K ρ H d vv ∧ L2.RelV vv u
  | _, _, .nil => .inl ⟨rfl, rfl⟩
  | _, _, .cons (ks := as) h1 h2 h3 h4 r => by
    have e := nkey_dec (keyOK_pure h1).1 (keyOK_pure hk).1
    rw [dget_cons]
    unfold PySem.atKey
    rw [List.find?_cons]
    cases q : eqD (.tup as) (.tup ks) with
    | true =>
      rw [q] at e
      simp only [e, if_true]
      exact .inr ⟨_, _, _, _, rfl, rfl, h3, h4⟩
    | false =>
      rw [q] at e
      simp only [e]
      exact TKs.get hk r
theorem atKey_isSome (k : NestedKey) : ∀ xs : List (NestedKey × Addr × Value), (PySem.atKey xs k).isSome = xs.any fun x => decide (x.1 = k)
  | [] => rfl
  | x :: xs => by
    unfold PySem.atKey
    rw [List.find?_cons, List.any_cons]
    cases h : decide (x.1 = k) with
    | true => simp
    | false => simp only [Bool.false_or]; exact atKey_isSome k xs
theorem TKs.any {ks : List D} (hk : keyOK (.tup ks) = true) : ∀ {kvs : List (D × D)} {xs : List (NestedKey × Addr × Value)}, TKs K ρ H kvs xs → (kvs.any fun p => eqD p.1 (.tup ks)) = xs.any fun x => decide (x.1 = nkey (.tup ks))
  | _, _, .nil => rfl
  | _, _, .cons h1 h2 h3 h4 r => by simp only [List.any_cons, TKs.any hk r, nkey_dec (keyOK_pure h1).1 (keyOK_pure hk).1]
theorem TKs.isSome {ks : List D} (hk : keyOK (.tup ks) = true) {kvs : List (D × D)} {xs : List (NestedKey × Addr × Value)} (h : TKs K ρ H kvs xs) : (PySem.atKey xs (nkey (.tup ks))).isSome = (dget kvs (.tup ks)).isSome := by
  rcases h.get hk with ⟨q, q'⟩ | ⟨d', a', vv, u, q1, q2, _, _⟩
  · rw [q, q']; rfl
  · rw [q1, q2]; rfl
theorem TKs.repl {ks : List D} {d : D} {dv : LV} {u : Value} (hk : keyOK (.tup ks) = true) (rd : RV K ρ H d dv) (ru : L2.RelV dv u) : ∀ {kvs : List (D × D)} {xs : List (NestedKey × Addr × Value)}, TKs K ρ H kvs xs →
    TKs K ρ H (kvs.map fun p => if eqD p.1 (.tup ks) = true then (p.1, d) else p) (xs.map (PySem.putAt (nkey (.tup ks)) u))
  | _, _, .nil => .nil
  | _, _, .cons h1 h2 h3 h4 r => by
    simp only [List.map_cons, ← nkey_dec (keyOK_pure h1).1 (keyOK_pure hk).1, decide_eq_true_eq, PySem.putAt]
    split
    · exact .cons h1 h2 rd ru (TKs.repl hk rd ru r)
    · exact .cons h1 h2 h3 h4 (TKs.repl hk rd ru r)
theorem TKs.snoc {ks : List D} {d : D} {a : Addr} {dv : LV} {u : Value} (hk : keyOK (.tup ks) = true) (rk : RV K ρ H (.tup ks) (.ref a)) (rd : RV K ρ H d dv) (ru : L2.RelV dv u) : ∀ {kvs : List (D × D)} {xs : List (NestedKey × Addr × Value)}, TKs K ρ H kvs xs →
    TKs K ρ H (kvs ++ [(.tup ks, d)]) (xs ++ [(nkey (.tup ks), a, u)])
  | _, _, .nil => .cons hk rk rd ru .nil
  | _, _, .cons h1 h2 h3 h4 r => .cons h1 h2 h3 h4 (TKs.snoc hk rk rd ru r)
theorem TKs.put {ks : List D} {d : D} {a : Addr} {dv : LV} {u : Value} (hk : keyOK (.tup ks) = true) (rk : RV K ρ H (.tup ks) (.ref a)) (rd : RV K ρ H d dv) (ru : L2.RelV dv u) {kvs : List (D × D)} {xs : List (NestedKey × Addr × Value)} (h : TKs K ρ H kvs xs) :
    TKs K ρ H (dput kvs (.tup ks) d) (PySem.storedH xs (nkey (.tup ks)) a u) := by
  unfold dput PySem.storedH
  rw [h.any hk, atKey_isSome]
  split
  · exact h.repl hk rd ru
  · exact h.snoc hk rk rd ru
theorem dput_ne {kvs : List (D × D)} {k v : D} : dput kvs k v ≠ [] := by
  unfold dput
  split
  · rename_i h
    intro e
    have := List.map_eq_nil_iff.mp e
    subst this
    simp at h
  · simp
theorem dput_length (kvs : List (D × D)) (k v : D) : (dput kvs k v).length ≤ kvs.length + 1 := by
  unfold dput
  split <;> simp
end

section
variable {X : L2.Cx} {pins : List (Addr × Obj)} {s : PySem.Shared} {σ : L2.St} {H : LHp} {ρ : List Addr} {A : PySem.Around} {E : Value → PySem.Shared → Prop} {a : Addr} {kvs : List (D × D)}
abbrev CellX (X : L2.Cx) := CellOk X.prog X.w X.K
theorem key_at (I : L2.Inv X pins σ H s) {ks : List D} {b : Addr} (hk : keyOK (.tup ks) = true) (r : RV X.K ρ H (.tup ks) (.ref b)) : (PySem.nestedKind X.prog X.w).is s.heap (nkey (.tup ks)) b :=
  ⟨nested_of I _ _ _ (keyOK_pure hk).1 r rfl, by rw [nkey_depth _ (keyOK_pure hk).1]; exact (keyOK_pure hk).2⟩
theorem keys_at (I : L2.Inv X pins σ H s) : ∀ {kvs : List (D × D)} {xs : List (NestedKey × Addr × Value)}, TKs X.K ρ H kvs xs → ∀ x ∈ xs, (PySem.nestedKind X.prog X.w).is s.heap x.1 x.2.1
  | _, _, .nil, _, h => nomatch h
  | _, _, .cons h1 h2 h3 h4 r, x, h => by
    rcases List.mem_cons.mp h with rfl | h
    · exact key_at I h1 h2
    · exact keys_at I r x h
/-- a dict's cell read with a tuple key -/
theorem keyed_of (I : L2.Inv X pins σ H s) (hc : CellX X ρ H a (.dct kvs)) {ks : List D} (hk : keyIn kvs (.tup ks) = true) :
    ∃ xs, s.heap.DictOfH (PySem.nestedKind X.prog X.w) a xs ∧ TKs X.K ρ H kvs xs ∧ (a == PySem.sysModules) = false ∧ xs.length ≤ PySem.sizeLine := by
  rcases hc with ⟨kvs', e, r, z⟩ | ⟨hs, o, e, xs, es, ep, h1, h2, h3, h4, h5, h6, h7⟩
  · cases r with
    | nil =>
      obtain ⟨_, hd, vs, rel, o, es, ep, q1, q2, q3, q4, q5, q6⟩ := L2.dk_of I.hok e
      cases rel
      refine ⟨[], ⟨o, es, ep, q1, q2, q3, ?_, fun x h => (nomatch h), List.nodup_nil⟩, .nil, hd, Nat.zero_le _⟩
      cases hes : es.toList with
      | nil => rfl
      | cons x r => rw [hes] at q5; cases q5
    | cons g1 g2 g3 g4 =>
      unfold keyIn at hk
      rw [Bool.and_eq_true] at hk
      have := hk.2
      rw [List.all_cons, Bool.and_eq_true] at this
      have := this.1
      rw [leaf_noTup g1] at this
      simp [isTup] at this
  · obtain ⟨q, _, _⟩ := I.hok a _ e
    exact ⟨xs, ⟨o, es, ep, q, h1, h2, h3, keys_at I h5, h4⟩, h5, hs, by rw [lim_eq, ← h5.length]; exact h7⟩
theorem leaf_of (hc : CellX X ρ H a (.dct kvs)) {k : D} (hk : keyIn kvs k = true) (ht : isTup k = false) : ∃ kvs' kk, H a = some (.dK kvs') ∧ LK X.K ρ H kvs kvs' ∧ leafKey k = some kk ∧ kvs.length ≤ LIM := by
  unfold keyIn at hk
  rw [Bool.and_eq_true] at hk
  obtain ⟨k1, k2⟩ := hk
  have lk : ∃ kk, leafKey k = some kk := by
    cases k <;> simp_all [keyOK, isTup, leafKey]
  obtain ⟨kk, lk⟩ := lk
  rcases hc with ⟨kvs', e, r, z⟩ | ⟨hs, o, e, xs, es, ep, h1, h2, h3, h4, h5, h6, h7⟩
  · exact ⟨kvs', kk, e, r, lk, z⟩
  · cases h5 with
    | nil => exact absurd rfl h6
    | cons g1 g2 g3 g4 r =>
      rw [List.all_cons, Bool.and_eq_true] at k2
      have := k2.1
      rw [ht] at this
      simp [isTup] at this
theorem leaf_rv {k : D} {kk : L2.Key} {kv : LV} (h : leafKey k = some kk) (r : RV X.K ρ H k kv) : kv = L2.kV kk := by
  cases k <;> simp only [leafKey] at h <;> first | (cases h; done) | skip
  · cases h; exact r.int_inv
  · cases h; exact r.str_inv.1
theorem isTup_cases (k : D) : isTup k = false ∨ ∃ ks, k = .tup ks := by
  cases k <;> first | (left; rfl) | exact .inr ⟨_, rfl⟩
theorem room8 (hu : A.units + 9 < PySem.cLine) : (PySem.nestedKind X.prog X.w).room A.in1 := by
  show A.units + 1 + 8 < PySem.cLine
  omega
/-- d[k], k in d: what a look gives -/
theorem d_look (hu : A.units + 9 < PySem.cLine) (I : L2.Inv X pins σ H s) (hc : CellX X ρ H a (.dct kvs)) {k : D} {kv : LV} {u : Value} (hk : keyIn kvs k = true) (rk : RV X.K ρ H k kv) (ru : L2.RelV kv u) :
    (∀ d (Q : Value → PySem.Shared → Prop), dget kvs k = some d → (∀ vv w' s', L2.Inv X pins σ H s' → RV X.K ρ H d vv → L2.RelV vv w' → Q w' s') → PySem.wpAny (PySem.model X.prog X.w) A (PySem.getItem (.ref a) u) Q E s) ∧
    (∀ (Q : Value → PySem.Shared → Prop), (∀ s', L2.Inv X pins σ H s' → Q (.bool (dget kvs k).isSome) s') → PySem.wpAny (PySem.model X.prog X.w) A (PySem.compareOp .In u (.ref a)) Q E s) ∧
    (∀ (Q : Value → PySem.Shared → Prop), (∀ s', L2.Inv X pins σ H s' → Q (.bool (!(dget kvs k).isSome)) s') → PySem.wpAny (PySem.model X.prog X.w) A (PySem.compareOp .NotIn u (.ref a)) Q E s) := by
  rcases isTup_cases k with ht | ⟨ks, rfl⟩
  · obtain ⟨kvs', kk, e, r, lk, z⟩ := leaf_of hc hk ht
    obtain rfl := leaf_rv lk rk
    have g := L2.DGet.k (k := kk) e
    refine ⟨fun d Q hd h => ?_, fun Q h => ?_, fun Q h => ?_⟩
    · rcases r.get lk with ⟨q, _⟩ | ⟨d', vv, q1, q2, q3⟩
      · rw [hd] at q; cases q
      · rw [hd] at q1; cases q1
        exact L2.d_getItem (by omega) I (by rw [q2] at g; exact g) ru fun w' s' I' rw' => h vv w' s' I' q3 rw'
    · refine L2.d_in (by omega) I g ru fun s' I' => ?_
      rcases r.get lk with ⟨q, q'⟩ | ⟨d', vv, q1, q2, q3⟩
      · have := h s' I'; rw [q] at this; rw [q']; exact this
      · have := h s' I'; rw [q1] at this; rw [q2]; exact this
    · refine L2.d_notIn (by omega) I g ru fun s' I' => ?_
      rcases r.get lk with ⟨q, q'⟩ | ⟨d', vv, q1, q2, q3⟩
      · have := h s' I'; rw [q] at this; rw [q']; exact this
      · have := h s' I'; rw [q1] at this; rw [q2]; exact this
  · obtain ⟨xs, hm, r, hs, hz⟩ := keyed_of I hc hk
    have hk' : keyOK (.tup ks) = true := by unfold keyIn at hk; exact (Bool.and_eq_true_iff.mp hk).1
    obtain ⟨b, ys, rfl, _, _⟩ := rk.tup_inv
    cases ru
    have key := key_at I hk' rk
    refine ⟨fun d Q hd h => ?_, fun Q h => ?_, fun Q h => ?_⟩
    · rcases r.get hk' with ⟨q, _⟩ | ⟨d', a', vv, u, q1, q2, q3, q4⟩
      · rw [hd] at q; cases q
      · rw [hd] at q1; cases q1
        exact PySem.wpAny_getItem_heap (room8 hu) key hm q2 (h vv _ _ (I.tok _) q3 q4)
    · refine PySem.wpAny_in_heap (room8 hu) key hs hm ?_
      rw [r.isSome hk']
      exact h _ (I.tok _)
    · refine PySem.notIn_keyed (room8 hu) key hs ⟨xs, hm, rfl⟩ ?_
      rw [PySem.valueAt_pairsH, Option.isSome_map, r.isSome hk']
      exact h _ (I.tok _)
theorem cell_mut (hc : CellX X ρ H a (.dct kvs)) : L2.Mut (H a) ∧ ∃ u, H a = some u ∧ Chg u := by
  rcases hc with ⟨kvs', e, r, z⟩ | ⟨hs, o, e, _⟩
  · exact ⟨by rw [e]; trivial, _, e, trivial⟩
  · exact ⟨by rw [e]; trivial, _, e, trivial⟩
/-- behind a store with a tuple key -/
theorem stored_cell (I : L2.Inv X pins σ H s) (hc : CellX X ρ H a (.dct kvs)) {ks : List D} {d : D} {b : Addr} {dv : LV} {r : Value} {xs : List (NestedKey × Addr × Value)} {h' : Heap} {t : Nat} (hk : keyOK (.tup ks) = true) (rk : RV X.K ρ H (.tup ks) (.ref b)) (rd : RV X.K ρ H d dv) (rr : L2.RelV dv r)
    (rel : TKs X.K ρ H kvs xs) (hs : (a == PySem.sysModules) = false) (hl : kvs.length < LIM) (dd : h'.DictOfH (PySem.nestedKind X.prog X.w) a (PySem.storedH xs (nkey (.tup ks)) b r)) (sb : Heap.SameBut a s.heap h') :
    ∃ o', L2.Inv X pins σ (L2.upd H a o') { s with heap := h', toks := t } ∧ CellX X ρ (L2.upd H a o') a (.dct (dput kvs (.tup ks) d)) := by
  obtain ⟨o, es, ep, q1, q2, q3, q4, q5, q6⟩ := dd
  obtain ⟨mu, u, eu, cu⟩ := cell_mut hc
  refine ⟨.ext fun h => h.get? a = some o, L2.d_write I mu sb ⟨o, q1⟩ ⟨q1, ⟨o, q1⟩, fun h1 h2 p k => k _ p⟩, .inr ⟨hs, o, L2.upd_same, _, es, ep, q2, q3, q4, q6, (rel.put hk rk rd rr).mono (List.prefix_refl _) (TK.put eu cu), dput_ne, ?_⟩⟩
  have := dput_length kvs (.tup ks) d
  omega
/-- d[k] = v -/
theorem d_put (hu : A.units + 9 < PySem.cLine) (I : L2.Inv X pins σ H s) (hc : CellX X ρ H a (.dct kvs)) {k d : D} {kv dv : LV} {u r : Value} (hk : keyIn kvs k = true) (rk : RV X.K ρ H k kv) (ru : L2.RelV kv u) (rd : RV X.K ρ H d dv) (rr : L2.RelV dv r) (hl : kvs.length < LIM) {Q : Unit → PySem.Shared → Prop}
    (h : ∀ s' o', L2.Inv X pins σ (L2.upd H a o') s' → CellX X ρ (L2.upd H a o') a (.dct (dput kvs k d)) → Q () s') : PySem.wpAny (PySem.model X.prog X.w) A (PySem.setItem (.ref a) u r) Q E s := by
  rcases isTup_cases k with ht | ⟨ks, rfl⟩
  · obtain ⟨kvs', kk, e, rel, lk, z⟩ := leaf_of hc hk ht
    obtain rfl := leaf_rv lk rk
    have hl' : kvs'.length < PySem.sizeLine := by rw [lim_eq, ← rel.length]; exact hl
    refine L2.d_setItem (by omega) I (L2.DPut.k (k := kk) (v := dv) e hl') ru rr fun s' I' => h s' _ I' (.inl ⟨_, L2.upd_same, (rel.put lk rk rd).mono (List.prefix_refl _) (TK.put e trivial), ?_⟩)
    have := dput_length kvs k d
    omega
  · obtain ⟨xs, hm, rel, hs, hz⟩ := keyed_of I hc hk
    have hk' : keyOK (.tup ks) = true := by unfold keyIn at hk; exact (Bool.and_eq_true_iff.mp hk).1
    obtain ⟨b, ys, rfl, _, _⟩ := rk.tup_inv
    cases ru
    refine PySem.wpAny_setItem_heap (hsz := hz) (room8 hu) (key_at I hk' rk) hm fun h' dd sb => ?_
    obtain ⟨o', I', c'⟩ := stored_cell I hc hk' rk rd rr rel hs hl dd sb
    exact h _ o' I' c'
/-- d.setdefault(k, v) -/
theorem d_setdef (hu : A.units + 9 < PySem.cLine) (I : L2.Inv X pins σ H s) (hc : CellX X ρ H a (.dct kvs)) {k d : D} {kv dv : LV} {u r : Value} (hk : keyIn kvs k = true) (rk : RV X.K ρ H k kv) (ru : L2.RelV kv u) (rd : RV X.K ρ H d dv) (rr : L2.RelV dv r) (hl : kvs.length < LIM) {Q : Value → PySem.Shared → Prop}
    (h1 : ∀ x, dget kvs k = some x → ∀ vv w' s', L2.Inv X pins σ H s' → RV X.K ρ H x vv → L2.RelV vv w' → Q w' s')
    (h2 : dget kvs k = none → ∀ w' s' o', L2.Inv X pins σ (L2.upd H a o') s' → L2.RelV dv w' → CellX X ρ (L2.upd H a o') a (.dct (dput kvs k d)) → Q w' s') : PySem.wpAny (PySem.model X.prog X.w) A (PySem.call (.builtin "dict.setdefault") [.ref a, u, r]) Q E s := by
  rcases isTup_cases k with ht | ⟨ks, rfl⟩
  · obtain ⟨kvs', kk, e, rel, lk, z⟩ := leaf_of hc hk ht
    obtain rfl := leaf_rv lk rk
    have hl' : kvs'.length < PySem.sizeLine := by rw [lim_eq, ← rel.length]; exact hl
    refine L2.d_setd I e ru rr hl' (fun v hv w' s' I' rw' => ?_) fun hn w' s' I' rw' => ?_
    · rcases rel.get lk with ⟨q, q'⟩ | ⟨d', vv, q1, q2, q3⟩
      · rw [hv] at q'; cases q'
      · rw [hv] at q2; cases q2
        exact h1 d' q1 _ w' s' I' q3 rw'
    · rcases rel.get lk with ⟨q, q'⟩ | ⟨d', vv, q1, q2, q3⟩
      · refine h2 q w' s' _ I' rw' (.inl ⟨_, L2.upd_same, (rel.put lk rk rd).mono (List.prefix_refl _) (TK.put e trivial), ?_⟩)
        have := dput_length kvs k d
        omega
      · rw [hn] at q2; cases q2
  · obtain ⟨xs, hm, rel, hs, hz⟩ := keyed_of I hc hk
    have hk' : keyOK (.tup ks) = true := by unfold keyIn at hk; exact (Bool.and_eq_true_iff.mp hk).1
    obtain ⟨b, ys, rfl, _, _⟩ := rk.tup_inv
    cases ru
    refine PySem.call_setdefault_heap (hsz := hz) (room8 hu) (key_at I hk' rk) hs hm (fun p hp => ?_) fun hn h' dd sb => ?_
    · rcases rel.get hk' with ⟨q, q'⟩ | ⟨d', a', vv, w', q1, q2, q3, q4⟩
      · rw [hp] at q'; cases q'
      · rw [hp] at q2; cases q2
        exact h1 d' q1 vv w' _ (I.tok _) q3 q4
    · rcases rel.get hk' with ⟨q, q'⟩ | ⟨d', a', vv, w', q1, q2, q3, q4⟩
      · obtain ⟨o', I', c'⟩ := stored_cell I hc hk' rk rd rr rel hs hl dd sb
        exact h2 q r _ o' I' rr c'
      · rw [hn] at q2; cases q2
/-- d.get(k, v) -/
theorem d_get2M (hu : A.units + 9 < PySem.cLine) (I : L2.Inv X pins σ H s) (hc : CellX X ρ H a (.dct kvs)) {k d : D} {kv dv : LV} {u r : Value} (hk : keyIn kvs k = true) (rk : RV X.K ρ H k kv) (ru : L2.RelV kv u) (rd : RV X.K ρ H d dv) (rr : L2.RelV dv r) {Q : Value → PySem.Shared → Prop}
    (h : ∀ vv w' s', L2.Inv X pins σ H s' → RV X.K ρ H ((dget kvs k).getD d) vv → L2.RelV vv w' → Q w' s') : PySem.wpAny (PySem.model X.prog X.w) A (PySem.call (.builtin "dict.get") [.ref a, u, r]) Q E s := by
  rcases isTup_cases k with ht | ⟨ks, rfl⟩
  · obtain ⟨kvs', kk, e, rel, lk, z⟩ := leaf_of hc hk ht
    obtain rfl := leaf_rv lk rk
    refine L2.d_get2 (by omega) I (L2.DGet.k (k := kk) e) ru rr fun w' s' I' rw' => ?_
    rcases rel.get lk with ⟨q, q'⟩ | ⟨d', vv, q1, q2, q3⟩
    · rw [q'] at rw'
      exact h dv w' s' I' (by rw [q]; exact rd) rw'
    · rw [q2] at rw'
      exact h vv w' s' I' (by rw [q1]; exact q3) rw'
  · obtain ⟨xs, hm, rel, hs, hz⟩ := keyed_of I hc hk
    have hk' : keyOK (.tup ks) = true := by unfold keyIn at hk; exact (Bool.and_eq_true_iff.mp hk).1
    obtain ⟨b, ys, rfl, _, _⟩ := rk.tup_inv
    cases ru
    refine PySem.getOr_keyed (room8 hu) (key_at I hk' rk) hs ⟨xs, hm, rfl⟩ ?_
    rw [PySem.valueAt_pairsH]
    rcases rel.get hk' with ⟨q, q'⟩ | ⟨d', a', vv, w', q1, q2, q3, q4⟩
    · rw [q']
      exact h dv r _ (I.tok _) (by rw [q]; exact rd) rr
    · rw [q2]
      exact h vv w' _ (I.tok _) (by rw [q1]; exact q3) q4
end
end M

end
section
set_option Elab.async false
set_option linter.all false
set_option autoImplicit false
set_option maxRecDepth 100000
set_option maxHeartbeats 4000000
/-! built-ins by values -/
namespace M
open PySem (Addr Obj Value Str PyData)
section
variable {X : L2.Cx}
/-- a partial function of a list of values in the layer's words -/
def liftA (X : L2.Cx) (S : List D → Hm → Option (D × Hm)) : List LV → LHp → L2.VK → Prop := fun vs H Q => ∃ ρ hp ds r, HRX X ρ hp H ∧ RVs X.K ρ H ds vs ∧ S ds hp = some r ∧ PVX X ρ H Q r.1 r.2
theorem CallR.imp {f : Value} {r r' : List LV → LHp → L2.VK → Prop} (h : L2.CallR X f r) (k : ∀ vs H Q, r' vs H Q → r vs H Q) : L2.CallR X f r' := fun pins s σ H xs us Q I rx q => h pins s σ H xs us Q I rx (k _ _ _ q)
theorem CallR.or {f : Value} {r r' : List LV → LHp → L2.VK → Prop} (h : L2.CallR X f r) (h' : L2.CallR X f r') : L2.CallR X f (fun vs H Q => r vs H Q ∨ r' vs H Q) := fun pins s σ H xs us Q I rx q => q.elim (h pins s σ H xs us Q I rx) (h' pins s σ H xs us Q I rx)
theorem rd_blt {F : FnS} (hF : FMono F) {E : XP} {es : List CE} {S : List D → Hm → Option (D × Hm)} {σ : L2.St} {H : LHp} {Q : L2.VK}
    (h : rE X (fun env h Q => wpEs F E es env h fun ds h1 => ws (S ds h1) fun r => Q r.1 r.2) σ H Q) : L2.tCB (liftA X S) (rA X (wpEs F E es)) σ H Q := by
  obtain ⟨ρ, env, hp, hr, he, h⟩ := h
  refine ⟨ρ, env, hp, hr, he, wpEs_mono hF es E env hp _ _ h fun ds h1 q ρ1 H1 vs p1 t1 hr1 rv1 => ?_⟩
  obtain ⟨r, e, q⟩ := ws_iff.mp q
  exact ⟨ρ1, h1, ds, r, hr1, rv1, e, PV.weak p1 t1 q⟩
theorem RVs.one_inv {K : PySem.W.Frag} {ρ : List Addr} {H : LHp} {d : D} {vs : List LV} (h : RVs K ρ H [d] vs) : ∃ v, vs = [v] ∧ RV K ρ H d v := by
  cases h with
  | cons a b => cases b; exact ⟨_, rfl, a⟩
theorem RVs.two_inv {K : PySem.W.Frag} {ρ : List Addr} {H : LHp} {d e : D} {vs : List LV} (h : RVs K ρ H [d, e] vs) : ∃ v u, vs = [v, u] ∧ RV K ρ H d v ∧ RV K ρ H e u := by
  cases h with
  | cons a b => obtain ⟨u, rfl, c⟩ := b.one_inv; exact ⟨_, u, rfl, a, c⟩
theorem RVs.nil_inv {K : PySem.W.Frag} {ρ : List Addr} {H : LHp} {vs : List LV} (h : RVs K ρ H [] vs) : vs = [] := by cases h; rfl
/-- a partial function that looks at its arguments' form -/
theorem len_cases {α : Type} {P : List α → Prop} (l : List α) (h0 : P []) (h1 : ∀ a, P [a]) (h2 : ∀ a b, P [a, b]) (h3 : ∀ a b c r, P (a :: b :: c :: r)) : P l := match l with
  | [] => h0
  | [a] => h1 a
  | [a, b] => h2 a b
  | a :: b :: c :: r => h3 a b c r

theorem str_len {s : List Nat} : ({ cps := s.toArray } : Str).length = s.length := by simp [PySem.Str.length]
theorem sOK_len {s : List Nat} (h : sOK s = true) : s.length ≤ LIM := by
  unfold sOK at h; rw [Bool.and_eq_true, decide_eq_true_eq] at h; exact h.1
/-- len of a dict's cell -/
theorem len_dict {pins : List (Addr × Obj)} {s : PySem.Shared} {σ : L2.St} {H : LHp} {ρ : List Addr} {E : Value → PySem.Shared → Prop} {a : Addr} {kvs : List (D × D)} (I : L2.Inv X pins σ H s) (hc : CellX X ρ H a (.dct kvs)) {Q : Value → PySem.Shared → Prop}
    (h : ∀ t s', L2.Inv X pins σ H s' → Q (.int kvs.length t) s') : PySem.wpAny (PySem.model X.prog X.w) X.A (PySem.call (.builtin "len") [.ref a]) Q E s := by
  rcases hc with ⟨kvs', e, r, z⟩ | ⟨hs, o, e, xs, es, ep, h1, h2, h3, h4, h5, h6, h7⟩
  · refine L2.d_len I (.inl e) fun t s' I' => ?_
    rw [← r.length]; exact h t s' I'
  · obtain ⟨q, _, _⟩ := I.hok a _ e
    have hm : s.heap.DictOfH (PySem.nestedKind X.prog X.w) a xs := ⟨o, es, ep, q, h1, h2, h3, keys_at I h5, h4⟩
    have hl : (PySem.pairsH xs).length = kvs.length := by rw [PySem.pairsH_length, ← h5.length]
    have hlim := lim_eq
    refine PyProof.Rows.call_len_slot (n := (PySem.pairsH xs).length) hm.typeIs PySem.F.slot_dict_len (fun Q' hq => PySem.len_keyed hs ⟨xs, hm, rfl⟩ hq) (by omega) (by rw [hl]; unfold LIM at h7; omega) ?_
    rw [hl]
    exact h _ _ (I.tok _)
theorem call_lenM : L2.CallR X (.builtin "len") (liftA X (bltS .len)) := by
  intro pins s σ H vs us Q I rx h
  obtain ⟨ρ, hp, ds, r, hr, rv, e, q⟩ := h
  match ds, rv, e with
  | [d], rv, e =>
    obtain ⟨v, rfl, rv1⟩ := rv.one_inv
    simp only [bltS, Option.map_eq_some_iff] at e
    obtain ⟨n, e, rfl⟩ := e
    have go : (∃ n', L2.LenV X.K v H n' ∧ n' = n) → PySem.wpAny (PySem.model X.prog X.w) X.A (PySem.call (.builtin "len") us) (L2.EP X pins σ Q) X.xe s := fun ⟨n', l, en⟩ => by
      subst en
      exact L2.call_len pins s σ H [v] us Q I rx ⟨v, n', rfl, l, PV.here q hr (.int _)⟩
    cases d <;> simp only [lenS] at e <;> first | (cases e; done) | skip
    · obtain ⟨rfl, z⟩ := rv1.str_inv
      refine go ⟨_, ⟨?_, rfl⟩, ?_⟩
      · rw [lim_eq, str_len]; exact sOK_len z
      · rw [str_len]; exact Option.some.inj e
    · obtain ⟨a, xs, rfl, h1, h2⟩ := rv1.tup_inv
      exact go ⟨xs.length, .inr ⟨xs, h1, rfl⟩, by rw [← h2.length]; exact Option.some.inj e⟩
    · obtain ⟨a, rfl, ha⟩ := rv1.ref_inv
      split at e
      · rename_i xs hx
        cases e
        obtain ⟨ys, e1, r1⟩ := hr.ok _ a _ ha hx
        exact go ⟨ys.length, .inl ⟨ys, .inl (.inl e1), rfl⟩, by rw [r1.length]⟩
      · rename_i xs hx
        cases e
        obtain ⟨ys, e1, r1⟩ := hr.ok _ a _ ha hx
        refine go ⟨ys.length, .inl ⟨ys, ?_, rfl⟩, by rw [r1.length]⟩
        rcases e1 with ⟨ob, e1⟩ | e1
        · exact .inl (.inr ⟨ob, e1⟩)
        · exact .inr e1
      · rename_i kvs hx
        cases e
        obtain ⟨u, rfl, ru⟩ := L2.vals1 rx
        cases ru
        exact len_dict I (hr.ok _ a _ ha hx) fun t s' I' => ⟨.int _, H, I', ⟨t, rfl⟩, PV.here q hr (.int _)⟩
      · cases e
  | [], rv, e => simp [bltS] at e
  | _ :: _ :: _, rv, e => simp [bltS] at e
theorem call_absM : L2.CallR X (.builtin "abs") (liftA X (bltS .abs)) := by
  refine CallR.imp L2.call_abs fun vs H Q h => ?_
  obtain ⟨ρ, hp, ds, r, hr, rv, e, q⟩ := h
  rcases ds with _ | ⟨d, _ | ⟨d2, ds⟩⟩ <;> try (simp [bltS] at e; done)
  cases d <;> try (simp [bltS] at e; done)
  simp only [bltS, Option.some.injEq] at e
  subst e
  obtain ⟨v, rfl, r1⟩ := rv.one_inv
  obtain rfl := r1.int_inv
  exact ⟨_, rfl, PV.here q hr (.int _)⟩
theorem call_intM : L2.CallR X (.type "int") (liftA X (bltS .int)) := by
  refine CallR.imp L2.call_int1 fun vs H Q h => ?_
  obtain ⟨ρ, hp, ds, r, hr, rv, e, q⟩ := h
  rcases ds with _ | ⟨d, _ | ⟨d2, ds⟩⟩ <;> try (simp [bltS] at e; done)
  cases d <;> try (simp [bltS] at e; done)
  simp only [bltS, Option.some.injEq] at e
  subst e
  obtain ⟨v, rfl, r1⟩ := rv.one_inv
  obtain rfl := r1.int_inv
  exact .inl ⟨_, rfl, PV.here q hr (.int _)⟩
theorem call_max2M (hc : X.calm = true) : L2.CallR X (.builtin "max") (liftA X (bltS .max2)) := by
  refine CallR.imp (L2.call_max2 hc) fun vs H Q h => ?_
  obtain ⟨ρ, hp, ds, r, hr, rv, e, q⟩ := h
  rcases ds with _ | ⟨d, _ | ⟨d2, _ | ⟨d3, ds⟩⟩⟩ <;> try (simp [bltS] at e; done)
  cases d <;> try (simp [bltS] at e; done)
  cases d2 <;> try (simp [bltS] at e; done)
  simp only [bltS, Option.some.injEq] at e
  subst e
  obtain ⟨v, u, rfl, r1, r2⟩ := rv.two_inv
  obtain rfl := r1.int_inv
  obtain rfl := r2.int_inv
  exact ⟨_, _, rfl, PV.here q hr (.int _)⟩
theorem call_min2M (hc : X.calm = true) : L2.CallR X (.builtin "min") (liftA X (bltS .min2)) := by
  refine CallR.imp (L2.call_min2 hc) fun vs H Q h => ?_
  obtain ⟨ρ, hp, ds, r, hr, rv, e, q⟩ := h
  rcases ds with _ | ⟨d, _ | ⟨d2, _ | ⟨d3, ds⟩⟩⟩ <;> try (simp [bltS] at e; done)
  cases d <;> try (simp [bltS] at e; done)
  cases d2 <;> try (simp [bltS] at e; done)
  simp only [bltS, Option.some.injEq] at e
  subst e
  obtain ⟨v, u, rfl, r1, r2⟩ := rv.two_inv
  obtain rfl := r1.int_inv
  obtain rfl := r2.int_inv
  exact ⟨_, _, rfl, PV.here q hr (.int _)⟩
theorem ints_inv {K : PySem.W.Frag} {ρ : List Addr} {H : LHp} : ∀ {ds : List D} {ns : List Int} {vs : List LV}, intsOf ds = some ns → RVs K ρ H ds vs → vs = ns.map L2.V.int
  | [], ns, vs, e, r => by cases e; cases r; rfl
  | d :: ds, ns, vs, e, r => by
    cases d <;> simp only [intsOf] at e <;> first | (cases e; done) | skip
    obtain ⟨ms, e1, rfl⟩ := Option.map_eq_some_iff.mp e
    cases r with
    | cons r1 r2 =>
      obtain rfl := r1.int_inv
      rw [ints_inv e1 r2]; rfl
theorem bools_inv {K : PySem.W.Frag} {ρ : List Addr} {H : LHp} : ∀ {ds : List D} {ns : List Bool} {vs : List LV}, boolsOf ds = some ns → RVs K ρ H ds vs → vs = ns.map L2.V.bl
  | [], ns, vs, e, r => by cases e; cases r; rfl
  | d :: ds, ns, vs, e, r => by
    cases d <;> simp only [boolsOf] at e <;> first | (cases e; done) | skip
    obtain ⟨ms, e1, rfl⟩ := Option.map_eq_some_iff.mp e
    cases r with
    | cons r1 r2 =>
      cases r1
      rw [bools_inv e1 r2]; rfl
/-- a list argument -/
theorem lst_arg {ρ : List Addr} {H : LHp} {hp : Hm} {d : D} {v : LV} {xs : List D} (hr : HRX X ρ hp H) (r : RV X.K ρ H d v) (e : lstOf hp d = some xs) : ∃ a ys, v = .ref a ∧ L2.SqL X.K H a ys ∧ RVs X.K ρ H xs ys := by
  cases d <;> simp only [lstOf] at e <;> first | (cases e; done) | skip
  obtain ⟨a, rfl, ha⟩ := r.ref_inv
  obtain ⟨b, ys, hb, h1, h2⟩ := hr.getL e
  obtain rfl := ref_eq ha hb
  exact ⟨a, ys, rfl, h1, h2⟩
theorem call_sumM (hc : X.calm = true) : L2.CallR X (.builtin "sum") (liftA X (bltS .sum)) := by
  refine CallR.imp (L2.cr_sum hc) fun vs H Q h => ?_
  obtain ⟨ρ, hp, ds, r, hr, rv, e, q⟩ := h
  rcases ds with _ | ⟨d, _ | ⟨d2, ds⟩⟩ <;> try (simp [bltS] at e; done)
  simp only [bltS, Option.map_eq_some_iff, Option.bind_eq_some_iff] at e
  obtain ⟨ns, ⟨xs, e1, e2⟩, rfl⟩ := e
  obtain ⟨v, rfl, r1⟩ := rv.one_inv
  obtain ⟨a, ys, rfl, h1, h2⟩ := lst_arg hr r1 e1
  obtain rfl := ints_inv e2 h2
  exact ⟨a, ns, rfl, h1, PV.here q hr (.int _)⟩
theorem foldl_max_mem : ∀ (ns : List Int) (m : Int), (ns.foldl max m = m ∨ ns.foldl max m ∈ ns) ∧ m ≤ ns.foldl max m ∧ ∀ y ∈ ns, y ≤ ns.foldl max m
  | [], m => ⟨.inl rfl, Int.le_refl _, fun _ h => nomatch h⟩
  | n :: ns, m => by
    obtain ⟨a, b, c⟩ := foldl_max_mem ns (max m n)
    rw [List.foldl_cons]
    refine ⟨?_, by omega, fun y hy => ?_⟩
    · rcases a with a | a
      · rw [a]
        rcases Int.le_total m n with h | h
        · right; rw [Int.max_eq_right h]; exact List.mem_cons_self
        · left; exact Int.max_eq_left h
      · right; exact List.mem_cons_of_mem _ a
    · rcases List.mem_cons.mp hy with rfl | hy
      · omega
      · exact c y hy
theorem foldl_min_mem : ∀ (ns : List Int) (m : Int), (ns.foldl min m = m ∨ ns.foldl min m ∈ ns) ∧ ns.foldl min m ≤ m ∧ ∀ y ∈ ns, ns.foldl min m ≤ y
  | [], m => ⟨.inl rfl, Int.le_refl _, fun _ h => nomatch h⟩
  | n :: ns, m => by
    obtain ⟨a, b, c⟩ := foldl_min_mem ns (min m n)
    rw [List.foldl_cons]
    refine ⟨?_, by omega, fun y hy => ?_⟩
    · rcases a with a | a
      · rw [a]
        rcases Int.le_total m n with h | h
        · left; exact Int.min_eq_left h
        · right; rw [Int.min_eq_right h]; exact List.mem_cons_self
      · right; exact List.mem_cons_of_mem _ a
    · rcases List.mem_cons.mp hy with rfl | hy
      · omega
      · exact c y hy
theorem call_max1M (hc : X.calm = true) : L2.CallR X (.builtin "max") (liftA X (bltS .max1)) := by
  refine CallR.imp (L2.cr_max hc) fun vs H Q h => ?_
  obtain ⟨ρ, hp, ds, r, hr, rv, e, q⟩ := h
  rcases ds with _ | ⟨d, _ | ⟨d2, ds⟩⟩ <;> try (simp [bltS] at e; done)
  simp only [bltS, Option.bind_eq_some_iff] at e
  obtain ⟨ns, ⟨xs, e1, e2⟩, e3⟩ := e
  split at e3
  · rename_i hne
    cases e3
    obtain ⟨v, rfl, r1⟩ := rv.one_inv
    obtain ⟨a, ys, rfl, h1, h2⟩ := lst_arg hr r1 e1
    obtain rfl := ints_inv e2 h2
    refine ⟨a, ns, rfl, h1, List.length_pos_iff.mpr hne, fun m hm hle => ?_⟩
    have em : m = ns.foldl max (ns.headD 0) := by
      obtain ⟨p, q1, q2⟩ := foldl_max_mem ns (ns.headD 0)
      have hin : ns.foldl max (ns.headD 0) ∈ ns := by
        rcases p with p | p
        · rw [p]; cases ns with
          | nil => exact absurd rfl hne
          | cons x r => exact List.mem_cons_self
        · exact p
      have h1 := hle _ hin
      have h2 := q2 _ hm
      omega
    rw [em]
    exact PV.here q hr (.int _)
  · cases e3
theorem call_min1M (hc : X.calm = true) : L2.CallR X (.builtin "min") (liftA X (bltS .min1)) := by
  refine CallR.imp (L2.cr_min hc) fun vs H Q h => ?_
  obtain ⟨ρ, hp, ds, r, hr, rv, e, q⟩ := h
  rcases ds with _ | ⟨d, _ | ⟨d2, ds⟩⟩ <;> try (simp [bltS] at e; done)
  simp only [bltS, Option.bind_eq_some_iff] at e
  obtain ⟨ns, ⟨xs, e1, e2⟩, e3⟩ := e
  split at e3
  · rename_i hne
    cases e3
    obtain ⟨v, rfl, r1⟩ := rv.one_inv
    obtain ⟨a, ys, rfl, h1, h2⟩ := lst_arg hr r1 e1
    obtain rfl := ints_inv e2 h2
    refine ⟨a, ns, rfl, h1, List.length_pos_iff.mpr hne, fun m hm hle => ?_⟩
    have em : m = ns.foldl min (ns.headD 0) := by
      obtain ⟨p, q1, q2⟩ := foldl_min_mem ns (ns.headD 0)
      have hin : ns.foldl min (ns.headD 0) ∈ ns := by
        rcases p with p | p
        · rw [p]; cases ns with
          | nil => exact absurd rfl hne
          | cons x r => exact List.mem_cons_self
        · exact p
      have h1 := hle _ hin
      have h2 := q2 _ hm
      omega
    rw [em]
    exact PV.here q hr (.int _)
  · cases e3
theorem call_allM (hc : X.calm = true) : L2.CallR X (.builtin "all") (liftA X (bltS .all)) := by
  refine CallR.imp (L2.cr_all hc) fun vs H Q h => ?_
  obtain ⟨ρ, hp, ds, r, hr, rv, e, q⟩ := h
  rcases ds with _ | ⟨d, _ | ⟨d2, ds⟩⟩ <;> try (simp [bltS] at e; done)
  simp only [bltS, Option.map_eq_some_iff, Option.bind_eq_some_iff] at e
  obtain ⟨ns, ⟨xs, e1, e2⟩, rfl⟩ := e
  obtain ⟨v, rfl, r1⟩ := rv.one_inv
  obtain ⟨a, ys, rfl, h1, h2⟩ := lst_arg hr r1 e1
  obtain rfl := bools_inv e2 h2
  exact ⟨a, ns, rfl, h1, PV.here q hr (.bl _)⟩
theorem call_anyM (hc : X.calm = true) : L2.CallR X (.builtin "any") (liftA X (bltS .any)) := by
  refine CallR.imp (L2.cr_any hc) fun vs H Q h => ?_
  obtain ⟨ρ, hp, ds, r, hr, rv, e, q⟩ := h
  rcases ds with _ | ⟨d, _ | ⟨d2, ds⟩⟩ <;> try (simp [bltS] at e; done)
  simp only [bltS, Option.map_eq_some_iff, Option.bind_eq_some_iff] at e
  obtain ⟨ns, ⟨xs, e1, e2⟩, rfl⟩ := e
  obtain ⟨v, rfl, r1⟩ := rv.one_inv
  obtain ⟨a, ys, rfl, h1, h2⟩ := lst_arg hr r1 e1
  obtain rfl := bools_inv e2 h2
  exact ⟨a, ns, rfl, h1, PV.here q hr (.bl _)⟩
end
end M

end
section
set_option Elab.async false
set_option linter.all false
set_option autoImplicit false
set_option maxRecDepth 100000
set_option maxHeartbeats 4000000
/-! what is collected, sorted -/
namespace M
open PySem (Addr Obj Value Str PyData Heap NestedKey)
mutual
theorem toks_pd : ∀ d : D, PySem.W.keyToks (pd d) = toks d
  | .non => rfl
  | .bl b => rfl
  | .int n => rfl
  | .str x => rfl
  | .tup xs => toks_pds xs
  | .lst xs => toks_pds xs
  | .ref a => rfl
theorem toks_pds : ∀ ds : List D, PySem.W.keyToksAll (pds ds) = toksL ds
  | [] => rfl
  | d :: ds => by simp only [pds, PySem.W.keyToksAll, toksL, toks_pd d, toks_pds ds]
end
mutual
theorem alike_pd : ∀ x y : D, alikeD x y = true → PySem.W.alike (pd x) (pd y) = true
  | .non, y, h => by cases y <;> simp_all [alikeD, pd, PySem.W.alike]
  | .bl b, y, h => by cases y <;> simp_all [alikeD, pd, PySem.W.alike]
  | .int n, y, h => by cases y <;> simp_all [alikeD, pd, PySem.W.alike]
  | .str x, y, h => by cases y <;> simp_all [alikeD, pd, PySem.W.alike]
  | .tup xs, y, h => by
    cases y <;> simp only [alikeD, pd, PySem.W.alike] at * <;> first | exact alike_pds xs _ h | simp_all
  | .lst xs, y, h => by cases y <;> simp [alikeD] at h
  | .ref a, y, h => by cases y <;> simp [alikeD] at h
theorem alike_pds : ∀ xs ys : List D, alikeDs xs ys = true → PySem.W.alikeAll (pds xs) (pds ys) = true
  | [], ys, h => by cases ys <;> rfl
  | x :: xs, [], h => rfl
  | x :: xs, y :: ys, h => by
    simp only [alikeDs, Bool.and_eq_true] at h
    simp only [pds, PySem.W.alikeAll, Bool.and_eq_true]
    exact ⟨alike_pd x y h.1, alike_pds xs ys h.2⟩
end
theorem ltI_eq : ∀ a b, PyProof.Rows.itemLt a b = ltI a b
  | .inl _, .inl _ => rfl
  | .inl _, .inr _ => rfl
  | .inr _, .inl _ => rfl
  | .inr _, .inr _ => rfl
theorem ltT_eq : ∀ a b, PyProof.Rows.lexLt PyProof.Rows.itemOrd a b = ltT a b
  | [], [] => rfl
  | [], _ :: _ => rfl
  | _ :: _, [] => rfl
  | x :: r, y :: t => by
    show (PyProof.Rows.itemLt x y || (!PyProof.Rows.itemLt y x && PyProof.Rows.lexLt PyProof.Rows.itemOrd r t)) = _
    rw [ltT_eq r t, ltI_eq, ltI_eq]; rfl
theorem le_eq (x y : D) : PySem.W.dataLe false pd x y = !ltB y x := by
  show (!PyProof.Rows.lexLt PyProof.Rows.itemOrd (PySem.W.keyToks (pd y)) (PySem.W.keyToks (pd x))) = _
  rw [toks_pd, toks_pd, ltT_eq]; rfl
theorem le_total : PySem.W.TotalLe (PySem.W.dataLe false pd) := PySem.W.sortLe_total _ _ _
theorem insD_perm (x : D) : ∀ ys : List D, (insD x ys).Perm (x :: ys)
  | [] => List.Perm.refl _
  | y :: ys => by
    unfold insD
    split
    · exact ((insD_perm x ys).cons y).trans (List.Perm.swap x y ys)
    · exact List.Perm.refl _
theorem sortD_perm : ∀ xs : List D, (sortD xs).Perm xs
  | [] => List.Perm.refl _
  | x :: xs => (insD_perm x _).trans ((sortD_perm xs).cons x)
abbrev leD := PySem.W.dataLe false pd
theorem insD_sorted (x : D) : ∀ ys : List D, ys.Pairwise (fun a b => leD a b = true) → (insD x ys).Pairwise (fun a b => leD a b = true)
  | [], _ => by simp [insD]
  | y :: ys, h => by
    rw [List.pairwise_cons] at h
    unfold insD
    split
    · rename_i c
      refine List.pairwise_cons.mpr ⟨fun z hz => ?_, insD_sorted x ys h.2⟩
      rcases List.mem_cons.mp ((insD_perm x ys).mem_iff.mp hz) with rfl | hz
      · rcases le_total.total y z with q | q
        · exact q
        · rw [le_eq, c] at q; cases q
      · exact h.1 z hz
    · rename_i c
      have xy : leD x y = true := by rw [show leD x y = !ltB y x from le_eq x y]; simpa using c
      refine List.pairwise_cons.mpr ⟨fun z hz => ?_, List.pairwise_cons.mpr h⟩
      rcases List.mem_cons.mp hz with rfl | hz
      · exact xy
      · exact le_total.trans _ _ _ xy (h.1 z hz)
theorem insD_stable (c x : D) : ∀ ys : List D, (insD x ys).filter (PySem.W.sameRank leD c) = (x :: ys).filter (PySem.W.sameRank leD c)
  | [] => rfl
  | y :: ys => by
    unfold insD
    split
    · rename_i q
      rw [List.filter_cons, insD_stable c x ys, List.filter_cons, List.filter_cons, List.filter_cons]
      by_cases hx : PySem.W.sameRank leD c x = true
      · by_cases hy : PySem.W.sameRank leD c y = true
        · -- x, y of one rank: then not y < x
          unfold PySem.W.sameRank at hx hy
          rw [Bool.and_eq_true] at hx hy
          have := le_total.trans x c y hx.2 hy.1
          rw [le_eq, q] at this; cases this
        · simp [hx, hy]
      · simp [hx]
    · rfl
theorem sortD_stable (c : D) : ∀ xs : List D, (sortD xs).filter (PySem.W.sameRank leD c) = xs.filter (PySem.W.sameRank leD c)
  | [] => rfl
  | x :: xs => by
    show (insD x (sortD xs)).filter _ = _
    rw [insD_stable, List.filter_cons, List.filter_cons, sortD_stable c xs]
theorem sortD_sorted : ∀ xs : List D, (sortD xs).Pairwise (fun a b => leD a b = true)
  | [] => .nil
  | x :: xs => insD_sorted x _ (sortD_sorted xs)
theorem sortD_eq (xs : List D) : xs.mergeSort leD = sortD xs := (PySem.W.sort_unique le_total (sortD_sorted xs) fun c => sortD_stable c xs).symm

/-! ### collecting a dict's keys -/
theorem leaf_inj {K : PySem.W.Frag} {ρ : List Addr} {H : LHp} : ∀ {kvs : List (D × D)} {kvs' : List (L2.Key × LV)}, LK K ρ H kvs kvs' → RVs K ρ H (kvs.map (·.1)) (kvs'.map fun p => L2.kV p.1)
  | _, _, .nil => .nil
  | _, _, .cons h1 h2 h3 r => .cons h2 (leaf_inj r)
theorem tks_keys {K : PySem.W.Frag} {ρ : List Addr} {H : LHp} : ∀ {kvs : List (D × D)} {xs : List (NestedKey × Addr × Value)}, TKs K ρ H kvs xs → RVs K ρ H (kvs.map (·.1)) (xs.map fun x => L2.V.ref x.2.1)
  | _, _, .nil => .nil
  | _, _, .cons h1 h2 h3 h4 r => .cons h2 (tks_keys r)
theorem ref_vals : ∀ xs : List (NestedKey × Addr × Value), L2.Vals (xs.map fun x => L2.V.ref x.2.1) (xs.map fun x => Value.ref x.2.1)
  | [] => .nil
  | _ :: r => .cons rfl (ref_vals r)
section
variable {X : L2.Cx} {pins : List (Addr × Obj)} {s : PySem.Shared} {σ : L2.St} {H : LHp} {ρ : List Addr} {A : PySem.Around} {E : Value → PySem.Shared → Prop} {a : Addr} {kvs : List (D × D)}
theorem kdl_rawM {prog : PySem.Program} {w : PySem.World} {d : Addr} {o : Obj} {es : Array PySem.DictEntry} {ep : Nat} (lo : (d == PySem.sysModules) = false) (hx : o.ExactDict) (hd : o.data = .dict es ep) :
    PySem.W.KdlSrc prog w "dict" d d es.size (fun i v => ∃ en : PySem.DictEntry, es[i]? = some en ∧ v = en.key) (fun h => h.get? d = some o) := L2.kdl_raw lo hx hd
/-- the source of a dict's keys -/
theorem dict_src (I : L2.Inv X pins σ H s) (hc : CellX X ρ H a (.dct kvs)) : ∃ (n : Nat) (P : Nat → Value → Prop) (OK : Heap → Prop), PySem.W.KdlSrc X.prog X.w "dict" a a n P OK ∧ OK s.heap ∧ n ≤ PySem.sizeLine ∧
    ∀ acc : List Value, (∀ j v, acc[j]? = some v → P j v) → acc.length = n → ∃ ys, L2.Vals ys acc ∧ RVs X.K ρ H (kvs.map (·.1)) ys := by
  rcases hc with ⟨kvs', e, r, z⟩ | ⟨hs, o, e, xs, es, ep, h1, h2, h3, h4, h5, h6, h7⟩
  · obtain ⟨z', lo, vs, rel, dd⟩ := L2.dk_of I.hok e
    obtain ⟨ep, hat⟩ := dd.dictAt
    refine ⟨_, _, _, PySem.W.kdl_dict (knd := L2.mixKind X.prog X.w) (kvs := vs) (ep := ep) lo, hat, by rw [← rel.length]; exact z', fun acc h hl => ?_⟩
    refine ⟨_, L2.keys_at hl fun j v e => h j v e, ?_⟩
    have ek : (vs.map fun p => L2.kV p.1) = kvs'.map fun p => L2.kV p.1 := by
      have q := congrArg (List.map L2.kV) rel.keys
      rw [List.map_map, List.map_map] at q
      exact q.symm
    rw [ek]
    exact leaf_inj r
  · obtain ⟨q, _, _⟩ := I.hok a _ e
    have hsz : es.size = xs.length := PySem.size_of_entries h3
    refine ⟨_, _, _, L2.kdl_raw hs h1 h2, q, by rw [hsz, lim_eq, ← h5.length]; exact h7, fun acc h hl => ?_⟩
    have ea : acc = xs.map fun x => Value.ref x.2.1 := by
      refine List.ext_getElem? fun j => ?_
      rw [List.getElem?_map]
      cases hj : acc[j]? with
      | none =>
        have := List.getElem?_eq_none_iff.mp hj
        rw [List.getElem?_eq_none (by omega)]; rfl
      | some v =>
        obtain ⟨en, hen, hv⟩ := h j v hj
        have qe := PySem.entry_at h3 j
        rw [hen] at qe
        cases hb : xs[j]? with
        | none => rw [hb] at qe; exact nomatch (show some en = none from qe)
        | some b =>
          rw [hb] at qe
          have e2 : en = PySem.entryOfKey (PySem.nestedKind X.prog X.w) b := Option.some.inj qe
          rw [hv, e2]; rfl
    rw [ea]
    exact ⟨_, ref_vals xs, tks_keys h5⟩
/-- list(d) -/
theorem list_dict (hcalm : X.calm = true) (I : L2.Inv X pins σ H s) (hc : CellX X ρ H a (.dct kvs)) {Q : Value → PySem.Shared → Prop}
    (h : ∀ ys p s', H p = none → L2.Inv X pins σ (L2.upd H p (.lst ys)) s' → RVs X.K ρ H (kvs.map (·.1)) ys → Q (.ref p) s') : PySem.wpAny (PySem.model X.prog X.w) X.A (PySem.call (.type "list") [.ref a]) Q E s := by
  obtain ⟨n, P, OK, src, ok, hn, keys⟩ := dict_src I hc
  refine PySem.W.kdl_call src (I.ok.hd hcalm) ok hn fun h' tk acc' c' kp e it => ?_
  obtain ⟨ys, rv, rk⟩ := keys acc'.toList (fun j v e => it.2 j v (by rw [← Array.getElem?_toList]; exact e)) (by rw [Array.length_toList]; exact it.1)
  have hl := rv.length
  have hl2 : acc'.toList.length = n := by rw [Array.length_toList]; exact it.1
  have hz : ys.length ≤ PySem.sizeLine := by omega
  exact h ys _ _ (I.hok.fresh (Nat.le_refl _)) (I.laid (t' := tk) (o := .lst ys) kp (Nat.le_refl _) ⟨hz, acc'.toList, c', rv, by rw [Array.toArray_toList]; exact e⟩) rk
end

/-! ### sorted -/
theorem pure_snap {f : Nat → Option (List D)} : (∀ d, pureD d = true → snapD f d = some d) ∧ ∀ ds, pureDs ds = true → snapDs f ds = some ds := by
  constructor
  · intro d
    exact D.rec (motive_1 := fun d => pureD d = true → snapD f d = some d) (motive_2 := fun ds => pureDs ds = true → snapDs f ds = some ds)
      (fun _ => rfl) (fun _ _ => rfl) (fun _ _ => rfl) (fun _ _ => rfl)
      (fun xs ih h => by simp only [snapD, ih (by simpa only [pureD] using h), Option.map_some]) (fun xs _ h => by simp [pureD] at h) (fun a h => by simp [pureD] at h)
      (fun _ => rfl) (fun x xs ih1 ih2 h => by
        simp only [pureDs, Bool.and_eq_true] at h
        simp only [snapDs, ih1 h.1, ih2 h.2]) d
  · intro ds
    exact D.rec_1 (motive_1 := fun d => pureD d = true → snapD f d = some d) (motive_2 := fun ds => pureDs ds = true → snapDs f ds = some ds)
      (fun _ => rfl) (fun _ _ => rfl) (fun _ _ => rfl) (fun _ _ => rfl)
      (fun xs ih h => by simp only [snapD, ih (by simpa only [pureD] using h), Option.map_some]) (fun xs _ h => by simp [pureD] at h) (fun a h => by simp [pureD] at h)
      (fun _ => rfl) (fun x xs ih1 ih2 h => by
        simp only [pureDs, Bool.and_eq_true] at h
        simp only [snapDs, ih1 h.1, ih2 h.2]) ds
theorem deps_mem : ∀ {ds : List D} {d : D}, d ∈ ds → dep d ≤ deps ds
  | x :: xs, d, h => by
    rcases List.mem_cons.mp h with rfl | h
    · exact Nat.le_max_left _ _
    · exact Nat.le_trans (deps_mem h) (Nat.le_max_right _ _)
theorem pure_mem : ∀ {ds : List D} {d : D}, pureDs ds = true → d ∈ ds → pureD d = true
  | x :: xs, d, hp, h => by
    simp only [pureDs, Bool.and_eq_true] at hp
    rcases List.mem_cons.mp h with rfl | h
    · exact hp.1
    · exact pure_mem hp.2 h
theorem each_of {K : PySem.W.Frag} {ρ : List Addr} {H : LHp} : ∀ {ds : List D} {vs : List LV} {us : List Value}, RVs K ρ H ds vs → L2.Vals vs us → PySem.W.EachIs (fun u d => ∃ v, RV K ρ H d v ∧ L2.RelV v u) us ds
  | _, _, _, .nil, .nil => .nil
  | _, _, _, .cons r rs, .cons q qs => .cons ⟨_, r, q⟩ (each_of rs qs)
theorem of_each {K : PySem.W.Frag} {ρ : List Addr} {H : LHp} : ∀ {us : List Value} {ds : List D}, PySem.W.EachIs (fun u d => ∃ v, RV K ρ H d v ∧ L2.RelV v u) us ds → ∃ vs, RVs K ρ H ds vs ∧ L2.Vals vs us
  | _, _, .nil => ⟨[], .nil, .nil⟩
  | _, _, .cons ⟨v, r, q⟩ t => let ⟨vs, a, b⟩ := of_each t; ⟨v :: vs, .cons r a, .cons q b⟩
theorem pd_depth {d : D} (h : pureD d = true) : (pd d).depth = dep d := by
  refine D.rec (motive_1 := fun d => pureD d = true → (pd d).depth = dep d) (motive_2 := fun ds => pureDs ds = true → PyData.depthAll (pds ds) = deps ds)
      (fun _ => rfl) (fun _ _ => rfl) (fun _ _ => rfl) (fun _ _ => rfl)
      (fun xs ih h => by simp only [pd, PyData.depth, dep, ih (by simpa only [pureD] using h)]) (fun xs _ h => by simp [pureD] at h) (fun a h => by simp [pureD] at h)
      (fun _ => rfl) (fun x xs ih1 ih2 h => by
        simp only [pureDs, Bool.and_eq_true] at h
        simp only [pds, PyData.depthAll, deps, ih1 h.1, ih2 h.2]) d h
section
variable {X : L2.Cx} {pins : List (Addr × Obj)} {s : PySem.Shared} {σ : L2.St} {H : LHp} {ρ : List Addr} {E : Value → PySem.Shared → Prop}
theorem reads_each (I : L2.Inv X pins σ H s) {hp : Hm} (hr : HRX X ρ hp H) {us : List Value} {ds : List D} (hp' : pureDs ds = true) (e : PySem.W.EachIs (fun u d => ∃ v, RV X.K ρ H d v ∧ L2.RelV v u) us ds) {h' : Heap} (k : ∀ b o, s.heap.get? b = some o → h'.get? b = some o) :
    PySem.W.EachIs (fun u d => ∃ as, PySem.Reads h' u (pd d) as) us ds := by
  refine (PySem.W.each_mem e).mono fun u d ⟨⟨v, r, q⟩, hd⟩ => ?_
  have sn := snap_ok hr r (pure_snap.1 d (pure_mem hp' hd))
  obtain ⟨as, rr⟩ := L2.Dp.reads I _ _ _ sn.dp q
  exact ⟨as, PyProof.Rows.Reads.keeps (fun b o e => k b o e) rr⟩
/-- a new list of values, sorted -/
theorem sort_run {A : PySem.Around} (I : L2.Inv X pins σ H s) {hp : Hm} (hr : HRX X ρ hp H) {vs : List Value} {ys : List LV} {xs : List D} (rv : L2.Vals ys vs) (rx : RVs X.K ρ H xs ys) (ok : sortOK xs = true) (hu : A.units + 64 < PySem.cLine) (hl : vs.length ≤ PySem.sizeLine) {P : PySem.Fin → PySem.Shared → Prop}
    (h : ∀ zs p s', H p = none → p = s.heap.objs.size → L2.Inv X pins σ (L2.upd H p (.lst zs)) s' → RVs X.K ρ H (sortD xs) zs → P (.done (.ret .none)) s') :
    PySem.wpAny (PySem.model X.prog X.w) A (PySem.Builtin.«list.sort» ⟨[.ref s.heap.objs.size], []⟩) P E { s with heap := s.heap.push (PyProof.Rows.seqObj "list" vs.toArray 0) } := by
  unfold sortOK at ok
  simp only [Bool.and_eq_true, decide_eq_true_eq] at ok
  obtain ⟨⟨⟨o1, o2⟩, o3⟩, o4⟩ := ok
  have hoL : (s.heap.push (PyProof.Rows.seqObj "list" vs.toArray 0)).get? s.heap.objs.size = some (PyProof.Rows.seqObj "list" vs.toArray 0) := PySem.Heap.get?_push_size _ rfl
  have keepS : ∀ b o, s.heap.get? b = some o → (PySem.W.sortingHeap (s.heap.push (PyProof.Rows.seqObj "list" vs.toArray 0)) s.heap.objs.size vs).get? b = some o := fun b o e =>
    PySem.W.sortingHeap_old (Nat.ne_of_lt (PySem.Heap.lt_size e)) (PySem.Heap.get?_push_of_some _ e)
  have e := each_of rx rv
  have er := reads_each I hr o1 e keepS
  have noNone : ∀ x ∈ xs, x ≠ .non := fun x hx => by
    rw [Bool.or_eq_true] at o4
    rcases o4 with o4 | o4
    · have := List.all_eq_true.mp o4 x hx; rintro rfl; simp [consTup] at this
    · have := List.all_eq_true.mp o4 x hx; rintro rfl; simp [flatD] at this
  have hal : PySem.W.AllAlike (xs.map pd) := by
    intro a ha b hb
    obtain ⟨x, hx, rfl⟩ := List.mem_map.mp ha
    obtain ⟨y, hy, rfl⟩ := List.mem_map.mp hb
    exact alike_pd x y (List.all_eq_true.mp (List.all_eq_true.mp o3 x hx) y hy)
  have hk : PySem.W.Sortable (xs.map pd) := by
    rw [Bool.or_eq_true] at o4
    rcases o4 with o4 | o4
    · refine .inl fun d hd => ?_
      obtain ⟨x, hx, rfl⟩ := List.mem_map.mp hd
      have := List.all_eq_true.mp o4 x hx
      cases x with
      | tup l => cases l with
        | nil => simp [consTup] at this
        | cons a b => exact ⟨pd a, pds b, rfl⟩
      | _ => simp [consTup] at this
    · refine .inr fun d hd => ?_
      obtain ⟨x, hx, rfl⟩ := List.mem_map.mp hd
      have := List.all_eq_true.mp o4 x hx
      cases x <;> simp_all [flatD, pd]
  have hdep : ∀ d, d ∈ xs.map pd → A.units + d.depth < PySem.cLine := fun d hd => by
    obtain ⟨x, hx, rfl⟩ := List.mem_map.mp hd
    rw [pd_depth (pure_mem o1 hx)]
    have := deps_mem hx
    omega
  refine PySem.W.list_sort_vals (s := { s with heap := s.heap.push (PyProof.Rows.seqObj "list" vs.toArray 0) }) hoL (PySem.W.SortsAt.data (PySem.W.each_map (R := fun v d => ∃ as, PySem.Reads _ v d as) pd er) hal hk hdep) hl ?_
  have out := PySem.W.sortVals_data (h' := PySem.W.sortingHeap (s.heap.push (PyProof.Rows.seqObj "list" vs.toArray 0)) s.heap.objs.size vs) false e er hal
  rw [sortD_eq] at out
  obtain ⟨zs, rz, vz⟩ := of_each out
  obtain ⟨ep, he'⟩ := PyProof.Rows.sortedHeap_at (vs := vs) (out := (PySem.W.sortVals (PySem.W.dataKind (PySem.W.sortingHeap (s.heap.push (PyProof.Rows.seqObj "list" vs.toArray 0)) s.heap.objs.size vs) (xs.map pd)) false vs vs).toArray) hoL
  have hzl : zs.length ≤ PySem.sizeLine := by
    rw [← rz.length, (sortD_perm xs).length_eq, rx.length, rv.length]; exact hl
  refine h zs s.heap.objs.size _ (I.hok.fresh (Nat.le_refl _)) rfl (I.laid (t' := s.toks) (fun b u e => ?_) (Nat.le_refl _) ⟨hzl, _, ep, vz, he'⟩) rz
  have hb : b < s.heap.objs.size := PySem.Heap.lt_size e
  rw [PyProof.Rows.sortedHeap_old (Nat.ne_of_lt hb) (by rw [PyProof.Rows.size_push']; exact Nat.lt_succ_of_lt hb)]
  exact PySem.Heap.get?_push_of_some _ e
end
end M

end
section
set_option Elab.async false
set_option linter.all false
set_option autoImplicit false
set_option maxRecDepth 100000
set_option maxHeartbeats 4000000
/-! further built-ins, methods, subscripts by values -/
namespace M
open PySem (Addr Obj Value Str PyData Heap NestedKey)
section
variable {X : L2.Cx}
theorem itemsOf_ref {hp : Hm} {i : Nat} {xs : List D} (e : itemsOf hp (.ref i) = some xs) : (∃ ds, getL hp i = some ds ∧ xs = ds) ∨ ∃ kvs, hp[i]? = some (.dct kvs) ∧ xs = kvs.map (·.1) := by
  simp only [itemsOf] at e
  split at e
  · rename_i ys h; cases e; exact .inl ⟨xs, by simp [getL, h], rfl⟩
  · rename_i ys h; cases e; exact .inl ⟨xs, by simp [getL, h], rfl⟩
  · rename_i kvs h; cases e; exact .inr ⟨kvs, h, rfl⟩
  · cases e
/-- behind the collecting -/
theorem sort_tail (hu : X.A.units + 80 < PySem.cLine) {pins : List (Addr × Obj)} {s : PySem.Shared} {σ : L2.St} {H : LHp} {Q : L2.VK} {ρ : List Addr} {hp : Hm} (I : L2.Inv X pins σ H s) (hr : HRX X ρ hp H) {vs : List Value} {ys : List LV} {xs : List D} (rv : L2.Vals ys vs) (rx : RVs X.K ρ H xs ys) (ok : sortOK xs = true) (hl : vs.length ≤ PySem.sizeLine)
    (q : PVX X ρ H Q (.ref hp.length) (hp ++ [.lst (sortD xs)])) :
    PySem.wpAny (PySem.model X.prog X.w) X.A.in1 (do
      let l ← PySem.newList vs
      let _ ← PySem.holding [l] (PySem.call (Value.builtin "list.sort") [l] [])
      PySem.ret l) (fun fin s' => ∃ v, fin = PySem.Fin.done (PySem.Flow.ret v) ∧ L2.EP X pins σ Q v s') X.xe s := by
  refine PySem.wpAny_bind (PySem.wpAny_newList ?_ hl)
  have hoL : (s.heap.push (PyProof.Rows.seqObj "list" vs.toArray 0)).get? s.heap.objs.size = some (PyProof.Rows.seqObj "list" vs.toArray 0) := PySem.Heap.get?_push_size _ rfl
  show PySem.wpAny _ _ _ _ _ { s with heap := s.heap.push (PyProof.Rows.seqObj "list" vs.toArray 0) }
  refine PySem.wpAny_bind (PySem.wpAny_holding (PySem.wpAny_call_entry PyProof.Rows.slot_list_sort ⟨_, hoL, rfl⟩ PyProof.Rows.entry_list_sort
    (sort_run I hr rv rx ok (by show X.A.units + 1 + 1 + 64 < _; omega) hl fun zs p s' hn hpe I' rz => ⟨_, rfl, ?_⟩) (PyProof.Rows.args_list_sort _)))
  subst hpe
  refine PySem.wpAny_pure ⟨_, rfl, .ref s.heap.objs.size, _, I', rfl, PV.newL q hr rz hn⟩
theorem call_sortedM (hcalm : X.calm = true) (hu : X.A.units + 80 < PySem.cLine) : L2.CallR X (.builtin "sorted") (liftA X (bltS .sorted)) := by
  intro pins s σ H vs us Q I rx h
  obtain ⟨ρ, hp, ds, r, hr, rv, e, q⟩ := h
  rcases ds with _ | ⟨d, _ | ⟨d2, ds⟩⟩ <;> try (simp [bltS] at e; done)
  cases d <;> try (simp [bltS] at e; done)
  rename_i i
  simp only [bltS, Option.bind_eq_some_iff] at e
  obtain ⟨xs, e1, e2⟩ := e
  split at e2
  case isFalse => cases e2
  rename_i ok
  obtain rfl := newC_inv e2
  obtain ⟨v, rfl, r1⟩ := rv.one_inv
  obtain ⟨a, rfl, ha⟩ := r1.ref_inv
  obtain ⟨u, rfl, ru⟩ := L2.vals1 rx
  cases ru
  refine PySem.Calls.call_function_entry PyProof.Rows.kind_sorted PyProof.Rows.plain_sorted PyProof.Rows.entry_sorted (PyProof.Rows.args_sorted1 _) ?_
  unfold PySem.Builtin.«sorted»
  refine PySem.wpAny_bind (m := PySem.checkCount "sorted" 1 1 _) (PySem.wpAny_pure ?_)
  rcases itemsOf_ref e1 with ⟨ds, e3, rfl⟩ | ⟨kvs, e3, rfl⟩
  · obtain ⟨b, ys, hb, h1, h2⟩ := hr.getL e3
    obtain rfl := ref_eq ha hb
    obtain ⟨its, rvs, pl, hz⟩ := I.list h1
    have hl : its.length ≤ PySem.sizeLine := by rw [← rvs.length]; exact hz
    refine PySem.wpAny_bind (PyProof.Rows.collect_list pl.isList ?_ hl)
    refine sort_tail hu (I.kept (t' := s.toks) fun b o e => ?_) hr rvs h2 ok hl q
    rw [PySem.Heap.get?_update_ne _ _ _ _ (Nat.ne_of_lt (PySem.Heap.lt_size e))]
    exact PySem.Heap.get?_push_of_some _ e
  · obtain ⟨n, P, OK, src, okk, hn, keys⟩ := dict_src I (hr.ok _ a _ ha e3)
    refine PySem.wpAny_bind (PySem.W.kdu_collect src (I.ok.hd hcalm) okk hn fun h' tk acc hk hacc => ?_)
    have hl2 : acc.toList.length = n := by rw [Array.length_toList]; exact hacc.1
    obtain ⟨ys, rvs, rk⟩ := keys acc.toList (fun j v e => hacc.2 j v (by rw [← Array.getElem?_toList]; exact e)) hl2
    exact sort_tail hu (I.kept (t' := tk) hk) hr rvs rk ok (by omega) q
/-! ### tuple(x), list(x) -/
theorem tup_seq {K : PySem.W.Frag} {ρ : List Addr} {H : LHp} {ds : List D} {v : LV} (h : RV K ρ H (.tup ds) v) : ∃ a xs, v = .ref a ∧ L2.SqT K H a xs ∧ RVs K ρ H ds xs := h.tup_inv
/-- a list or a tuple -/
theorem seq_arg {ρ : List Addr} {H : LHp} {hp : Hm} {d : D} {v : LV} {xs : List D} (hr : HRX X ρ hp H) (r : RV X.K ρ H d v) (e : seqOf hp d = some xs) : ∃ a ys, v = .ref a ∧ (L2.SqL X.K H a ys ∨ (d = .tup xs ∧ L2.SqT X.K H a ys)) ∧ RVs X.K ρ H xs ys := by
  cases d <;> simp only [seqOf] at e <;> first | (cases e; done) | skip
  · cases e
    obtain ⟨a, ys, rfl, h1, h2⟩ := r.tup_inv
    exact ⟨a, ys, rfl, .inr ⟨rfl, h1⟩, h2⟩
  · obtain ⟨a, rfl, ha⟩ := r.ref_inv
    obtain ⟨b, ys, hb, h1, h2⟩ := hr.getL e
    obtain rfl := ref_eq ha hb
    exact ⟨a, ys, rfl, .inl h1, h2⟩
theorem call_tupleM : L2.CallR X (.type "tuple") (liftA X (bltS .tuple)) := by
  refine CallR.imp L2.call_tuple_of fun vs H Q h => ?_
  obtain ⟨ρ, hp, ds, r, hr, rv, e, q⟩ := h
  rcases ds with _ | ⟨d, _ | ⟨d2, ds⟩⟩ <;> try (simp [bltS] at e; done)
  simp only [bltS, Option.map_eq_some_iff] at e
  obtain ⟨xs, e1, rfl⟩ := e
  obtain ⟨v, rfl, r1⟩ := rv.one_inv
  obtain ⟨a, ys, rfl, h1, h2⟩ := seq_arg hr r1 e1
  rcases h1 with h1 | ⟨rfl, h1⟩
  · exact ⟨a, ys, rfl, .inl ⟨h1, fun l hl => PV.newT q hr h2 hl⟩⟩
  · exact ⟨a, ys, rfl, .inr ⟨h1, PV.here q hr (.tup h1 h2)⟩⟩
theorem call_listM (hcalm : X.calm = true) : L2.CallR X (.type "list") (liftA X (bltS .list)) := by
  intro pins s σ H vs us Q I rx h
  obtain ⟨ρ, hp, ds, r, hr, rv, e, q⟩ := h
  rcases ds with _ | ⟨d, _ | ⟨d2, ds⟩⟩ <;> try (simp [bltS] at e; done)
  simp only [bltS, Option.bind_eq_some_iff] at e
  obtain ⟨xs, e1, e2⟩ := e
  obtain rfl := newC_inv e2
  obtain ⟨v, rfl, r1⟩ := rv.one_inv
  cases d <;> try (simp [itemsOf] at e1; done)
  · obtain ⟨a, ys, rfl, h1, h2⟩ := r1.tup_inv
    cases e1
    exact L2.call_list_of pins s σ H _ us Q I rx ⟨a, ys, rfl, .inr h1, fun l hl => PV.newL q hr h2 hl⟩
  · obtain ⟨a, rfl, ha⟩ := r1.ref_inv
    rcases itemsOf_ref e1 with ⟨ds, e3, rfl⟩ | ⟨kvs, e3, rfl⟩
    · obtain ⟨b, ys, hb, h1, h2⟩ := hr.getL e3
      obtain rfl := ref_eq ha hb
      exact L2.call_list_of pins s σ H _ us Q I rx ⟨a, ys, rfl, .inl h1, fun l hl => PV.newL q hr h2 hl⟩
    · obtain ⟨u, rfl, ru⟩ := L2.vals1 rx
      cases ru
      exact list_dict hcalm I (hr.ok _ a _ ha e3) fun ys p s' hn I' rk => ⟨.ref p, _, I', rfl, PV.newL q hr rk hn⟩

/-! ### isinstance -/
def tyName : Ty → String
  | .int => "int"
  | .bool => "bool"
  | .str => "str"
  | .tuple => "tuple"
  | .list => "list"
  | .dict => "dict"
/-- whether what is of the type n is of t -/
def isKind : Ty → String → Bool
  | .int, n => n == "int" || n == "bool"
  | .bool, n => n == "bool"
  | .str, n => n == "str"
  | .tuple, n => n == "tuple"
  | .list, n => n == "list"
  | .dict, n => n == "dict"
def kindNames : List String := ["NoneType", "bool", "int", "str", "tuple", "list", "dict"]
theorem kit_all (t : Ty) : (kindNames.all fun n => L2.kitB n (tyName t) == some (isKind t n)) = true := by
  cases t <;> decide +kernel
theorem kit_one (t : Ty) (n : String) (hn : n ∈ kindNames) : L2.kitB n (tyName t) = some (isKind t n) := by
  have := List.all_eq_true.mp (kit_all t) n hn
  exact eq_of_beq this
theorem isi_run {pins : List (Addr × Obj)} {s : PySem.Shared} {σ : L2.St} {H : LHp} {ρ : List Addr} {hp : Hm} (I : L2.Inv X pins σ H s) (hr : HRX X ρ hp H) {t : Ty} {d : D} {v : LV} {u u' : Value} {k : Bool} {Q : L2.VK} (r : RV X.K ρ H d v) (ru : L2.RelV v u) (hu' : u' = .type (tyName t)) (e : isiS hp t d = some k) (q : Q (.bl k) H) :
    PySem.wpAny (PySem.model X.prog X.w) X.A (PySem.call (.builtin "isinstance") [u, u']) (L2.EP X pins σ Q) X.xe s := by
  subst hu'
  have go : ∀ (n : String), n ∈ kindNames → L2.TyX X.K H v (.type n) → k = isKind t n → PySem.wpAny (PySem.model X.prog X.w) X.A (PySem.call (.builtin "isinstance") [u, .type (tyName t)]) (L2.EP X pins σ Q) X.xe s := fun n hn ty hk =>
    L2.call_isi pins s σ H [v, .ty (tyName t)] [u, .type (tyName t)] Q I (.cons ru (.cons rfl .nil)) ⟨v, .ty (tyName t), .type n, .type (tyName t), k, rfl, .ty _, ty, L2.kit_ty (by rw [kit_one t n hn, hk]), q⟩
  cases d <;> simp only [isiS] at e <;> first | (cases e; done) | skip
  · cases r; cases e; exact go "NoneType" (by simp [kindNames]) (.base .non) (by cases t <;> rfl)
  · cases r; cases e; exact go "bool" (by simp [kindNames]) (.base (.bl _)) (by cases t <;> rfl)
  · cases r; cases e; exact go "int" (by simp [kindNames]) (.base (.int _)) (by cases t <;> rfl)
  · obtain ⟨rfl, _⟩ := r.str_inv; cases e; exact go "str" (by simp [kindNames]) (.base (.str _)) (by cases t <;> rfl)
  · obtain ⟨a, xs, rfl, h1, h2⟩ := r.tup_inv
    cases e
    refine go "tuple" (by simp [kindNames]) ?_ (by cases t <;> rfl)
    rcases h1 with (h1 | ⟨o, h1⟩) | ⟨o, its, n, h1, h2, h3⟩
    · exact .base (.tup h1)
    · exact .fTuple h1
    · exact .kTuple h1 h2
  · obtain ⟨a, rfl, ha⟩ := r.ref_inv
    split at e
    · rename_i xs hx
      cases e
      obtain ⟨ys, e1, r1⟩ := hr.ok _ a _ ha hx
      exact go "list" (by simp [kindNames]) (.base (.lst e1)) (by cases t <;> rfl)
    · rename_i xs hx
      cases e
      obtain ⟨ys, e1, r1⟩ := hr.ok _ a _ ha hx
      refine go "list" (by simp [kindNames]) ?_ (by cases t <;> rfl)
      rcases e1 with ⟨ob, e1⟩ | ⟨o, its, n, h1, h2, h3⟩
      · exact .base (.frz e1)
      · exact .kList h1 h2
    · cases e
    · cases e
/-! ### in, <, .. -/
theorem op_inM (hu : X.A.units + 80 < PySem.cLine) : L2.OpR X (PySem.compareOp .In) (liftC X fun x y h => cmpS .isin x y h) ∧ L2.OpR X (PySem.compareOp .NotIn) (liftC X fun x y h => cmpS .notin x y h) := by
  have core : ∀ (pins : List (Addr × Obj)) (s : PySem.Shared) (σ : L2.St) (H : LHp) (v u : LV) (v' u' : Value) (ρ : List Addr) (hp : Hm) (x y : D) (k : Bool), L2.Inv X pins σ H s → L2.RelV v v' → L2.RelV u u' → HRX X ρ hp H → RV X.K ρ H x v → RV X.K ρ H y u → inS hp x y = some k → ∀ Q : Value → PySem.Shared → Prop,
      ((∀ s', L2.Inv X pins σ H s' → Q (.bool k) s') → PySem.wpAny (PySem.model X.prog X.w) X.A (PySem.compareOp .In v' u') Q X.xe s) ∧ ((∀ s', L2.Inv X pins σ H s' → Q (.bool !k) s') → PySem.wpAny (PySem.model X.prog X.w) X.A (PySem.compareOp .NotIn v' u') Q X.xe s) := by
    intro pins s σ H v u v' u' ρ hp x y k I rv ru hr rx ry e Q
    cases y <;> simp only [inS] at e <;> first | (cases e; done) | skip
    · obtain ⟨a, ys, rfl, h1, h2⟩ := ry.tup_inv
      cases ru
      have z := in_run (by omega) I hr rx h2 rv (.inr h1) e (Q := Q) (E := X.xe)
      exact ⟨fun q => z.1 (q s I), fun q => z.2 (q s I)⟩
    · obtain ⟨a, rfl, ha⟩ := ry.ref_inv
      cases ru
      split at e
      · rename_i ys hx
        obtain ⟨zs, e1, r1⟩ := hr.ok _ a _ ha hx
        have z := in_run (by omega) I hr rx r1 rv (.inl (.inl (.inl e1))) e (Q := Q) (E := X.xe)
        exact ⟨fun q => z.1 (q s I), fun q => z.2 (q s I)⟩
      · rename_i ys hx
        obtain ⟨zs, e1, r1⟩ := hr.ok _ a _ ha hx
        have sq : L2.SqL X.K H a zs := by
          rcases e1 with ⟨ob, e1⟩ | e1
          · exact .inl (.inr ⟨ob, e1⟩)
          · exact .inr e1
        have z := in_run (by omega) I hr rx r1 rv (.inl sq) e (Q := Q) (E := X.xe)
        exact ⟨fun q => z.1 (q s I), fun q => z.2 (q s I)⟩
      · rename_i kvs hx
        split at e
        · rename_i hk
          cases e
          have z := d_look (A := X.A) (E := X.xe) (by omega) I (hr.ok _ a _ ha hx) hk rx rv
          exact ⟨fun q => z.2.1 Q q, fun q => z.2.2 Q q⟩
        · cases e
      · cases e
  constructor
  · intro pins s σ H v u v' u' Q I rv ru h
    obtain ⟨ρ, hp, x, y, r, hr, rx, ry, e, q⟩ := h
    obtain ⟨k, e', rfl⟩ := Option.map_eq_some_iff.mp e
    exact (core pins s σ H v u v' u' ρ hp x y k I rv ru hr rx ry e' _).1 fun s' I' => ⟨.bl k, H, I', rfl, PV.here q hr (.bl _)⟩
  · intro pins s σ H v u v' u' Q I rv ru h
    obtain ⟨ρ, hp, x, y, r, hr, rx, ry, e, q⟩ := h
    obtain ⟨k, e', rfl⟩ := Option.map_eq_some_iff.mp e
    obtain ⟨k', e2, hk⟩ := Option.map_eq_some_iff.mp (show (inS hp x y).map not = some k from e')
    exact (core pins s σ H v u v' u' ρ hp x y k' I rv ru hr rx ry e2 _).2 fun s' I' => ⟨.bl k, H, I', by rw [← hk]; rfl, PV.here q hr (.bl _)⟩
theorem op_ltM : L2.OpR X (PySem.compareOp .Lt) (liftC X fun x y h => cmpS .lt x y h) := by
  refine OpR.imp (L2.op_lt.or L2.op_lt_str) fun v u H Q h => ?_
  obtain ⟨ρ, hp, x, y, r, hr, rx, ry, e, q⟩ := h
  obtain ⟨k, e, rfl⟩ := Option.map_eq_some_iff.mp e
  simp only [cmpS] at e
  cases x <;> cases y <;> simp only at e <;> first | (cases e; done) | skip
  · obtain rfl := rx.int_inv; obtain rfl := ry.int_inv
    cases e
    exact .inl ⟨_, _, rfl, rfl, PV.here q hr (.bl _)⟩
  · obtain ⟨rfl, _⟩ := rx.str_inv; obtain ⟨rfl, _⟩ := ry.str_inv
    cases e
    exact .inr ⟨_, _, rfl, rfl, PV.here q hr (.bl _)⟩
theorem op_leM : L2.OpR X (PySem.compareOp .LtE) (liftC X fun x y h => cmpS .le x y h) := by
  refine OpR.imp L2.op_le fun v u H Q h => ?_
  obtain ⟨ρ, hp, x, y, r, hr, rx, ry, e, q⟩ := h
  obtain ⟨k, e, rfl⟩ := Option.map_eq_some_iff.mp e
  simp only [cmpS] at e
  cases x <;> cases y <;> simp only at e <;> first | (cases e; done) | skip
  obtain rfl := rx.int_inv; obtain rfl := ry.int_inv
  cases e
  exact ⟨_, _, rfl, rfl, PV.here q hr (.bl _)⟩
theorem op_gtM : L2.OpR X (PySem.compareOp .Gt) (liftC X fun x y h => cmpS .gt x y h) := by
  refine OpR.imp L2.op_gt fun v u H Q h => ?_
  obtain ⟨ρ, hp, x, y, r, hr, rx, ry, e, q⟩ := h
  obtain ⟨k, e, rfl⟩ := Option.map_eq_some_iff.mp e
  simp only [cmpS] at e
  cases x <;> cases y <;> simp only at e <;> first | (cases e; done) | skip
  obtain rfl := rx.int_inv; obtain rfl := ry.int_inv
  cases e
  exact ⟨_, _, rfl, rfl, PV.here q hr (.bl _)⟩
theorem op_geM : L2.OpR X (PySem.compareOp .GtE) (liftC X fun x y h => cmpS .ge x y h) := by
  refine OpR.imp L2.op_ge fun v u H Q h => ?_
  obtain ⟨ρ, hp, x, y, r, hr, rx, ry, e, q⟩ := h
  obtain ⟨k, e, rfl⟩ := Option.map_eq_some_iff.mp e
  simp only [cmpS] at e
  cases x <;> cases y <;> simp only at e <;> first | (cases e; done) | skip
  obtain rfl := rx.int_inv; obtain rfl := ry.int_inv
  cases e
  exact ⟨_, _, rfl, rfl, PV.here q hr (.bl _)⟩
/-! ### truth -/
theorem tru_M {pins : List (Addr × Obj)} {s : PySem.Shared} {σ : L2.St} {H : LHp} {ρ : List Addr} {hp : Hm} (I : L2.Inv X pins σ H s) (hr : HRX X ρ hp H) {d : D} {v : LV} {u : Value} {k : Bool} {Q : Bool → LHp → Prop} (r : RV X.K ρ H d v) (ru : L2.RelV v u) (e : truth hp d = some k) (q : Q k H) :
    PySem.wpAny (PySem.model X.prog X.w) X.A (PySem.truthy u) (L2.TP X pins σ Q) X.xe s := by
  have go : L2.TruV X.K v H k → PySem.wpAny (PySem.model X.prog X.w) X.A (PySem.truthy u) (L2.TP X pins σ Q) X.xe s := fun t => L2.tru_ok pins s σ H v u Q I ru ⟨k, t, q⟩
  have emp : ∀ {ds : List D} {vs : List LV}, RVs X.K ρ H ds vs → (!ds.isEmpty) = !vs.isEmpty := fun r => by cases r <;> rfl
  cases d <;> simp only [truth] at e <;> first | (cases e; done) | skip
  · cases r; cases e; exact go rfl
  · cases r; cases e; exact go rfl
  · cases r; cases e
    refine go ?_
    show decide _ = _
    rename_i i
    by_cases h : i = 0
    · subst h; rfl
    · rw [decide_eq_true h]; exact (bne_iff_ne.mpr h).symm
  · obtain ⟨rfl, z⟩ := r.str_inv; cases e
    refine go ⟨by rw [lim_eq, str_len]; exact sOK_len z, ?_⟩
    rw [str_len]
    rename_i s0
    cases s0 with
    | nil => rfl
    | cons a b => simp; omega
  · obtain ⟨a, xs, rfl, h1, h2⟩ := r.tup_inv; cases e
    exact go (.inr (.inl ⟨xs, h1, emp h2⟩))
  · obtain ⟨a, rfl, ha⟩ := r.ref_inv
    split at e
    · rename_i xs hx
      cases e
      obtain ⟨ys, e1, r1⟩ := hr.ok _ a _ ha hx
      exact go (.inl ⟨ys, .inl (.inl e1), emp r1⟩)
    · rename_i xs hx
      cases e
      obtain ⟨ys, e1, r1⟩ := hr.ok _ a _ ha hx
      refine go (.inl ⟨ys, ?_, emp r1⟩)
      rcases e1 with ⟨ob, e1⟩ | e1
      · exact .inl (.inr ⟨ob, e1⟩)
      · exact .inr e1
    · cases e
/-! ### subscripts -/
theorem rd_idx {F : FnS} (hF : FMono F) {E : XP} {a b : CE} {S : D → D → Hm → Option D} {σ : L2.St} {H : LHp} {Q : L2.VK}
    (h : rE X (fun env h Q => wpE F E a env h fun x h1 => wpE F E b env h1 fun y h2 => ws (S x y h2) fun d => Q d h2) σ H Q) : L2.tOp (liftR X fun x y h => (S x y h).map fun d => (d, h)) (rE X (wpE F E a)) (rE X (wpE F E b)) σ H Q := by
  obtain ⟨ρ, env, hp, hr, he, h⟩ := h
  refine ⟨ρ, env, hp, hr, he, wpE_mono hF a E env hp _ _ h fun x h1 q ρ1 H1 v p1 t1 hr1 rv1 => ?_⟩
  refine ⟨ρ1, env, h1, hr1, he.mono p1 t1, wpE_mono hF b E env h1 _ _ q fun y h2 q ρ2 H2 u p2 t2 hr2 rv2 => ?_⟩
  obtain ⟨r, e, q⟩ := ws_iff.mp q
  exact ⟨ρ2, h2, x, y, (r, h2), hr2, rv1.mono p2 t2, rv2, by simp [e], PV.weak (p1.trans p2) (t1.trans t2) q⟩
theorem ixN_eq (n : Nat) (i : Int) : ixN n i = L2.ixN n i := rfl
theorem at_get {K : PySem.W.Frag} {ρ : List Addr} {H : LHp} {ds : List D} {vs : List LV} {i : Int} {d : D} (r : RVs K ρ H ds vs) (e : atI ds i = some d) : ∃ v, L2.atI vs i = some v ∧ RV K ρ H d v := by
  unfold atI at e
  obtain ⟨j, e1, e2⟩ := Option.bind_eq_some_iff.mp e
  obtain ⟨v, h1, h2⟩ := r.get e2
  refine ⟨v, ?_, h2⟩
  unfold L2.atI
  rw [← ixN_eq, ← r.length, e1]
  exact h1
theorem ix_M (hu : X.A.units + 80 < PySem.cLine) : L2.IxR X (liftR X fun x y h => (idxS x y h).map fun d => (d, h)) := by
  intro value slice pins s σ H v u v' u' Q I rv ru h hs
  obtain ⟨ρ, hp, x, y, r, hr, rx, ry, e0, q⟩ := h
  obtain ⟨d, e, hd⟩ := Option.map_eq_some_iff.mp e0
  clear e0
  subst hd
  cases x <;> simp only [idxS] at e <;> first | (cases e; done) | skip
  · cases y <;> simp only at e <;> first | (cases e; done) | skip
    obtain ⟨a, xs, rfl, h1, h2⟩ := rx.tup_inv
    obtain rfl := ry.int_inv
    obtain ⟨w, e1, rw'⟩ := at_get h2 e
    exact L2.ix_tup value slice pins s σ H _ _ v' u' Q I rv ru ⟨a, xs, _, w, rfl, rfl, h1, e1, PV.here q hr rw'⟩ hs
  · obtain ⟨a, rfl, ha⟩ := rx.ref_inv
    split at e
    · rename_i xs k hx
      obtain rfl := ry.int_inv
      obtain ⟨ys, e1, r1⟩ := hr.ok _ a _ ha hx
      obtain ⟨w, e2, rw'⟩ := at_get r1 e
      exact L2.ix_list value slice pins s σ H _ _ v' u' Q I rv ru ⟨a, ys, _, w, rfl, rfl, .inl (.inl e1), e2, PV.here q hr rw'⟩ hs
    · rename_i xs k hx
      obtain rfl := ry.int_inv
      obtain ⟨ys, e1, r1⟩ := hr.ok _ a _ ha hx
      obtain ⟨w, e2, rw'⟩ := at_get r1 e
      have sq : L2.SqL X.K H a ys := by
        rcases e1 with ⟨ob, e1⟩ | e1
        · exact .inl (.inr ⟨ob, e1⟩)
        · exact .inr e1
      exact L2.ix_list value slice pins s σ H _ _ v' u' Q I rv ru ⟨a, ys, _, w, rfl, rfl, sq, e2, PV.here q hr rw'⟩ hs
    · rename_i kvs k hx
      split at e
      · rename_i hk
        cases rv
        have hc := hr.ok _ a _ ha hx
        have ty : s.TypeIs (.ref a) "dict" := by
          rcases hc with ⟨kvs', e1, r1, z⟩ | ⟨hs, o, e1, xs, es, ep, h1, h2, h3, h4, h5, h6, h7⟩
          · obtain ⟨_, _, vs, _, dd⟩ := L2.dk_of I.hok e1
            exact dd.typeIs
          · obtain ⟨q, _, _⟩ := I.hok a _ e1
            exact ⟨o, q, h1.1⟩
        exact PyProof.Rows.tail_any ty PySem.F.slot_dict_getitem.lookup ((d_look (A := X.A) (E := X.xe) (by omega) I hc hk ry ru).1 d _ e fun vv w' s' I' rr rw' => ⟨vv, H, I', rw', PV.here q hr rr⟩) hs
      · cases e
    · cases e
theorem cut_eq {K : PySem.W.Frag} {ρ : List Addr} {H : LHp} {ds : List D} {vs : List LV} {lo hi : Option Int} (r : RVs K ρ H ds vs) : RVs K ρ H (cutL ds lo hi) (L2.cutV vs lo hi) := by
  have e : L2.cutV vs lo hi = (vs.drop (sIx vs.length 0 lo)).take (sIx vs.length vs.length hi - sIx vs.length 0 lo) := by
    unfold L2.cutV
    cases lo <;> cases hi <;> rfl
  rw [e]
  unfold cutL
  rw [← r.length]
  exact (r.drop _).take _
theorem cut_whole {ds : List D} {lo hi : Option Int} (h1 : sIx ds.length 0 lo = 0) (h2 : sIx ds.length ds.length hi = ds.length) : cutL ds lo hi = ds := by
  unfold cutL
  rw [h1, h2, List.drop_zero, Nat.sub_zero, List.take_length]
theorem sIx_eq (n d : Nat) (o : Option Int) : HT.sIx n d o = sIx n d o := by cases o <;> rfl
/-- a[lo:hi] -/
theorem sl_M : L2.SlR X (fun v lo hi H Q => ∃ ρ hp x r, HRX X ρ hp H ∧ RV X.K ρ H x v ∧ (match x with
    | .tup xs => some (.tup (cutL xs lo hi), hp)
    | .ref a => (getL hp a).bind fun xs => newC hp (.lst (cutL xs lo hi))
    | _ => none) = some r ∧ PVX X ρ H Q r.1 r.2) := by
  intro pins s σ H v v' vl vu lo hi sl Q I rv hs pl pu h
  obtain ⟨ρ, hp, x, r, hr, rx, e, q⟩ := h
  cases x <;> simp only at e <;> first | (cases e; done) | skip
  · obtain ⟨a, xs, rfl, h1, h2⟩ := rx.tup_inv
    cases e
    refine L2.sl_tupA pins s σ H _ v' vl vu lo hi sl Q I rv hs pl pu ⟨a, xs, rfl, h1, fun w => ?_, fun w p hp' => PV.newT q hr (cut_eq h2) hp'⟩
    rw [sIx_eq, sIx_eq, ← h2.length] at w
    refine PV.here q hr (.tup h1 ?_)
    rw [cut_whole w.1 w.2]
    exact h2
  · obtain ⟨a, rfl, ha⟩ := rx.ref_inv
    obtain ⟨xs, e1, e2⟩ := Option.bind_eq_some_iff.mp e
    obtain rfl := newC_inv e2
    obtain ⟨b, ys, hb, h1, h2⟩ := hr.getL e1
    obtain rfl := ref_eq ha hb
    exact L2.sl_list pins s σ H _ v' vl vu lo hi sl Q I rv hs pl pu ⟨a, ys, rfl, h1, fun p hp' => PV.newL q hr (cut_eq h2) hp'⟩
end
end M

end
section
set_option Elab.async false
set_option linter.all false
set_option autoImplicit false
set_option maxRecDepth 100000
set_option maxHeartbeats 4000000
/-! stores by index, methods -/
namespace M
open PySem (Addr Obj Value Str PyData Heap NestedKey)
section
variable {X : L2.Cx}
/-- what is wanted of the heap -/
def PH (X : L2.Cx) (ρ : List Addr) (H : LHp) (Q : LHp → Prop) : Hm → Prop := fun hp' => ∀ (H' : LHp), TK H H' → HRX X ρ hp' H' → Q H'
def liftS (X : L2.Cx) : L2.TSet := fun o i v H Q => ∃ ρ hp x y z hp', HRX X ρ hp H ∧ RV X.K ρ H x o ∧ RV X.K ρ H y i ∧ RV X.K ρ H z v ∧ setS x y z hp = some hp' ∧ PH X ρ H Q hp'
theorem ixN_lt {n : Nat} {i : Int} {j : Nat} (h : ixN n i = some j) : j < n := by
  unfold ixN at h
  split at h
  · split at h
    · cases h; omega
    · cases h
  · split at h
    · cases h; omega
    · cases h
theorem set_M (hu : X.A.units + 80 < PySem.cLine) : L2.PSet X (liftS X) := by
  intro pins s σ H o i v ov iv u Q I ro ri rv h
  obtain ⟨ρ, hp, x, y, z, hp', hr, rx, ry, rz, e, q⟩ := h
  cases x <;> simp only [setS] at e <;> first | (cases e; done) | skip
  obtain ⟨a, rfl, ha⟩ := rx.ref_inv
  split at e
  · rename_i xs k hx
    obtain ⟨j, e1, rfl⟩ := Option.map_eq_some_iff.mp e
    obtain rfl := ry.int_inv
    obtain ⟨ys, e2, r1⟩ := hr.ok _ a _ ha hx
    refine L2.set_list pins s σ H _ _ v ov iv u Q I ro ri rv ⟨a, ys, k, j, rfl, rfl, e2, by rw [← r1.length]; exact e1, ?_⟩
    have t : TK H (L2.upd H a (.lst (ys.set j v))) := TK.put e2 trivial
    exact q _ t (hr.put ha hx (fun _ z => nomatch z) e2 trivial (fun _ z => nomatch z) ⟨_, L2.upd_same, (r1.set rz j).mono (List.prefix_refl _) t⟩)
  · rename_i kvs k hx
    split at e
    · rename_i hk
      cases e
      cases ro
      have hc := hr.ok _ a _ ha hx
      obtain ⟨mu, u0, eu, cu⟩ := cell_mut hc
      refine d_put (A := X.A) (E := X.xe) (by omega) I hc hk.1 ry ri rz rv hk.2 fun s' o' I' c' => ⟨_, I', q _ (TK.put eu cu) (hr.put ha hx (fun _ z => nomatch z) eu cu (fun _ z => nomatch z) c')⟩
    · cases e
  · cases e

/-! ### methods -/
theorem MtR.imp {id : String} {r r' : LV → List LV → LHp → L2.VK → Prop} (h : L2.MtR X id r) (k : ∀ v vs H Q, r' v vs H Q → r v vs H Q) : L2.MtR X id r' := fun pins s σ H x xs v us Q I rx rxs q => h pins s σ H x xs v us Q I rx rxs (k _ _ _ _ q)
/-- a method's partial function in the layer's words -/
def liftM (X : L2.Cx) (b : Blt) : LV → List LV → LHp → L2.VK → Prop := fun v vs H Q => liftA X (bltS b) (v :: vs) H Q
/-- a changed list cell -/
theorem PV.putL {ρ : List Addr} {H : LHp} {hp : Hm} {Q : L2.VK} {i : Nat} {a : Addr} {ds : List D} {ds' : List D} {xs xs' : List LV} {d : D} {v : LV} (q : PVX X ρ H Q d (hp.set i (.lst ds'))) (hr : HRX X ρ hp H) (ha : ρ[i]? = some a) (hx : hp[i]? = some (.lst ds)) (e : H a = some (.lst xs)) (r : RVs X.K ρ H ds' xs') (rd : RV X.K ρ H d v) :
    Q v (L2.upd H a (.lst xs')) := by
  have t : TK H (L2.upd H a (.lst xs')) := TK.put e trivial
  exact q ρ _ v (List.prefix_refl _) t (hr.put ha hx (fun _ z => nomatch z) e trivial (fun _ z => nomatch z) ⟨xs', L2.upd_same, r.mono (List.prefix_refl _) t⟩) (rd.mono (List.prefix_refl _) t)
theorem getM_at {hp : Hm} {i : Nat} {ds : List D} (h : getM hp i = some ds) : hp[i]? = some (.lst ds) := by
  unfold getM at h
  split at h
  · rename_i xs e; cases h; exact e
  · cases h
theorem mt_appendM : L2.MtR X "list.append" (liftM X .append) := by
  refine MtR.imp L2.mt_append fun v vs H Q h => ?_
  obtain ⟨ρ, hp, ds, r, hr, rv, e, q⟩ := h
  rcases ds with _ | ⟨d, _ | ⟨d2, _ | ⟨d3, ds⟩⟩⟩ <;> try (simp [bltS] at e; done)
  cases d <;> try (simp [bltS] at e; done)
  simp only [bltS, Option.bind_eq_some_iff] at e
  obtain ⟨xs, e1, e2⟩ := e
  split at e2
  case isFalse => cases e2
  rename_i hl
  cases e2
  cases rv with
  | cons r1 r2 =>
    obtain ⟨y, rfl, ry⟩ := r2.one_inv
    obtain ⟨a, rfl, ha⟩ := r1.ref_inv
    obtain ⟨b, ys, hb, hx, h1, h2⟩ := hr.getM e1
    obtain rfl := ref_eq ha hb
    exact ⟨a, ys, y, rfl, rfl, h1, by rw [lim_eq, ← h2.length]; exact hl, PV.putL q hr ha hx h1 (h2.append (.cons ry .nil)) .non⟩
theorem mt_extendM : L2.MtR X "list.extend" (liftM X .extend) := by
  refine MtR.imp L2.mt_extend fun v vs H Q h => ?_
  obtain ⟨ρ, hp, ds, r, hr, rv, e, q⟩ := h
  rcases ds with _ | ⟨d, _ | ⟨d2, _ | ⟨d3, ds⟩⟩⟩ <;> try (simp [bltS] at e; done)
  cases d <;> try (simp [bltS] at e; done)
  cases d2 <;> try (simp [bltS] at e; done)
  simp only [bltS, Option.bind_eq_some_iff] at e
  obtain ⟨xs, e1, zs, e3, e2⟩ := e
  split at e2
  case isFalse => cases e2
  rename_i hl
  cases e2
  cases rv with
  | cons r1 r2 =>
    obtain ⟨y, rfl, ry⟩ := r2.one_inv
    obtain ⟨a, rfl, ha⟩ := r1.ref_inv
    obtain ⟨c, rfl, hc⟩ := ry.ref_inv
    obtain ⟨b, ys, hb, hx, h1, h2⟩ := hr.getM e1
    obtain rfl := ref_eq ha hb
    obtain ⟨b', ws, hb', hx', h1', h2'⟩ := hr.getM e3
    obtain rfl := ref_eq hc hb'
    exact ⟨a, c, ys, ws, rfl, rfl, h1, h1', by rw [lim_eq, ← h2.length, ← h2'.length]; exact hl.1, PV.putL q hr ha hx h1 (h2.append h2') .non⟩
theorem mt_pop0M : L2.MtR X "list.pop" (liftM X .pop0) := by
  refine MtR.imp L2.mt_pop fun v vs H Q h => ?_
  obtain ⟨ρ, hp, ds, r, hr, rv, e, q⟩ := h
  rcases ds with _ | ⟨d, _ | ⟨d2, ds⟩⟩ <;> try (simp [bltS] at e; done)
  · cases d <;> try (simp [bltS] at e; done)
    simp only [bltS, Option.bind_eq_some_iff, Option.map_eq_some_iff] at e
    obtain ⟨xs, e1, x, e2, rfl⟩ := e
    cases rv with
    | cons r1 r2 =>
      cases r2
      obtain ⟨a, rfl, ha⟩ := r1.ref_inv
      obtain ⟨b, ys, hb, hx, h1, h2⟩ := hr.getM e1
      obtain rfl := ref_eq ha hb
      rw [List.getLast?_eq_getElem?] at e2
      obtain ⟨y, hy, ry⟩ := h2.get e2
      exact ⟨a, ys, y, rfl, rfl, h1, by rw [← h2.length]; exact hy, PV.putL q hr ha hx h1 h2.dropLast ry⟩
theorem small_le {i : Int} (h : small i = true) : -1000000 ≤ i ∧ i ≤ 1000000 := by
  unfold small at h
  rw [Bool.and_eq_true, decide_eq_true_eq, decide_eq_true_eq] at h
  exact h
theorem ixN_seq {n : Nat} {i : Int} {k : Nat} (h : ixN n i = some k) : PySem.seqIndex? i n = some k := by
  unfold ixN at h
  unfold PySem.seqIndex?
  by_cases h0 : 0 ≤ i
  · rw [if_pos h0] at h
    by_cases h1 : i < n
    · rw [if_pos h1] at h
      cases h
      simp
      omega
    · rw [if_neg h1] at h; cases h
  · rw [if_neg h0] at h
    by_cases h1 : -(n : Int) ≤ i
    · rw [if_pos h1] at h
      cases h
      simp
      omega
    · rw [if_neg h1] at h; cases h
theorem mt_popIM : L2.MtR X "list.pop" (liftM X .popI) := by
  refine MtR.imp L2.mt_popAt fun v vs H Q h => ?_
  obtain ⟨ρ, hp, ds, r, hr, rv, e, q⟩ := h
  rcases ds with _ | ⟨d, _ | ⟨d2, _ | ⟨d3, ds⟩⟩⟩ <;> try (simp [bltS] at e; done)
  cases d <;> try (simp [bltS] at e; done)
  cases d2 <;> try (simp [bltS] at e; done)
  simp only [bltS] at e
  split at e
  case isFalse => cases e
  rename_i hs
  have hs := small_le hs
  simp only [Option.bind_eq_some_iff, Option.map_eq_some_iff] at e
  obtain ⟨xs, e1, k, e3, x, e2, rfl⟩ := e
  cases rv with
  | cons r1 r2 =>
    obtain ⟨y, rfl, ry⟩ := r2.one_inv
    obtain rfl := ry.int_inv
    obtain ⟨a, rfl, ha⟩ := r1.ref_inv
    obtain ⟨b, ys, hb, hx, h1, h2⟩ := hr.getM e1
    obtain rfl := ref_eq ha hb
    obtain ⟨y, hy, ry⟩ := h2.get e2
    refine ⟨a, ys, _, k, y, rfl, rfl, h1, by omega, by omega, ?_, hy, PV.putL q hr ha hx h1 (h2.eraseIdx k) ry⟩
    rw [← h2.length]
    exact ixN_seq e3
theorem mt_insertM : L2.MtR X "list.insert" (liftM X .insert) := by
  refine MtR.imp L2.mt_insert fun v vs H Q h => ?_
  obtain ⟨ρ, hp, ds, r, hr, rv, e, q⟩ := h
  rcases ds with _ | ⟨d, _ | ⟨d2, _ | ⟨d3, _ | ⟨d4, ds⟩⟩⟩⟩ <;> try (simp [bltS] at e; done)
  cases d <;> try (simp [bltS] at e; done)
  cases d2 <;> try (simp [bltS] at e; done)
  simp only [bltS, Option.bind_eq_some_iff] at e
  obtain ⟨xs, e1, e2⟩ := e
  split at e2
  case isFalse => cases e2
  rename_i hl
  cases e2
  cases rv with
  | cons r1 r2 =>
    obtain ⟨y, z, rfl, ry, rz⟩ := r2.two_inv
    obtain rfl := ry.int_inv
    obtain ⟨a, rfl, ha⟩ := r1.ref_inv
    obtain ⟨b, ys, hb, hx, h1, h2⟩ := hr.getM e1
    obtain rfl := ref_eq ha hb
    have hlim : LIM = 16777216 := rfl
    refine ⟨a, ys, _, z, rfl, rfl, h1, by rw [lim_eq, ← h2.length]; exact hl.1, hl.2.1, by omega, ?_⟩
    rw [List.append_assoc]
    exact PV.putL q hr ha hx h1 ((h2.take _).append (.cons rz (h2.drop _))) .non
end
end M

end
section
set_option Elab.async false
set_option linter.all false
set_option autoImplicit false
set_option maxRecDepth 100000
set_option maxHeartbeats 4000000
/-! calls of methods -/
namespace M
open PySem (Addr Obj Value Str PyData Heap NestedKey Expr)
/-! ### plain rows of arguments -/
def plainE : Expr → Bool
  | .Starred _ _ => false
  | _ => true
theorem star_plain {e : Expr} {es : List Expr} {env : PySem.Env} (h : plainE e = true) : PySem.starEach (e :: es) env = (false, PySem.eval e env) :: PySem.starEach es env := by
  cases e <;> first | rfl | exact Bool.noConfusion h
theorem stars_plain {env : PySem.Env} : ∀ {es : List Expr}, es.all plainE = true → PySem.starEach es env = es.map fun e => (false, PySem.eval e env)
  | [], _ => rfl
  | e :: es, h => by
    rw [List.all_cons, Bool.and_eq_true] at h
    rw [star_plain h.1, stars_plain h.2, List.map_cons]
theorem back_plain {env : PySem.Env} {pos : PySem.Pos} {es : List Expr} (h : es.all plainE = true) : PySem.backTo pos (PySem.starEach es env) = es.map fun e => (false, PySem.eval e env) := by
  rw [stars_plain h, PySem.backTo, List.map_map]
  rfl
theorem any_plain {env : PySem.Env} {pos : PySem.Pos} {es : List Expr} (h : es.all plainE = true) : (PySem.backTo pos (PySem.starEach es env)).any (·.1) = false := by
  rw [back_plain h, List.any_map]
  induction es with
  | nil => rfl
  | cons e es ih => rw [List.all_cons, Bool.and_eq_true] at h; simp [ih h.2]
theorem all_plain {env : PySem.Env} {pos : PySem.Pos} {es : List Expr} (h : es.all plainE = true) : (PySem.backTo pos (PySem.starEach es env)).all (fun x => !x.1) = true := by
  rw [back_plain h, List.all_map]
  induction es with
  | nil => rfl
  | cons e es ih => rw [List.all_cons, Bool.and_eq_true] at h; simp [ih h.2]
/-- no call super() -/
def baseE : Expr → Bool
  | .Call (.Name _ _) [] [] _ => false
  | _ => true
theorem base_of {o : Expr} {name : Str} {env : PySem.Env} {whole : PySem.Sem Value} (h : baseE o = true) : PySem.attributeBase o name env whole = whole := by
  unfold PySem.attributeBase
  split
  · exact Bool.noConfusion h
  · rfl

section
variable {X : L2.Cx}
theorem getK_at {hp : Hm} {i : Nat} {ds : List (D × D)} (h : getK hp i = some ds) : hp[i]? = some (.dct ds) := by
  unfold getK at h
  split at h
  · rename_i xs e; cases h; exact e
  · cases h
theorem findIdx_pds (a : D) : ∀ (bs : List D) (k : Nat), (bs.findIdx? fun b => eqD b a) = some k → ∃ z, (pds bs)[k]? = some z ∧ PyData.eqv z (pd a) = true ∧ ∀ (m : Nat) (z' : PyData), m < k → (pds bs)[m]? = some z' → PyData.eqv z' (pd a) = false
  | [], k, h => by simp at h
  | b :: bs, k, h => by
    rw [List.findIdx?_cons] at h
    split at h
    · rename_i hb
      cases h
      exact ⟨pd b, rfl, by rw [← eqD_pd]; exact hb, fun m z' hm => absurd hm (Nat.not_lt_zero m)⟩
    · rename_i hb
      obtain ⟨j, hj, rfl⟩ := Option.map_eq_some_iff.mp h
      obtain ⟨z, h1, h2, h3⟩ := findIdx_pds a bs j hj
      refine ⟨z, by simpa [pds] using h1, h2, fun m z' hm hz => ?_⟩
      cases m with
      | zero =>
        simp [pds] at hz
        subst hz
        rw [← eqD_pd]
        simpa using hb
      | succ m => exact h3 m z' (by omega) (by simpa [pds] using hz)
theorem shaped_of {d : PyData} (h1 : d.canLay0 = true) (h2 : d.depth ≤ 61) : PySem.SeqAt.shaped d = true := by
  unfold PySem.SeqAt.shaped
  rw [Bool.and_eq_true, decide_eq_true_eq]
  exact ⟨h1, by omega⟩
theorem mt_indexM (hu : X.A.units + 65 < PySem.cLine) : L2.MtR X "list.index" (liftM X .index) := by
  refine MtR.imp (L2.mt_indexD hu) fun v vs H Q h => ?_
  obtain ⟨ρ, hp, ds, r, hr, rv, e, q⟩ := h
  rcases ds with _ | ⟨d, _ | ⟨d2, _ | ⟨d3, ds⟩⟩⟩ <;> try (simp [bltS] at e; done)
  simp only [bltS, Option.bind_eq_some_iff, Option.map_eq_some_iff] at e
  obtain ⟨xs, e1, k, e2, rfl⟩ := e
  cases rv with
  | cons r1 r2 =>
    obtain ⟨y, rfl, ry⟩ := r2.one_inv
    obtain ⟨a, ys, rfl, sq, rys⟩ := lst_arg hr r1 e1
    unfold indexEq at e2
    split at e2
    · rename_i da dbs ea eb
      split at e2
      · rename_i hd
        have qa := snap_ok hr ry ea
        have qb := snapDs_ok (snapN_ok hr 6) xs dbs ys rys eb
        obtain ⟨z, h1, h2, h3⟩ := findIdx_pds da dbs k e2
        exact ⟨a, y, pd da, pds dbs, k, z, rfl, rfl, .lst sq qb.dp, qa.dp,
          shaped_of qb.lay (by show PyData.depthAll (pds dbs) + 1 ≤ 61; rw [← qb.dep]; omega), shaped_of qa.lay (by rw [← qa.dep]; omega), h1, h2, h3, PV.here q hr (.int _)⟩
      · cases e2
    · cases e2
theorem mt_setdM (hu : X.A.units + 80 < PySem.cLine) : L2.MtR X "dict.setdefault" (liftM X .setdefault) := by
  intro pins s σ H v vs v' us Q I rv' rvs' h
  obtain ⟨ρ, hp, ds, r, hr, rv, e, q⟩ := h
  rcases ds with _ | ⟨d, _ | ⟨d2, _ | ⟨d3, _ | ⟨d4, ds⟩⟩⟩⟩ <;> try (simp [bltS] at e; done)
  cases d <;> try (simp [bltS] at e; done)
  simp only [bltS, Option.bind_eq_some_iff] at e
  obtain ⟨kvs, e1, e2⟩ := e
  split at e2
  case isFalse => cases e2
  rename_i hk
  cases rv with
  | cons r1 r2 =>
    obtain ⟨y, z, rfl, ry, rz⟩ := r2.two_inv
    obtain ⟨a, rfl, ha⟩ := r1.ref_inv
    have hx := getK_at e1
    have hc := hr.ok _ a _ ha hx
    cases rv'
    obtain ⟨u1, u2, rfl, s1, s2⟩ := rvs'.two
    refine d_setdef (A := X.A) (E := X.xe) (by omega) I hc hk.1 ry s1 rz s2 hk.2 (fun x hx' vv w' s' I' rr rw' => ?_) fun hn w' s' o' I' rw' c' => ?_
    · rw [hx'] at e2
      cases e2
      exact ⟨vv, H, I', rw', PV.here q hr rr⟩
    · rw [hn] at e2
      cases e2
      obtain ⟨mu, u0, eu, cu⟩ := cell_mut hc
      have t : TK H (L2.upd H a o') := TK.put eu cu
      exact ⟨_, _, I', rw', q ρ _ _ (List.prefix_refl _) t (hr.put ha hx (fun _ z => nomatch z) eu cu (fun _ z => nomatch z) c') (rz.mono (List.prefix_refl _) t)⟩
theorem mt_getM (hu : X.A.units + 80 < PySem.cLine) : L2.MtR X "dict.get" (liftM X .get2) := by
  intro pins s σ H v vs v' us Q I rv' rvs' h
  obtain ⟨ρ, hp, ds, r, hr, rv, e, q⟩ := h
  rcases ds with _ | ⟨d, _ | ⟨d2, _ | ⟨d3, _ | ⟨d4, ds⟩⟩⟩⟩ <;> try (simp [bltS] at e; done)
  cases d <;> try (simp [bltS] at e; done)
  simp only [bltS, Option.bind_eq_some_iff] at e
  obtain ⟨kvs, e1, e2⟩ := e
  split at e2
  case isFalse => cases e2
  rename_i hk
  cases e2
  cases rv with
  | cons r1 r2 =>
    obtain ⟨y, z, rfl, ry, rz⟩ := r2.two_inv
    obtain ⟨a, rfl, ha⟩ := r1.ref_inv
    have hx := getK_at e1
    have hc := hr.ok _ a _ ha hx
    cases rv'
    obtain ⟨u1, u2, rfl, s1, s2⟩ := rvs'.two
    refine d_get2M (A := X.A) (E := X.xe) (by omega) I hc hk ry s1 rz s2 fun vv w' s' I' rr rw' => ?_
    exact ⟨vv, H, I', rw', PV.here q hr rr⟩

/-! ### o.m(..) -/
def isDM : Blt → Bool
  | .setdefault => true
  | .get2 => true
  | _ => false
theorem recv_ty {pins : List (Addr × Obj)} {s : PySem.Shared} {σ : L2.St} {H : LHp} {ρ : List Addr} {hp : Hm} (I : L2.Inv X pins σ H s) (hr : HRX X ρ hp H) {b : Blt} {d : D} {v : LV} {u : Value} (rx : RV X.K ρ H d v) (ru : L2.RelV v u) (h : recvOK b d hp = true) :
    s.TypeIs u (if isDM b = true then "dict" else "list") ∧ ∀ a, u = .ref a → ∃ ob, s.heap.get? a = some ob ∧ ob.dict = none := by
  have hl : ∀ i, d = .ref i → (getL hp i).isSome = true → s.TypeIs u "list" ∧ ∀ a, u = .ref a → ∃ ob, s.heap.get? a = some ob ∧ ob.dict = none := fun i hi hh => by
    subst hi
    obtain ⟨ds, hds⟩ := Option.isSome_iff_exists.mp hh
    obtain ⟨a, rfl, ha⟩ := rx.ref_inv
    obtain ⟨a', xs, ha', sq, _⟩ := hr.getL hds
    obtain rfl := ref_eq ha ha'
    exact L2.tyV_is I ru (.inl ⟨rfl, xs, sq⟩)
  have hd : ∀ i, d = .ref i → (getK hp i).isSome = true → s.TypeIs u "dict" ∧ ∀ a, u = .ref a → ∃ ob, s.heap.get? a = some ob ∧ ob.dict = none := fun i hi hh => by
    subst hi
    obtain ⟨ds, hds⟩ := Option.isSome_iff_exists.mp hh
    obtain ⟨a, rfl, ha⟩ := rx.ref_inv
    have hc := hr.ok _ a _ ha (getK_at hds)
    cases ru
    rcases hc with ⟨kvs', e1, r1, z⟩ | ⟨hs, o, e1, xs, es, ep, h1, h2, h3, h4, h5, h6, h7⟩
    · exact L2.tyV_is I (v := .ref a) (x := .ref a) rfl (.inr (.inr (.inl ⟨rfl, .inl ⟨_, e1⟩⟩)))
    · obtain ⟨q, _, _⟩ := I.hok a _ e1
      exact ⟨⟨o, q, h1.1⟩, fun b e => by cases e; exact ⟨o, q, h1.2.1⟩⟩
  cases d with
  | ref i => cases b <;> first | exact hl i rfl h | exact hd i rfl h | exact Bool.noConfusion h
  | _ => cases b <;> exact Bool.noConfusion h
theorem pe_methM {F : FnS} (hF : FMono F) {E : XP} {o : Expr} {es : List Expr} {c : CE} {cs : List CE} {name : Str} {apos cpos : PySem.Pos} {T id : String} {b : Blt} (hT : T = if isDM b = true then "dict" else "list")
    (pa : PySem.PlainAttrs T) (slot : PySem.Slot T name id) (hty : PySem.typeOf (.builtin id) = pure (.type "method_descriptor")) (hm : L2.MtR X id (liftM X b)) (ho : L2.PE X o (rE X (wpE F E c))) (ha : L2.PA X es (rA X (wpEs F E cs)))
    (hb : baseE o = true) (hl : (apos.endLine == cpos.line) = true) (hp : es.all plainE = true) (hn : es.length < 30) (hz : es = [] → cs = []) : L2.PE X (.Call (.Attribute o name apos) es [] cpos) (rE X (wpE F E (.meth b c cs))) := by
  refine ⟨fun pins s σ H Q I h => ?_⟩
  obtain ⟨ρ, env, hp0, hr, he, h⟩ := h
  unfold wpE at h
  refine PySem.wpAny_Call_method_late (base_of hb) ?_ hl rfl (L2.thn (ho.run pins s σ H (fun x H1 => ∃ ρ1 h1 d, HRX X ρ1 h1 H1 ∧ EnvR X.K ρ1 H1 env σ ∧ RV X.K ρ1 H1 d x ∧ recvOK b d h1 = true ∧ wpEs F E cs env h1 (fun ds h2 => ws (bltS b (d :: ds) h2) fun r => PVX X ρ1 H1 Q r.1 r.2)) I
    ⟨ρ, env, hp0, hr, he, wpE_mono hF c E env hp0 _ _ h fun d h1 q ρ1 H1 v p1 t1 hr1 rv1 => ⟨ρ1, h1, d, hr1, he.mono p1 t1, rv1, q.1, wpEs_mono hF cs E env h1 _ _ q.2 fun ds h2 q => ws_mono q fun r q => PV.weak p1 t1 q⟩⟩) ?_)
  · rw [all_plain hp]
    show (true && true && decide (es.length + 0 + 0 < 30)) = true
    simp [hn]
  · intro v s1 ⟨x, H1, I1, r1, ρ1, h1, d, hr1, he1, rd, ok, q⟩
    obtain ⟨ty1, ty2⟩ := recv_ty I1 hr1 rd r1 ok
    rw [← hT] at ty1
    have hA := ha.run cpos pins s1 σ H1 (fun vs H2 => liftM X b x vs H2 Q) I1 ⟨ρ1, env, h1, hr1, he1, wpEs_mono hF cs E env h1 _ _ q fun ds h2 q ρ2 H2 vs p2 t2 hr2 rv2 => by
      obtain ⟨r, e, q⟩ := ws_iff.mp q
      exact ⟨ρ2, h2, d :: ds, r, hr2, .cons (rd.mono p2 t2) rv2, e, PV.weak p2 t2 q⟩⟩
    refine ⟨T, id, pa, slot, hty, ty1, ty2, ?_⟩
    refine PySem.Calls.callWith_builtin (any_plain hp) ?_
    cases es with
    | nil =>
      refine PySem.evalArgs_none ?_
      obtain rfl := hz rfl
      unfold wpEs at q
      obtain ⟨r, e, q⟩ := ws_iff.mp q
      exact hm pins s1 σ H1 x [] v [] Q I1 r1 .nil ⟨ρ1, h1, [d], r, hr1, .cons rd .nil, e, q⟩
    | cons e es =>
      rw [List.all_cons, Bool.and_eq_true] at hp
      rw [star_plain hp.1] at hA ⊢
      exact PySem.Calls.evalArgs_plain (L2.thn hA fun us s2 ⟨vs, H2, I2, r2, q2⟩ => hm pins s2 σ H2 x vs v us Q I2 r1 r2 q2)
end
end M

end
section
set_option Elab.async false
set_option linter.all false
set_option autoImplicit false
set_option maxRecDepth 100000
set_option maxHeartbeats 4000000
/-! dict(..) of a list of pairs, leaf keys -/
namespace M
open PySem (Addr Obj Value Str PyData Heap NestedKey Expr)
section
variable {X : L2.Cx} {K : PySem.W.Frag} {ρ : List Addr} {H : LHp}
theorem keyIn_leaf {kvs : List (D × D)} {k : D} (h : keyIn kvs k = true) (ht : isTup k = false) : ∃ kk, leafKey k = some kk := by
  unfold keyIn at h
  have := (Bool.and_eq_true_iff.mp h).1
  cases k <;> first | exact ⟨_, rfl⟩ | exact Bool.noConfusion this | exact Bool.noConfusion ht
theorem leaf_rvK {k : D} {kk : L2.Key} {kv : LV} (h : leafKey k = some kk) (r : RV K ρ H k kv) : kv = L2.kV kk := by
  cases k <;> simp only [leafKey] at h <;> first | (cases h; done) | skip
  · cases h; exact r.int_inv
  · cases h; exact r.str_inv.1
/-- the pairs of a list, in the layer's words -/
theorem pairs_inv : ∀ {ds : List D} {prs : List (D × D)} {vs : List LV}, pairsOf ds = some prs → RVs K ρ H ds vs → (∀ p ∈ prs, ∃ kk, leafKey p.1 = some kk) →
    ∃ (as : List Addr) (kvs : List (L2.Key × LV)), vs = as.map L2.V.ref ∧ PySem.Paired (fun p kv => L2.SqT K H p [L2.kV kv.1, kv.2]) as kvs ∧ LK K ρ H prs kvs
  | [], prs, vs, h, r, _ => by
    cases h
    cases r
    exact ⟨[], [], rfl, .nil, .nil⟩
  | .tup [k, v] :: ds, prs, vs, h, r, hl => by
    simp only [pairsOf, Option.map_eq_some_iff] at h
    obtain ⟨prs', h1, rfl⟩ := h
    cases r with
    | cons r1 r2 =>
      obtain ⟨as, kvs, rfl, q1, q2⟩ := pairs_inv h1 r2 fun p hp => hl p (List.mem_cons_of_mem _ hp)
      obtain ⟨a, xs, rfl, sq, rx⟩ := r1.tup_inv
      obtain ⟨x, y, rfl, rk, rv⟩ := rx.two_inv
      obtain ⟨kk, hk⟩ := hl (k, v) List.mem_cons_self
      obtain rfl := leaf_rvK hk rk
      exact ⟨a :: as, (kk, y) :: kvs, rfl, .cons sq q1, .cons hk rk rv q2⟩
  | .tup [] :: _, _, _, h, _, _ => by simp [pairsOf] at h
  | .tup [_] :: _, _, _, h, _, _ => by simp [pairsOf] at h
  | .tup (_ :: _ :: _ :: _) :: _, _, _, h, _, _ => by simp [pairsOf] at h
  | .non :: _, _, _, h, _, _ => by simp [pairsOf] at h
  | .bl _ :: _, _, _, h, _, _ => by simp [pairsOf] at h
  | .int _ :: _, _, _, h, _, _ => by simp [pairsOf] at h
  | .str _ :: _, _, _, h, _, _ => by simp [pairsOf] at h
  | .lst _ :: _, _, _, h, _, _ => by simp [pairsOf] at h
  | .ref _ :: _, _, _, h, _, _ => by simp [pairsOf] at h
theorem merge_inv : ∀ {prs kvs kvs2 : List (D × D)} {ps kvs' : List (L2.Key × LV)}, mergeK kvs prs = some kvs2 → LK K ρ H prs ps → LK K ρ H kvs kvs' → LK K ρ H kvs2 (L2.mergeK kvs' ps) ∧ kvs2.length ≤ kvs.length + prs.length
  | [], kvs, kvs2, ps, kvs', h, r, q => by
    simp only [mergeK] at h
    cases h
    cases r
    exact ⟨q, by simp⟩
  | (k, v) :: prs, kvs, kvs2, ps, kvs', h, r, q => by
    simp only [mergeK] at h
    split at h
    · cases r with
      | cons hk rk rv r2 =>
        obtain ⟨a, b⟩ := merge_inv h r2 (q.put hk rk rv)
        refine ⟨a, ?_⟩
        have := dput_length kvs k v
        rw [List.length_cons]
        omega
    · cases h
theorem call_dictM (hcalm : X.calm = true) : L2.CallR X (.type "dict") (liftA X (bltS .dict)) := by
  refine CallR.imp (L2.call_dictP hcalm) fun vs H Q h => ?_
  obtain ⟨ρ, hp, ds, r, hr, rv, e, q⟩ := h
  rcases ds with _ | ⟨d, _ | ⟨d2, ds⟩⟩ <;> try (simp [bltS] at e; done)
  simp only [bltS, Option.bind_eq_some_iff] at e
  obtain ⟨prs, ⟨xs, e1, e2⟩, e3⟩ := e
  split at e3
  case isFalse => cases e3
  rename_i hc
  obtain ⟨kvs, e4, e5⟩ := Option.bind_eq_some_iff.mp e3
  have e6 := newC_inv e5
  subst e6
  obtain ⟨v, rfl, r1⟩ := rv.one_inv
  obtain ⟨a, ys, rfl, sq, rys⟩ := lst_arg hr r1 e1
  have hleaf : ∀ p ∈ prs, ∃ kk, leafKey p.1 = some kk := fun p hp => by
    have := List.all_eq_true.mp hc.1 p hp
    unfold leafB at this
    cases hk : p.1 <;> rw [hk] at this <;> first | exact ⟨_, rfl⟩ | exact Bool.noConfusion this
  obtain ⟨as, kvs', rfl, q1, q2⟩ := pairs_inv e2 rys hleaf
  obtain ⟨m1, m2⟩ := merge_inv e4 q2 .nil
  refine ⟨a, as, kvs', rfl, sq, q1, fun p hp' => ?_⟩
  have t : TK H (L2.upd H p (.dK (L2.mergeK [] kvs'))) := TK.new hp'
  have c : CellOk X.prog X.w X.K (ρ ++ [p]) (L2.upd H p (.dK (L2.mergeK [] kvs'))) p (.dct kvs) := .inl ⟨_, L2.upd_same, m1.mono (pre_snoc _ _) t, by have := hc.2; simp at m2; omega⟩
  have hr' := hr.alloc hp' c fun _ z => nomatch z
  exact q (ρ ++ [p]) _ _ (pre_snoc _ _) t hr' (.ref (by rw [← hr.len]; simp))
end
end M

end
section
set_option Elab.async false
set_option linter.all false
set_option autoImplicit false
set_option maxRecDepth 100000
set_option maxHeartbeats 4000000
/-! x[::-1] of a tuple, at the model's level -/
namespace M
theorem fmc {α β : Type} {f g : α → Option β} : ∀ {l : List α}, (∀ x ∈ l, f x = g x) → l.filterMap f = l.filterMap g
  | [], _ => rfl
  | x :: l, h => by
    rw [List.filterMap_cons, List.filterMap_cons, h x List.mem_cons_self, fmc fun y hy => h y (List.mem_cons_of_mem _ hy)]
section
open PySem PySem.Spec PyProof.Rows HT
variable {prog : Program} {w : World} {A : Around} {E : Value → Shared → Prop} {s : Shared}
theorem places_rev (n : Nat) : Builtin.Slice.slicePlaces ((n : Int) - 1) (-1) (-1) = n := by
  unfold Builtin.Slice.slicePlaces
  rw [if_neg (by decide)]
  by_cases h : (n : Int) - 1 > -1
  · rw [if_pos h, show (- -1 : Int) = 1 from by decide, Int.ediv_one]
    omega
  · rw [if_neg h]
    omega
theorem sliceApplied_rev {sl : Addr} {vl vu vs : Value} {n : Nat} {Q : Int × Int × Nat → Shared → Prop} (hs : s.heap.IsSliceOf sl vl vu vs) (pl : IsPart vl none) (pu : IsPart vu none) (ps : IsPart vs (some (-1)))
    (h : Q ((n : Int) - 1, -1, n) s) : wpAny (model prog w) A (Builtin.Slice.sliceApplied (.ref sl) (pure (n : Int))) Q E s := by
  obtain ⟨os, hos, hcs, hds⟩ := id hs
  unfold Builtin.Slice.sliceApplied Builtin.Slice.sliceFields
  refine wpAny_bind (wpAny_bind (wpAny_field hos hds (x := vl) rfl (wpAny_bind (wpAny_field hos hds (x := vu) rfl (wpAny_bind (wpAny_field hos hds (x := vs) rfl (wpAny_pure ?_)))))))
  refine wpAny_bind (slicePart_ ps ?_)
  show wpAny _ _ (if ((-1 : Int) == 0) = true then _ else _) _ _ s
  rw [if_neg (by decide)]
  refine wpAny_bind (slicePart_ pl (wpAny_bind (slicePart_ pu (wpAny_bind (wpAny_pure ?_)))))
  show wpAny _ _ (match Builtin.Slice.sliceAdjust none none (-1) (n : Int) with | (lo, hi) => pure (lo, (-1 : Int), Builtin.Slice.slicePlaces lo hi (-1))) _ _ s
  have e : Builtin.Slice.sliceAdjust none none (-1) (n : Int) = ((n : Int) - 1, -1) := by
    unfold Builtin.Slice.sliceAdjust
    simp
  rw [e]
  show wpAny _ _ (pure (((n : Int) - 1), (-1 : Int), Builtin.Slice.slicePlaces ((n : Int) - 1) (-1) (-1))) _ _ s
  rw [places_rev]
  exact wpAny_pure h
theorem pick_rev (xs : Array Value) : ((List.range xs.size).filterMap fun (m : Nat) => xs[(((xs.size : Int) - 1) + (m : Int) * (-1)).toNat]?).toArray = xs.toList.reverse.toArray := by
  have e : ((List.range xs.size).filterMap fun (m : Nat) => xs[(((xs.size : Int) - 1) + (m : Int) * (-1)).toNat]?) = ((List.range xs.size).map fun k => xs.size - 1 - k).filterMap (xs[·]?) := by
    rw [List.filterMap_map]
    refine M.fmc fun m hm => ?_
    have := List.mem_range.mp hm
    show xs[(((xs.size : Int) - 1) + (m : Int) * (-1)).toNat]? = xs[xs.size - 1 - m]?
    congr 1
    omega
  rw [e, PySem.W.krv_range, List.filterMap_reverse, PySem.W.krv_all]
theorem getItem_tuple_rev {t sl : Addr} {items : Array Value} {vl vu vs : Value} {Q : Value → Shared → Prop} (ht : IsTup s.heap t items) (hs : s.heap.IsSliceOf sl vl vu vs) (pl : IsPart vl none) (pu : IsPart vu none) (ps : IsPart vs (some (-1)))
    (h : Q (.ref s.heap.objs.size) { s with heap := s.heap.push { cls := .type "tuple", data := .seq items.toList.reverse.toArray } })
    (hsz : items.size ≤ sizeLine) : wpAny (model prog w) A (getItem (.ref t) (.ref sl)) Q E s := by
  have htake : sizeOk (.seq items.toList.reverse.toArray) := by
    show items.toList.reverse.toArray.size ≤ sizeLine
    rw [List.size_toArray, List.length_reverse, Array.length_toList]
    exact hsz
  obtain ⟨os, hos, hcs, hds⟩ := id hs
  have hTs : s.TypeIs (.ref sl) "slice" := ⟨os, hos, hcs⟩
  unfold getItem
  try with_reducible refine wpAny_holding ?_
  first | refine wpAny_bind (wpAny_pure ?_) | skip
  refine wpAny_bind (wpAny_sequenceKey ht.typeIs (by decide) ?_)
  refine wpAny_bind (wpAny_callSpecial?_slot (name := Str.ofString "__getitem__") ht.typeIs PyProof.Rows.slot_tuple_getitem
    (wpAny_call_entry PyProof.Rows.slot_tuple_getitem ht.typeIs entry_tuple_getitem ?_ (args_tuple_getitem _ _)))
  show wpAny _ _ (Builtin.Tuple.tupleItemsOf (.ref t) >>= _) _ _ s
  refine wpAny_bind (tupleItemsOf_ ht ?_)
  refine wpAny_bind (wpAny_typeOf hTs ?_)
  rw [if_pos (by decide)]
  refine wpAny_bind (sliceApplied_rev hs pl pu ps ?_)
  have hno : ¬ ((((items.size : Int) - 1) == 0 && (-1 : Int) == 1 && items.size == items.size) = true) := by
    intro q
    rw [Bool.and_eq_true, Bool.and_eq_true] at q
    exact absurd q.1.2 (by decide)
  show wpAny _ _ (if (((items.size : Int) - 1) == 0 && (-1 : Int) == 1 && items.size == items.size) = true then _ else _) _ _ s
  rw [if_neg hno, pick_rev]
  first
    | exact wpAny_bind (m := Builtin.Tuple.tupleExact _) (wpAny_newObj_type (wpAny_pure ⟨_, rfl, wpAny_pure h⟩) htake)
    | exact wpAny_bind (m := Builtin.Tuple.tupleExact _) (wpAny_newObj_type (wpAny_bind (wpAny_pure (wpAny_pure ⟨_, rfl, wpAny_pure h⟩))) htake)
    | exact wpAny_bind (wpAny_bind (m := Builtin.Tuple.tupleExact _) (wpAny_newObj_type (wpAny_pure (wpAny_pure ⟨_, rfl, wpAny_pure h⟩)) htake))
    | exact wpAny_bind (wpAny_bind (m := Builtin.Tuple.tupleExact _) (wpAny_newObj_type (wpAny_pure ⟨_, rfl, wpAny_pure h⟩) htake))
end
end M

end
section
set_option Elab.async false
set_option linter.all false
set_option autoImplicit false
set_option maxRecDepth 100000
set_option maxHeartbeats 4000000
/-! expressions -/
namespace M
open PySem (Addr Obj Value Str PyData Heap NestedKey Expr)
abbrev WA (X : L2.Cx) {α : Type} (t : PySem.Sem α) (Q : α → PySem.Shared → Prop) (s : PySem.Shared) : Prop := PySem.wpAny (PySem.model X.prog X.w) X.A t Q X.xe s
structure Now (X : L2.Cx) (pins : List (Addr × Obj)) (σ : L2.St) (env : Env) (ρ : List Addr) (hp : Hm) (H : LHp) (s : PySem.Shared) : Prop where
  I : L2.Inv X pins σ H s
  hr : HRX X ρ hp H
  he : EnvR X.K ρ H env σ
section
variable {X : L2.Cx} {F : FnS} (hF : FMono F) {E : XP} {pins : List (Addr × Obj)} {σ : L2.St} {env : Env} {ρ : List Addr} {hp : Hm} {H : LHp} {s : PySem.Shared}
/-- an expression's meaning as a reading -/
abbrev RE (X : L2.Cx) (F : FnS) (E : XP) (c : CE) : L2.TE := rE X (wpE F E c)
abbrev RT (X : L2.Cx) (F : FnS) (E : XP) (c : CE) : L2.TT := rdT X.prog X.w X.K (wpE F E c)
abbrev RA (X : L2.Cx) (F : FnS) (E : XP) (cs : List CE) : L2.TA := rA X (wpEs F E cs)
include hF
theorem ev {e : Expr} {c : CE} (h : L2.PE X e (RE X F E c)) (N : Now X pins σ env ρ hp H s) {Q' : VQ} (w : wpE F E c env hp Q') {Q : Value → PySem.Shared → Prop}
    (k : ∀ v s' d x ρ' hp' H', Now X pins σ env ρ' hp' H' s' → ρ <+: ρ' → TK H H' → RV X.K ρ' H' d x → L2.RelV x v → Q' d hp' → Q v s') : WA X (PySem.eval e X.env) Q s := by
  refine L2.thn (h.run pins s σ H (fun x H' => ∃ ρ' hp' d, ρ <+: ρ' ∧ TK H H' ∧ HRX X ρ' hp' H' ∧ RV X.K ρ' H' d x ∧ Q' d hp') N.I ⟨ρ, env, hp, N.hr, N.he, wpE_mono hF c E env hp _ _ w fun d h1 q ρ' H' v p t hr rv => ⟨ρ', h1, d, p, t, hr, rv, q⟩⟩) ?_
  intro v s' ⟨x, H', I', ru, ρ', hp', d, p, t, hr, rv, q⟩
  exact k v s' d x ρ' hp' H' ⟨I', hr, N.he.mono p t⟩ p t rv ru q
theorem evT {e : Expr} {c : CE} (h : L2.PT X e (RT X F E c)) (N : Now X pins σ env ρ hp H s) {R : Bool → Hm → Prop} (w : wpE F E c env hp fun d h1 => ws (truth h1 d) fun k => R k h1) {Q : Bool → PySem.Shared → Prop}
    (k : ∀ b s' ρ' hp' H', Now X pins σ env ρ' hp' H' s' → ρ <+: ρ' → TK H H' → R b hp' → Q b s') : WA X (PySem.isTrue e X.env (PySem.eval e X.env)) Q s := by
  refine L2.thn (h.run pins s σ H (fun b H' => ∃ ρ' hp', ρ <+: ρ' ∧ TK H H' ∧ HRX X ρ' hp' H' ∧ R b hp') N.I ⟨ρ, env, hp, N.hr, N.he, wpE_mono hF c E env hp _ _ w fun d h1 q => ws_mono q fun b q ρ' H' p t hr => ⟨ρ', h1, p, t, hr, q⟩⟩) ?_
  intro b s' ⟨H', I', ρ', hp', p, t, hr, q⟩
  exact k b s' ρ' hp' H' ⟨I', hr, N.he.mono p t⟩ p t q
theorem evA {es : List Expr} {cs : List CE} (h : L2.PA X es (RA X F E cs)) (N : Now X pins σ env ρ hp H s) {Q' : List D → Hm → Prop} (w : wpEs F E cs env hp Q') {Q : List Value → PySem.Shared → Prop} {pos : PySem.Pos}
    (k : ∀ us s' ds xs ρ' hp' H', Now X pins σ env ρ' hp' H' s' → ρ <+: ρ' → TK H H' → RVs X.K ρ' H' ds xs → L2.Vals xs us → Q' ds hp' → Q us s') : WA X (PySem.spliced (PySem.backTo pos (PySem.starEach es X.env))) Q s := by
  refine L2.thn (h.run pos pins s σ H (fun xs H' => ∃ ρ' hp' ds, ρ <+: ρ' ∧ TK H H' ∧ HRX X ρ' hp' H' ∧ RVs X.K ρ' H' ds xs ∧ Q' ds hp') N.I ⟨ρ, env, hp, N.hr, N.he, wpEs_mono hF cs E env hp _ _ w fun d h1 q ρ' H' v p t hr rv => ⟨ρ', h1, d, p, t, hr, rv, q⟩⟩) ?_
  intro v s' ⟨x, H', I', ru, ρ', hp', d, p, t, hr, rv, q⟩
  exact k v s' d x ρ' hp' H' ⟨I', hr, N.he.mono p t⟩ p t rv ru q
omit hF in
/-- a reading from its start -/
theorem peI {e : Expr} {c : CE} (h : ∀ pins s σ H Q ρ env hp, Now X pins σ env ρ hp H s → wpE F E c env hp (PVX X ρ H Q) → WA X (PySem.eval e X.env) (L2.EP X pins σ Q) s) : L2.PE X e (RE X F E c) :=
  ⟨fun pins s σ H Q I ⟨ρ, env, hp, hr, he, w⟩ => h pins s σ H Q ρ env hp ⟨I, hr, he⟩ w⟩
omit hF in
theorem ptI {e : Expr} {c : CE} (h : ∀ pins s σ H Q ρ env hp, Now X pins σ env ρ hp H s → wpE F E c env hp (PB X.prog X.w X.K ρ H Q) → WA X (PySem.isTrue e X.env (PySem.eval e X.env)) (L2.TP X pins σ Q) s) : L2.PT X e (RT X F E c) :=
  ⟨fun pins s σ H Q I ⟨ρ, env, hp, hr, he, w⟩ => h pins s σ H Q ρ env hp ⟨I, hr, he⟩ w⟩
omit hF in
theorem Now.fin {Q : L2.VK} {v : Value} {ρ' : List Addr} {hp' : Hm} {H' : LHp} {s' : PySem.Shared} {d : D} {x : LV} (N : Now X pins σ env ρ' hp' H' s') (p : ρ <+: ρ') (t : TK H H') (rv : RV X.K ρ' H' d x) (ru : L2.RelV x v) (q : PVX X ρ H Q d hp') : L2.EP X pins σ Q v s' :=
  ⟨x, H', N.I, ru, q ρ' H' x p t N.hr rv⟩
omit hF in
theorem Now.finB {Q : Bool → LHp → Prop} {ρ' : List Addr} {hp' : Hm} {H' : LHp} {s' : PySem.Shared} {b : Bool} (N : Now X pins σ env ρ' hp' H' s') (p : ρ <+: ρ') (t : TK H H') (q : ∀ (ρ' : List Addr) (H' : LHp), ρ <+: ρ' → TK H H' → HR X.prog X.w X.K ρ' hp' H' → Q b H') : L2.TP X pins σ Q b s' :=
  ⟨H', N.I, q ρ' H' p t N.hr⟩

theorem wpEs_len : ∀ (cs : List CE) (env : Env) (h : Hm) (Q : List D → Hm → Prop), wpEs F E cs env h Q → wpEs F E cs env h fun ds h1 => ds.length = cs.length ∧ Q ds h1
  | [], env, h, Q, a => by unfold wpEs at a ⊢; exact ⟨rfl, a⟩
  | c :: cs, env, h, Q, a => by
    unfold wpEs at a ⊢
    exact wpE_mono hF c E env h _ _ a fun d h1 q => wpEs_mono hF cs E env h1 _ _ (wpEs_len cs env h1 _ q) fun ds h2 q => ⟨by rw [List.length_cons, List.length_cons, q.1], q.2⟩
/-! ### displays -/
theorem pe_tupM {es : List Expr} {cs : List CE} {x1 : Nat} {pos : PySem.Pos} (h : L2.PA X es (RA X F E cs)) (hn : cs.length ≤ LIM) : L2.PE X (.Tuple es x1 pos) (RE X F E (.tup cs)) :=
  PE.imp (L2.pe_tup h) fun σ H Q ⟨ρ, env, hp, hr, he, w⟩ => by
    unfold wpE at w
    refine ⟨ρ, env, hp, hr, he, wpEs_mono hF cs E env hp _ _ (wpEs_len hF cs env hp _ w) fun ds h1 q ρ1 H1 vs p1 t1 hr1 rv1 => ⟨by rw [← rv1.length, q.1, lim_eq]; exact hn, fun p hp' => ?_⟩⟩
    exact PV.newT (PV.weak p1 t1 q.2) hr1 rv1 hp'
theorem pe_lstM {es : List Expr} {cs : List CE} {pos : PySem.Pos} (h : L2.PA X es (RA X F E cs)) (hn : cs.length ≤ LIM) : L2.PE X (.List es pos) (RE X F E (.lst cs)) :=
  PE.imp (L2.pe_lst h) fun σ H Q ⟨ρ, env, hp, hr, he, w⟩ => by
    unfold wpE at w
    refine ⟨ρ, env, hp, hr, he, wpEs_mono hF cs E env hp _ _ (wpEs_len hF cs env hp _ w) fun ds h1 q ρ1 H1 vs p1 t1 hr1 rv1 => ⟨by rw [← rv1.length, q.1, lim_eq]; exact hn, fun p hp' => ?_⟩⟩
    exact PV.newL (PV.weak p1 t1 q.2) hr1 rv1 hp'
omit hF in
theorem pe_dnewM {pos : PySem.Pos} : L2.PE X (.Dict [] [] pos) (RE X F E (.dct [])) :=
  PE.imp L2.pe_dnewK fun σ H Q ⟨ρ, env, hp, hr, he, w⟩ => by
    unfold wpE wpEs at w
    intro p hp'
    have c : CellOk X.prog X.w X.K (ρ ++ [p]) (L2.upd H p (.dK [])) p (.dct []) := .inl ⟨[], L2.upd_same, .nil, Nat.zero_le _⟩
    have hr' := hr.alloc hp' c fun _ z => nomatch z
    exact w (ρ ++ [p]) _ _ (pre_snoc _ _) (TK.new hp') hr' (.ref (by rw [← hr.len]; simp))

/-! ### operators -/
theorem pe_binM {a b : Expr} {ca cb : CE} {op : PySem.Operator} {o : Bop} {pos : PySem.Pos} (ho : L2.OpR X (PySem.binaryOp op) (liftR X (binS o))) (ha : L2.PE X a (RE X F E ca)) (hb : L2.PE X b (RE X F E cb)) : L2.PE X (.BinOp a op b pos) (RE X F E (.bin o ca cb)) :=
  PE.imp (L2.pe_op ho ha hb) fun σ H Q h => rd_bin hF (S := binS o) (by
    obtain ⟨ρ, env, hp, hr, he, w⟩ := h
    unfold wpE at w
    exact ⟨ρ, env, hp, hr, he, w⟩)
theorem pe_negM {a : Expr} {ca : CE} {pos : PySem.Pos} (ha : L2.PE X a (RE X F E ca)) : L2.PE X (.UnaryOp .USub a pos) (RE X F E (.neg ca)) :=
  PE.imp (L2.pe_un L2.un_neg ha) fun σ H Q ⟨ρ, env, hp, hr, he, w⟩ => by
    unfold wpE at w
    refine ⟨ρ, env, hp, hr, he, wpE_mono hF ca E env hp _ _ w fun d h1 q ρ1 H1 v p1 t1 hr1 rv1 => ?_⟩
    cases d <;> first | exact False.elim q | skip
    obtain rfl := rv1.int_inv
    exact ⟨_, rfl, q ρ1 H1 _ p1 t1 hr1 (.int _)⟩
theorem pe_notM {a : Expr} {ca : CE} {pos : PySem.Pos} (ha : L2.PE X a (RE X F E ca)) : L2.PE X (.UnaryOp .Not a pos) (RE X F E (.not ca)) := peI fun pins s σ H Q ρ env hp N w => by
  unfold wpE at w
  refine PyProof.Rows.UnaryOp_ (ev hF ha N w fun v s1 d x ρ1 hp1 H1 N1 p1 t1 rv ru q => ?_)
  obtain ⟨k, e, q⟩ := ws_iff.mp q
  refine PyProof.Rows.not_of (L2.thn (tru_M (Q := fun b H2 => b = k ∧ H2 = H1) N1.I N1.hr rv ru e ⟨rfl, rfl⟩) fun b s2 ⟨H2, I2, e1, e2⟩ => ?_)
  subst e1 e2
  exact ⟨.bl (!b), H2, I2, rfl, q ρ1 H2 _ p1 t1 N1.hr (.bl _)⟩
theorem pe_andM {a b : Expr} {rest : List Expr} {ca cb : CE} {pos : PySem.Pos} (ha : L2.PE X a (RE X F E ca)) (hb : L2.PE X (.BoolOp .And (b :: rest) pos) (RE X F E cb)) : L2.PE X (.BoolOp .And (a :: b :: rest) pos) (RE X F E (.and ca cb)) := peI fun pins s σ H Q ρ env hp N w => by
  unfold wpE at w
  refine PyProof.Rows.BoolOp_and (ev hF ha N w fun v s1 d x ρ1 hp1 H1 N1 p1 t1 rv ru q => ?_)
  obtain ⟨k, e, q⟩ := ws_iff.mp q
  refine L2.thn (tru_M (Q := fun b H2 => b = k ∧ H2 = H1) N1.I N1.hr rv ru e ⟨rfl, rfl⟩) fun b s2 ⟨H2, I2, e1, e2⟩ => ?_
  subst e1 e2
  cases b with
  | true => exact hb.run pins s2 σ H2 Q I2 ⟨ρ1, env, hp1, N1.hr, N1.he, wpE_mono hF cb E env hp1 _ _ q fun d h q => PV.weak p1 t1 q⟩
  | false => exact ⟨x, H2, I2, ru, q ρ1 H2 x p1 t1 N1.hr rv⟩
theorem pe_orM {a b : Expr} {rest : List Expr} {ca cb : CE} {pos : PySem.Pos} (ha : L2.PE X a (RE X F E ca)) (hb : L2.PE X (.BoolOp .Or (b :: rest) pos) (RE X F E cb)) : L2.PE X (.BoolOp .Or (a :: b :: rest) pos) (RE X F E (.or ca cb)) := peI fun pins s σ H Q ρ env hp N w => by
  unfold wpE at w
  refine PyProof.Rows.BoolOp_or (ev hF ha N w fun v s1 d x ρ1 hp1 H1 N1 p1 t1 rv ru q => ?_)
  obtain ⟨k, e, q⟩ := ws_iff.mp q
  refine L2.thn (tru_M (Q := fun b H2 => b = k ∧ H2 = H1) N1.I N1.hr rv ru e ⟨rfl, rfl⟩) fun b s2 ⟨H2, I2, e1, e2⟩ => ?_
  subst e1 e2
  cases b with
  | false => exact hb.run pins s2 σ H2 Q I2 ⟨ρ1, env, hp1, N1.hr, N1.he, wpE_mono hF cb E env hp1 _ _ q fun d h q => PV.weak p1 t1 q⟩
  | true => exact ⟨x, H2, I2, ru, q ρ1 H2 x p1 t1 N1.hr rv⟩
theorem pe_ifM {c a b : Expr} {cc ca cb : CE} {pos : PySem.Pos} (hc : L2.PT X c (RT X F E cc)) (ha : L2.PE X a (RE X F E ca)) (hb : L2.PE X b (RE X F E cb)) : L2.PE X (.IfExp c a b pos) (RE X F E (.ife cc ca cb)) := peI fun pins s σ H Q ρ env hp N w => by
  unfold wpE at w
  refine PySem.wpAny_IfExp (evT hF hc N (R := fun k h1 => if k = true then wpE F E ca env h1 (PVX X ρ H Q) else wpE F E cb env h1 (PVX X ρ H Q)) w fun k s1 ρ1 hp1 H1 N1 p1 t1 q => ?_)
  cases k with
  | true => exact ha.run pins s1 σ H1 Q N1.I ⟨ρ1, env, hp1, N1.hr, N1.he, wpE_mono hF ca E env hp1 _ _ q fun d h q => PV.weak p1 t1 q⟩
  | false => exact hb.run pins s1 σ H1 Q N1.I ⟨ρ1, env, hp1, N1.hr, N1.he, wpE_mono hF cb E env hp1 _ _ q fun d h q => PV.weak p1 t1 q⟩
end
end M

end
section
set_option Elab.async false
set_option linter.all false
set_option autoImplicit false
set_option maxRecDepth 100000
set_option maxHeartbeats 4000000
/-! comparisons, tests, indexing, slices, calls of built-ins -/
namespace M
open PySem (Addr Obj Value Str PyData Heap NestedKey Expr)
section
variable {X : L2.Cx} {F : FnS} (hF : FMono F) {E : XP}
include hF
/-! ### comparisons -/
theorem pe_cmpM {a b : Expr} {ca cb : CE} {op : PySem.CmpOp} {o : Cop} {pos : PySem.Pos} (ho : L2.OpR X (PySem.compareOp op) (liftC X fun x y h => cmpS o x y h)) (hm : PySem.behindInMarks op b = false) (ha : L2.PE X a (RE X F E ca)) (hb : L2.PE X b (RE X F E cb)) : L2.PE X (.Compare a [op] [b] pos) (RE X F E (.cmp o ca cb)) :=
  PE.imp (L2.pe_cmpR ho ha hb hm) fun σ H Q h => rd_bin hF (S := fun x y h => (cmpS o x y h).map fun k => (.bl k, h)) (by
    obtain ⟨ρ, env, hp, hr, he, w⟩ := h
    unfold wpE at w
    refine ⟨ρ, env, hp, hr, he, wpE_mono hF ca E env hp _ _ w fun x h1 q => wpE_mono hF cb E env h1 _ _ q fun y h2 q => ?_⟩
    obtain ⟨k, e, q⟩ := ws_iff.mp q
    rw [e]
    exact q)
/-- a value that is a bool, as a test -/
theorem pt_of_bl {a b : Expr} {c : CE} {t : L2.TE} {e : Expr} (hp : L2.PT X e (L2.tTest t)) (h : ∀ σ H Q, RE X F E c σ H Q → t σ H Q) (hb : ∀ env hp Q, wpE F E c env hp Q → wpE F E c env hp fun d h1 => (∃ k, d = .bl k) ∧ Q d h1) : L2.PT X e (RT X F E c) :=
  PT.imp hp fun σ H Q ⟨ρ, env, hp, hr, he, w⟩ => h σ H _ ⟨ρ, env, hp, hr, he, wpE_mono hF c E env hp _ _ (hb env hp _ w) fun d h1 ⟨⟨k, e⟩, q⟩ ρ1 H1 v p1 t1 hr1 rv => by
    subst e
    cases rv
    exact ⟨k, rfl, q ρ1 H1 p1 t1 hr1⟩⟩
theorem pt_cmpM {a b : Expr} {ca cb : CE} {op : PySem.CmpOp} {o : Cop} {pos : PySem.Pos} (ho : L2.OpR X (PySem.compareOp op) (liftC X fun x y h => cmpS o x y h)) (hm : PySem.behindInMarks op b = false) (ha : L2.PE X a (RE X F E ca)) (hb : L2.PE X b (RE X F E cb)) : L2.PT X (.Compare a [op] [b] pos) (RT X F E (.cmp o ca cb)) :=
  pt_of_bl hF (a := a) (b := b) (L2.pt_cmpR ho ha hb hm) (fun σ H Q h => rd_bin hF (S := fun x y h => (cmpS o x y h).map fun k => (.bl k, h)) (by
    obtain ⟨ρ, env, hp, hr, he, w⟩ := h
    unfold wpE at w
    refine ⟨ρ, env, hp, hr, he, wpE_mono hF ca E env hp _ _ w fun x h1 q => wpE_mono hF cb E env h1 _ _ q fun y h2 q => ?_⟩
    obtain ⟨k, e, q⟩ := ws_iff.mp q
    rw [e]
    exact q)) fun env hp Q w => by
      unfold wpE at w ⊢
      exact wpE_mono hF ca E env hp _ _ w fun x h1 q => wpE_mono hF cb E env h1 _ _ q fun y h2 q => ws_mono q fun k q => ⟨⟨k, rfl⟩, q⟩
/-! ### chains -/
theorem rd_chain {o o' : Cop} {ca cb cc : CE} {σ : L2.St} {H : LHp} {Q : L2.VK} (h : RE X F E (.chn o o' ca cb cc) σ H Q) :
    L2.tChain (liftC X fun x y h => cmpS o x y h) (liftC X fun x y h => cmpS o' x y h) (RE X F E ca) (RE X F E cb) (RE X F E cc) σ H Q := by
  obtain ⟨ρ, env, hp, hr, he, w⟩ := h
  unfold wpE at w
  refine ⟨ρ, env, hp, hr, he, wpE_mono hF ca E env hp _ _ w fun x h1 q ρ1 H1 v p1 t1 hr1 rv1 => ?_⟩
  refine ⟨ρ1, env, h1, hr1, he.mono p1 t1, wpE_mono hF cb E env h1 _ _ q fun y h2 q ρ2 H2 u p2 t2 hr2 rv2 => ?_⟩
  obtain ⟨k, e, q⟩ := ws_iff.mp q
  refine ⟨ρ2, h2, x, y, (.bl k, h2), hr2, rv1.mono p2 t2, rv2, by show Option.map _ (cmpS o x y h2) = _; rw [e]; rfl, fun ρ3 H3 z p3 t3 hr3 rv3 => ?_⟩
  cases rv3
  refine ⟨k, rfl, ?_⟩
  cases k with
  | false => exact q ρ3 H3 _ (p1.trans (p2.trans p3)) (t1.trans (t2.trans t3)) hr3 (.bl _)
  | true =>
    refine ⟨ρ3, env, h2, hr3, he.mono (p1.trans (p2.trans p3)) (t1.trans (t2.trans t3)), wpE_mono hF cc E env h2 _ _ q fun z h3 q ρ4 H4 v4 p4 t4 hr4 rv4 => ?_⟩
    obtain ⟨k', e', q⟩ := ws_iff.mp q
    exact ⟨ρ4, h3, y, z, (.bl k', h3), hr4, rv2.mono (p3.trans p4) (t3.trans t4), rv4, by show Option.map _ (cmpS o' y z h3) = _; rw [e']; rfl, PV.weak (p1.trans (p2.trans (p3.trans p4))) (t1.trans (t2.trans (t3.trans t4))) q⟩
theorem pe_chnM {a b c : Expr} {ca cb cc : CE} {op op' : PySem.CmpOp} {o o' : Cop} {pos : PySem.Pos} (ho : L2.OpR X (PySem.compareOp op) (liftC X fun x y h => cmpS o x y h)) (ho' : L2.OpR X (PySem.compareOp op') (liftC X fun x y h => cmpS o' x y h)) (hm : PySem.lastMarks [op, op'] [b, c] = false)
    (ha : L2.PE X a (RE X F E ca)) (hb : L2.PE X b (RE X F E cb)) (hc : L2.PE X c (RE X F E cc)) : L2.PE X (.Compare a [op, op'] [b, c] pos) (RE X F E (.chn o o' ca cb cc)) :=
  PE.imp (L2.pe_chain ho ho' ha hb hc hm) fun σ H Q h => rd_chain hF h
theorem pt_chnM {a b c : Expr} {ca cb cc : CE} {op op' : PySem.CmpOp} {o o' : Cop} {pos : PySem.Pos} (ho : L2.OpR X (PySem.compareOp op) (liftC X fun x y h => cmpS o x y h)) (ho' : L2.OpR X (PySem.compareOp op') (liftC X fun x y h => cmpS o' x y h)) (hm : PySem.lastMarks [op, op'] [b, c] = false)
    (ha : L2.PE X a (RE X F E ca)) (hb : L2.PE X b (RE X F E cb)) (hc : L2.PE X c (RE X F E cc)) : L2.PT X (.Compare a [op, op'] [b, c] pos) (RT X F E (.chn o o' ca cb cc)) :=
  pt_of_bl hF (a := a) (b := b) (L2.pt_chain ho ho' ha hb hc hm) (fun σ H Q h => rd_chain hF h) fun env hp Q w => by
    unfold wpE at w ⊢
    exact wpE_mono hF ca E env hp _ _ w fun x h1 q => wpE_mono hF cb E env h1 _ _ q fun y h2 q => ws_mono q fun k q => by
      cases k with
      | false => exact ⟨⟨false, rfl⟩, q⟩
      | true => exact wpE_mono hF cc E env h2 _ _ q fun z h3 q => ws_mono q fun k' q => ⟨⟨k', rfl⟩, q⟩
/-! ### tests -/
theorem pt_valM {e : Expr} {c : CE} (h : L2.PE X e (RE X F E c)) (he : ∀ whole, PySem.isTrue e X.env whole = (do let v ← whole; PySem.standAt e.pos; PySem.holding [v] (PySem.truthy v))) : L2.PT X e (RT X F E c) := ptI fun pins s σ H Q ρ env hp N w => by
  refine PyProof.Rows.isTrue_plain (ev hF h N w fun v s1 d x ρ1 hp1 H1 N1 p1 t1 rv ru q => ?_) (he _)
  obtain ⟨k, e, q⟩ := ws_iff.mp q
  exact tru_M N1.I N1.hr rv ru e (q ρ1 H1 p1 t1 N1.hr)
theorem pt_notM {a : Expr} {ca : CE} {pos : PySem.Pos} (ha : L2.PT X a (RT X F E ca)) : L2.PT X (.UnaryOp .Not a pos) (RT X F E (.not ca)) :=
  PT.imp (L2.pt_not ha) fun σ H Q ⟨ρ, env, hp, hr, he, w⟩ => by
    unfold wpE at w
    exact ⟨ρ, env, hp, hr, he, wpE_mono hF ca E env hp _ _ w fun d h1 q => ws_mono q fun k q => q⟩
theorem pt_ifM {c a b : Expr} {cc ca cb : CE} {pos : PySem.Pos} (hc : L2.PT X c (RT X F E cc)) (ha : L2.PT X a (RT X F E ca)) (hb : L2.PT X b (RT X F E cb)) : L2.PT X (.IfExp c a b pos) (RT X F E (.ife cc ca cb)) := ptI fun pins s σ H Q ρ env hp N w => by
  unfold wpE at w
  show PySem.wpAny _ _ (do if ← PySem.isTrue c X.env (PySem.eval c X.env) then PySem.isTrue a X.env (PySem.eval a X.env) else PySem.isTrue b X.env (PySem.eval b X.env)) _ _ s
  refine PySem.wpAny_bind (evT hF hc N (R := fun k h1 => if k = true then wpE F E ca env h1 (PB X.prog X.w X.K ρ H Q) else wpE F E cb env h1 (PB X.prog X.w X.K ρ H Q)) w fun k s1 ρ1 hp1 H1 N1 p1 t1 q => ?_)
  have weak : ∀ d h, PB X.prog X.w X.K ρ H Q d h → PB X.prog X.w X.K ρ1 H1 Q d h := fun d h q => ws_mono q fun b q ρ2 H2 p2 t2 hr2 => q ρ2 H2 (p1.trans p2) (t1.trans t2) hr2
  cases k with
  | true => exact ha.run pins s1 σ H1 Q N1.I ⟨ρ1, env, hp1, N1.hr, N1.he, wpE_mono hF ca E env hp1 _ _ q weak⟩
  | false => exact hb.run pins s1 σ H1 Q N1.I ⟨ρ1, env, hp1, N1.hr, N1.he, wpE_mono hF cb E env hp1 _ _ q weak⟩
abbrev PWM (X : L2.Cx) (F : FnS) (E : XP) (e : Expr) (c : CE) : Prop := L2.PW X e (RT X F E c)
omit hF in
theorem PW.imp {e : Expr} {t t' : L2.TT} (h : L2.PW X e t) (k : ∀ σ H Q, t' σ H Q → t σ H Q) : L2.PW X e t' := ⟨fun wh pins s σ H Q I q => h.run wh pins s σ H Q I (k σ H Q q)⟩
theorem pw_andM {a b : Expr} {rest : List Expr} {ca cb : CE} {pos : PySem.Pos} (ha : L2.PT X a (RT X F E ca)) (hb : PWM X F E (.BoolOp .And (b :: rest) pos) cb) : PWM X F E (.BoolOp .And (a :: b :: rest) pos) (.and ca cb) :=
  PW.imp (L2.pw_and ha hb) fun σ H Q ⟨ρ, env, hp, hr, he, w⟩ => by
    unfold wpE at w
    refine ⟨ρ, env, hp, hr, he, wpE_mono hF ca E env hp _ _ w fun d h1 q => ?_⟩
    obtain ⟨k, e, q⟩ := ws_iff.mp q
    unfold PB
    rw [e]
    intro ρ1 H1 p1 t1 hr1
    cases k with
    | true => exact ⟨ρ1, env, h1, hr1, he.mono p1 t1, wpE_mono hF cb E env h1 _ _ q fun d h2 q => ws_mono q fun b q ρ2 H2 p2 t2 hr2 => q ρ2 H2 (p1.trans p2) (t1.trans t2) hr2⟩
    | false =>
      simp only [Bool.false_eq_true, if_false] at q
      unfold PB at q
      rw [e] at q
      exact q ρ1 H1 p1 t1 hr1
theorem pw_orM {a b : Expr} {rest : List Expr} {ca cb : CE} {pos : PySem.Pos} (ha : L2.PT X a (RT X F E ca)) (hb : PWM X F E (.BoolOp .Or (b :: rest) pos) cb) : PWM X F E (.BoolOp .Or (a :: b :: rest) pos) (.or ca cb) :=
  PW.imp (L2.pw_or ha hb) fun σ H Q ⟨ρ, env, hp, hr, he, w⟩ => by
    unfold wpE at w
    refine ⟨ρ, env, hp, hr, he, wpE_mono hF ca E env hp _ _ w fun d h1 q => ?_⟩
    obtain ⟨k, e, q⟩ := ws_iff.mp q
    unfold PB
    rw [e]
    intro ρ1 H1 p1 t1 hr1
    cases k with
    | false => exact ⟨ρ1, env, h1, hr1, he.mono p1 t1, wpE_mono hF cb E env h1 _ _ q fun d h2 q => ws_mono q fun b q ρ2 H2 p2 t2 hr2 => q ρ2 H2 (p1.trans p2) (t1.trans t2) hr2⟩
    | true =>
      simp only [if_true] at q
      unfold PB at q
      rw [e] at q
      exact q ρ1 H1 p1 t1 hr1
omit hF in
theorem pw_and1M {a : Expr} {ca : CE} {pos : PySem.Pos} (ha : L2.PT X a (RT X F E ca)) : PWM X F E (.BoolOp .And [a] pos) ca := L2.pw_and1 ha
omit hF in
theorem pw_or1M {a : Expr} {ca : CE} {pos : PySem.Pos} (ha : L2.PT X a (RT X F E ca)) : PWM X F E (.BoolOp .Or [a] pos) ca := L2.pw_or1 ha

/-! ### indexing -/
theorem pe_idxM (hu : X.A.units + 80 < PySem.cLine) {a b : Expr} {ca cb : CE} {pos : PySem.Pos} (hs : L2.PlainIx b) (ha : L2.PE X a (RE X F E ca)) (hb : L2.PE X b (RE X F E cb)) : L2.PE X (.Subscript a b pos) (RE X F E (.idx ca cb)) :=
  PE.imp (L2.pe_ix (ix_M hu) ha hb hs) fun σ H Q h => rd_idx hF (S := fun x y h => idxS x y h) (by
    obtain ⟨ρ, env, hp, hr, he, w⟩ := h
    unfold wpE at w
    exact ⟨ρ, env, hp, hr, he, w⟩)
/-- a slice's bound -/
abbrev TPo : Type := Option Expr
def PoM (X : L2.Cx) (F : FnS) (E : XP) (e : Option Expr) (c : CE) : Prop :=
  (e = none ∧ c = .lit .non) ∨ ∃ x, e = some x ∧ L2.PE X x (RE X F E c)
theorem evPo {e : Option Expr} {c : CE} (h : PoM X F E e c) {pins : List (Addr × Obj)} {σ : L2.St} {env : Env} {ρ : List Addr} {hp : Hm} {H : LHp} {s : PySem.Shared} (N : Now X pins σ env ρ hp H s) {Q' : Option Int → Hm → Prop} (w : wpE F E c env hp fun d h1 => ws (optI d) fun o => Q' o h1) {Q : Value → PySem.Shared → Prop}
    (k : ∀ v s' o ρ' hp' H', Now X pins σ env ρ' hp' H' s' → ρ <+: ρ' → TK H H' → PySem.IsPart v o → Q' o hp' → Q v s') : WA X (PySem.evalPart e X.env) Q s := by
  rcases h with ⟨rfl, rfl⟩ | ⟨x, rfl, h⟩
  · rw [PySem.evalPart_none]
    unfold wpE at w
    exact PySem.wpAny_pure (k _ s none ρ hp H N (List.prefix_refl _) (TK.refl _) .none w)
  · rw [PySem.evalPart_some]
    refine ev hF h N w fun v s1 d x ρ1 hp1 H1 N1 p1 t1 rv ru q => ?_
    obtain ⟨o, e, q⟩ := ws_iff.mp q
    cases d <;> simp only [optI] at e <;> first | (cases e; done) | skip
    · cases e
      cases rv
      cases ru
      exact k _ s1 none ρ1 hp1 H1 N1 p1 t1 .none q
    · cases e
      obtain rfl := rv.int_inv
      obtain ⟨t, rfl⟩ := ru
      exact k _ s1 _ ρ1 hp1 H1 N1 p1 t1 (.int _ t) q
theorem pe_slcM {a : Expr} {lo hi : Option Expr} {ca cl ch : CE} {p2 pos : PySem.Pos} (ha : L2.PE X a (RE X F E ca)) (hl : PoM X F E lo cl) (hh : PoM X F E hi ch) : L2.PE X (.Subscript a (.Slice lo hi none p2) pos) (RE X F E (.slc ca cl ch)) := peI fun pins s σ H Q ρ env hp N w => by
  unfold wpE at w
  refine PyProof.Rows.Subscript_ (ev hF ha N w fun v s1 d x ρ1 hp1 H1 N1 p1 t1 rv ru q => ?_)
  refine PySem.wpAny_Slice (evPo hF hl N1 (Q' := fun o h2 => wpE F E ch env h2 fun z h3 => ws (optI z) fun o' => ws (slcS d o o' h3) fun r => PVX X ρ H Q r.1 r.2) q fun vl s2 o ρ2 hp2 H2 N2 p2' t2 pl q2 => ?_)
  refine evPo hF hh N2 (Q' := fun o' h3 => ws (slcS d o o' h3) fun r => PVX X ρ H Q r.1 r.2) q2 fun vu s3 o' ρ3 hp3 H3 N3 p3 t3 pu q3 => ?_
  rw [PySem.evalPart_none]
  refine PySem.wpAny_pure ?_
  have I4 : L2.Inv X pins σ H3 { s3 with heap := s3.heap.push { cls := .type "slice", data := .fields #[vl, vu, .none] } } := N3.I.kept (t' := s3.toks) fun b ob q => PySem.Heap.get?_push_of_some _ q
  obtain ⟨r, e, q⟩ := ws_iff.mp q3
  obtain ⟨T, id, hT, ht, hg⟩ := sl_M pins { s3 with heap := s3.heap.push { cls := .type "slice", data := .fields #[vl, vu, .none] } } σ H3 x v vl vu o o' s3.heap.objs.size Q I4 ru (PySem.Heap.IsSliceOf.new ..) pl pu
    ⟨ρ3, hp3, d, r, N3.hr, rv.mono (p2'.trans p3) (t2.trans t3), by cases d <;> exact e, PV.weak (p1.trans (p2'.trans p3)) (t1.trans (t2.trans t3)) q⟩
  show PySem.wpAny (PySem.model X.prog X.w) X.A (PyProof.Rows.subscriptTail a (.Slice lo hi none p2) v (.ref s3.heap.objs.size)) (L2.EP X pins σ Q) X.xe { s3 with heap := s3.heap.push { cls := .type "slice", data := .fields #[vl, vu, .none] } }
  exact PyProof.Rows.tail_any (ops := [.ref s3.heap.objs.size, v]) ht hT hg (by with_unfolding_all rfl)
end
end M

end
section
set_option Elab.async false
set_option linter.all false
set_option autoImplicit false
set_option maxRecDepth 100000
set_option maxHeartbeats 4000000
/-! calls of built-ins, is -/
namespace M
open PySem (Addr Obj Value Str PyData Heap NestedKey Expr)
section
variable {X : L2.Cx} {F : FnS} (hF : FMono F) {E : XP}
include hF
/-- a built-in function, a built-in type -/
theorem pe_bltM {x : Str} {u : Value} {b : Blt} {e : Expr} {es : List Expr} {cs : List CE} {p pos : PySem.Pos} (hu : (∃ id, u = .builtin id) ∨ ∃ T, u = .type T) (hc : L2.CallR X u (liftA X (bltS b))) (hg : L2.Gl X x) (hm : X.mg x = none) (hv : PySem.bootBuiltins x = some u)
    (hn : x ≠ PySem.Str.ofString "__name__") (hdb : (x == PySem.Str.ofString "__debug__") = false) (ha : L2.PA X (e :: es) (RA X F E cs)) (hp : (e :: es).all plainE = true) : L2.PE X (.Call (.Name x p) (e :: es) [] pos) (RE X F E (.blt b cs)) := by
  have h1 : plainE e = true ∧ es.all plainE = true := by rw [List.all_cons, Bool.and_eq_true] at hp; exact hp
  have k : ∀ σ H Q, RE X F E (.blt b cs) σ H Q → L2.tCB (liftA X (bltS b)) (RA X F E cs) σ H Q := fun σ H Q h => rd_blt hF (S := bltS b) (by
    obtain ⟨ρ, env, hp, hr, he, w⟩ := h
    unfold wpE at w
    exact ⟨ρ, env, hp, hr, he, w⟩)
  rcases hu with ⟨id, rfl⟩ | ⟨T, rfl⟩
  · exact PE.imp (L2.pe_callB hc hg hm hv ha hn hdb (star_plain h1.1) (any_plain h1.2)) k
  · exact PE.imp (L2.pe_callTy hc hg hm hv ha hn hdb (star_plain h1.1) (any_plain h1.2)) k
/-- isinstance(e, T) -/
theorem pe_isiM {t : Ty} {e : Expr} {c : CE} {p p2 pos : PySem.Pos} {x : Str} (hx : x = PySem.Str.ofString "isinstance") {y : Str} (hg : L2.Gl X x) (hm : X.mg x = none) (hv : PySem.bootBuiltins x = some (.builtin "isinstance")) (hg2 : L2.Gl X y) (hm2 : X.mg y = none) (hv2 : PySem.bootBuiltins y = some (.type (tyName t)))
    (hn : y ≠ PySem.Str.ofString "__name__") (hdb : (y == PySem.Str.ofString "__debug__") = false) (he : L2.PE X e (RE X F E c)) (hp : plainE e = true) : L2.PE X (.Call (.Name x p) [e, .Name y p2] [] pos) (RE X F E (.blt (.isi t) [c])) := by
  subst hx
  have hc : L2.CallR X (.builtin "isinstance") (fun vs H Q => ∃ v, vs = [v, .ty (tyName t)] ∧ liftA X (bltS (.isi t)) [v] H Q) := by
    intro pins s σ H xs us Q I rx ⟨v, e1, ρ, hp0, ds, r, hr, rv, e2, q⟩
    subst e1
    cases rx with
    | cons r1 r2 =>
      cases r2 with
      | cons r2 r3 =>
        cases r3
        rcases ds with _ | ⟨d, _ | ⟨d2, ds⟩⟩ <;> try (cases rv; done)
        · obtain ⟨v', ev', rd⟩ := rv.one_inv
          cases ev'
          simp only [bltS, Option.map_eq_some_iff] at e2
          obtain ⟨k, e2, rfl⟩ := e2
          exact isi_run I hr rd r1 r2 e2 (PV.here q hr (.bl k))
        · cases rv with | cons a b => cases b
  refine PE.imp (L2.pe_callB (p := p) (pos := pos) hc hg hm hv (L2.pa_cons he (L2.pa_cons (L2.pe_bltn (v := .ty (tyName t)) (pos := p2) hg2 hm2 hv2 rfl hn hdb) L2.pa_nil (by rfl)) (star_plain hp)) (by decide) (by decide) (star_plain hp) (by rfl)) fun σ H Q ⟨ρ, env, hp0, hr, he0, w⟩ => ?_
  unfold wpE wpEs wpEs at w
  refine ⟨ρ, env, hp0, hr, he0, wpE_mono hF c E env hp0 _ _ w fun d h1 q ρ1 H1 v p1 t1 hr1 rv1 => ⟨v, rfl, ?_⟩⟩
  obtain ⟨r, e, q⟩ := ws_iff.mp q
  exact ⟨ρ1, h1, [d], r, hr1, .cons rv1 .nil, e, PV.weak p1 t1 q⟩
omit hF in
theorem op_isM : L2.OpR X (PySem.compareOp .Is) (liftC X fun x y h => cmpS .is x y h) ∧ L2.OpR X (PySem.compareOp .IsNot) (liftC X fun x y h => cmpS .isnt x y h) := by
  have key : ∀ {ρ : List Addr} {H : LHp} {x y : D} {v u : LV} {v' u' : Value} {k : Bool}, RV X.K ρ H x v → RV X.K ρ H y u → L2.RelV v v' → L2.RelV u u' → isS x y = some k → ((∀ z, v' ≠ .builtin z) ∧ (u' = .none ∨ ∃ b, u' = .bool b)) ∧ (v' == u') = k := by
    intro ρ H x y v u v' u' k rx ry rv ru e
    have nb : ∀ z, v' ≠ .builtin z := fun z h => by
      subst h
      cases rx <;> first | (cases rv; done) | (obtain ⟨t, e⟩ := rv; cases e; done)
    cases y <;> simp only [isS] at e <;> first | (cases e; done) | skip
    · cases ry; cases ru; cases e
      refine ⟨⟨nb, .inl rfl⟩, ?_⟩
      cases rx <;> first | (cases rv; rfl) | (obtain ⟨t, rfl⟩ := rv; rfl)
    · cases ry; cases ru; cases e
      refine ⟨⟨nb, .inr ⟨_, rfl⟩⟩, ?_⟩
      rename_i b
      cases rx <;> first | (cases rv; rfl) | (obtain ⟨t, rfl⟩ := rv; rfl) | skip
      cases rv
      rename_i c
      show (Value.bool c == Value.bool b) = (b == c)
      cases b <;> cases c <;> rfl
  have run : ∀ {s : PySem.Shared} {v' u' : Value} {Q : Value → PySem.Shared → Prop}, ((∀ z, v' ≠ .builtin z) ∧ (u' = .none ∨ ∃ b, u' = .bool b)) → (Q (.bool (v' == u')) s → PySem.wpAny (PySem.model X.prog X.w) X.A (PySem.compareOp .Is v' u') Q X.xe s) ∧ (Q (.bool !(v' == u')) s → PySem.wpAny (PySem.model X.prog X.w) X.A (PySem.compareOp .IsNot v' u') Q X.xe s) := by
    intro s v' u' Q ⟨nb, hu⟩
    rcases hu with rfl | ⟨b, rfl⟩
    · exact ⟨fun q => by cases v' <;> exact PySem.wpAny_pure q, fun q => by cases v' <;> exact PySem.wpAny_pure q⟩
    · exact ⟨fun q => by cases v' <;> first | exact PySem.wpAny_pure q | exact absurd rfl (nb _), fun q => by cases v' <;> first | exact PySem.wpAny_pure q | exact absurd rfl (nb _)⟩
  refine ⟨?_, ?_⟩
  · intro pins s σ H v u v' u' Q I rv ru ⟨ρ, hp, x, y, r, hr, rx, ry, e, q⟩
    obtain ⟨k, e2, rfl⟩ := Option.map_eq_some_iff.mp e
    obtain ⟨h1, h2⟩ := key rx ry rv ru e2
    exact (run h1).1 ⟨.bl k, H, I, congrArg Value.bool h2, PV.here q hr (.bl k)⟩
  · intro pins s σ H v u v' u' Q I rv ru ⟨ρ, hp, x, y, r, hr, rx, ry, e, q⟩
    obtain ⟨k, e2, rfl⟩ := Option.map_eq_some_iff.mp e
    have e3 : (isS x y).map not = some k := e2
    obtain ⟨k', e4, hk⟩ := Option.map_eq_some_iff.mp e3
    subst hk
    obtain ⟨h1, h2⟩ := key rx ry rv ru e4
    exact (run h1).2 ⟨.bl (!k'), H, I, congrArg (fun z => Value.bool !z) h2, PV.here q hr (.bl _)⟩
end
end M

end
section
set_option Elab.async false
set_option linter.all false
set_option autoImplicit false
set_option maxRecDepth 100000
set_option maxHeartbeats 4000000
/-! walks, targets -/
namespace M
open PySem (Addr Obj Value Str PyData Heap NestedKey Expr)
/-! ### targets -/
/-- all but these slots stay -/
def SetsOnly (is : List Nat) (σ σ' : L2.St) : Prop := σ'.length = σ.length ∧ ∀ i, i ∉ is → σ'[i]? = σ[i]?
theorem SetsOnly.refl {is : List Nat} (σ : L2.St) : SetsOnly is σ σ := ⟨rfl, fun _ _ => rfl⟩
theorem SetsOnly.trans {is js : List Nat} {σ σ1 σ2 : L2.St} (a : SetsOnly is σ σ1) (b : SetsOnly js σ1 σ2) : SetsOnly (is ++ js) σ σ2 :=
  ⟨b.1.trans a.1, fun i h => by
    rw [List.mem_append, not_or] at h
    exact (b.2 i h.2).trans (a.2 i h.1)⟩
theorem wipe_get (σ : L2.St) : ∀ (vs : List Nat) (i : Nat), (L2.wipe σ vs)[i]? = if i ∈ vs ∧ i < σ.length then some none else σ[i]?
  | [], i => by simp [L2.wipe]
  | v :: vs, i => by
    unfold L2.wipe
    by_cases h : v = i
    · subst h
      by_cases hl : v < σ.length
      · rw [List.getElem?_set_self (by rw [L2.wipe_length]; exact hl), if_pos ⟨List.mem_cons_self, hl⟩]
      · rw [List.getElem?_eq_none (by rw [List.length_set, L2.wipe_length]; omega), if_neg (fun z => hl z.2), List.getElem?_eq_none (by omega)]
    · rw [List.getElem?_set_ne h, wipe_get σ vs i]
      by_cases hm : i ∈ vs ∧ i < σ.length
      · rw [if_pos hm, if_pos ⟨List.mem_cons_of_mem _ hm.1, hm.2⟩]
      · rw [if_neg hm, if_neg (fun z => hm ⟨(List.mem_cons.mp z.1).resolve_left (fun e => h e.symm), z.2⟩)]
theorem SetsOnly.wipe {is vs : List Nat} {σ σ' : L2.St} (a : SetsOnly is σ σ') (h : ∀ i ∈ is, i ∈ vs) : L2.wipe σ' vs = L2.wipe σ vs := by
  refine List.ext_getElem? fun i => ?_
  rw [wipe_get, wipe_get, a.1]
  by_cases hm : i ∈ vs ∧ i < σ.length
  · rw [if_pos hm, if_pos hm]
  · rw [if_neg hm, if_neg hm]
    by_cases hi : i ∈ vs
    · have hl : ¬ i < σ.length := fun z => hm ⟨hi, z⟩
      rw [List.getElem?_eq_none (by rw [a.1]; omega), List.getElem?_eq_none (by omega)]
    · exact a.2 i fun z => hi (h i z)
theorem wipe_wipe (σ : L2.St) (vs : List Nat) : L2.wipe (L2.wipe σ vs) vs = L2.wipe σ vs := by
  refine List.ext_getElem? fun i => ?_
  rw [wipe_get, wipe_get, L2.wipe_length]
  by_cases hm : i ∈ vs ∧ i < σ.length
  · rw [if_pos hm, if_pos hm]
  · rw [if_neg hm]
section
variable {X : L2.Cx}
/-- a target's reading -/
def gM (X : L2.Cx) (p : Pat) : L2.TG := fun v σ H Q => ∃ ρ env d, EnvR X.K ρ H env σ ∧ RV X.K ρ H d v ∧ wpP p d env fun e2 => ∀ σ2, EnvR X.K ρ H e2 σ2 → SetsOnly (slotsP p) σ σ2 → Q σ2 H
def gsM (X : L2.Cx) (ps : List Pat) : L2.TGs := fun vs σ H Q => ∃ ρ env ds, EnvR X.K ρ H env σ ∧ RVs X.K ρ H ds vs ∧ wpPs ps ds env fun e2 => ∀ σ2, EnvR X.K ρ H e2 σ2 → SetsOnly (slotsPs ps) σ σ2 → Q σ2 H
theorem PG.imp {e : Expr} {t t' : L2.TG} (h : L2.PG X e t) (k : ∀ v σ H Q, t' v σ H Q → t v σ H Q) : L2.PG X e t' := ⟨fun pins s σ H v u Q I r q => h.run pins s σ H v u Q I r (k v σ H Q q)⟩
theorem PGs.imp {e : List Expr} {t t' : L2.TGs} (h : L2.PGs X e t) (k : ∀ v σ H Q, t' v σ H Q → t v σ H Q) : L2.PGs X e t' := ⟨fun pins s σ H v u Q I r q => h.run pins s σ H v u Q I r (k v σ H Q q)⟩
theorem pg_slotM {i : Nat} {x : Str} {pos : PySem.Pos} (hN : X.N.Nodup) (hi : X.N[i]? = some x) (hx : L2.Loc X.env.scope x) (hf : X.fn x = true ∨ X.env.scope.names.lookup x = some .local) : L2.PG X (.Name x pos) (gM X (.slot i)) :=
  PG.imp (L2.pg_name hN hi hx hf) fun v σ H Q ⟨ρ, env, d, he, rv, w⟩ => by
    unfold wpP at w
    exact w.2 _ (he.set rv) ⟨by simp, fun j hj => by
      have : i ≠ j := fun e => hj (by rw [e]; simp [slotsP])
      exact List.getElem?_set_ne this⟩
theorem pgs_nilM : L2.PGs X [] (gsM X []) := PGs.imp L2.pgs_nil fun v σ H Q ⟨ρ, env, ds, he, rv, w⟩ => by
  cases ds with
  | nil =>
    unfold wpPs at w
    cases rv
    exact ⟨rfl, w σ he (SetsOnly.refl _)⟩
  | cons d ds => unfold wpPs at w; exact w.elim
theorem each_plain {e : Expr} {es : List Expr} {env : PySem.Env} (h : plainE e = true) : PySem.assignEach (e :: es) env = (false, PySem.assign e env) :: PySem.assignEach es env := by
  cases e <;> first | rfl | exact Bool.noConfusion h
theorem pgs_consM {e : Expr} {es : List Expr} {p : Pat} {ps : List Pat} (h1 : L2.PG X e (gM X p)) (h2 : L2.PGs X es (gsM X ps)) (hp : plainE e = true) : L2.PGs X (e :: es) (gsM X (p :: ps)) :=
  PGs.imp (L2.pgs_cons h1 h2 (by rw [each_plain hp]; rfl)) fun v σ H Q ⟨ρ, env, ds, he, rv, w⟩ => by
    cases rv with
    | nil => unfold wpPs at w; exact w.elim
    | cons r1 r2 =>
      unfold wpPs at w
      refine ⟨_, _, rfl, ρ, env, _, he, r1, wpP_mono _ _ _ _ _ w fun e1 w σ1 he1 s1 => ⟨ρ, e1, _, he1, r2, wpPs_mono _ _ _ _ _ w fun e2 w σ2 he2 s2 => w σ2 he2 (by
        unfold slotsPs
        exact s1.trans s2)⟩⟩
theorem each_len {es : List Expr} {env : PySem.Env} (h : es.all plainE = true) : PySem.assignEach es env = es.map fun e => (false, PySem.assign e env) := by
  induction es with
  | nil => rfl
  | cons e es ih =>
    rw [List.all_cons, Bool.and_eq_true] at h
    rw [each_plain h.1, ih h.2, List.map_cons]
theorem wpPs_len : ∀ (ps : List Pat) (ds : List D) (env : Env) (Q : Env → Prop), wpPs ps ds env Q → ds.length = ps.length
  | [], [], _, _, _ => rfl
  | [], _ :: _, _, _, h => by unfold wpPs at h; exact h.elim
  | _ :: _, [], _, _, h => by unfold wpPs at h; exact h.elim
  | p :: ps, d :: ds, env, Q, h => by
    unfold wpPs at h
    have key : ∀ (p : Pat) (v : D) (env : Env) (Q : Env → Prop), wpP p v env Q → ∃ e, Q e := fun p v env Q => wpP_some p v env Q
    obtain ⟨e, h⟩ := key _ _ _ _ h
    rw [List.length_cons, List.length_cons, wpPs_len ps ds e Q h]
where
  wpP_some : ∀ (p : Pat) (v : D) (env : Env) (Q : Env → Prop), wpP p v env Q → ∃ e, Q e
  | .slot i, v, env, Q, h => by unfold wpP at h; exact ⟨_, h.2⟩
  | .tup ps, v, env, Q, h => by
    unfold wpP at h
    cases v with
    | tup xs => exact wpPs_some ps xs env Q h
    | _ => exact h.elim
  wpPs_some : ∀ (ps : List Pat) (v : List D) (env : Env) (Q : Env → Prop), wpPs ps v env Q → ∃ e, Q e
  | [], [], env, Q, h => by unfold wpPs at h; exact ⟨_, h⟩
  | [], _ :: _, _, _, h => by unfold wpPs at h; exact h.elim
  | _ :: _, [], _, _, h => by unfold wpPs at h; exact h.elim
  | p :: ps, d :: ds, env, Q, h => by
    unfold wpPs at h
    obtain ⟨e, h⟩ := wpP_some p d env _ h
    exact wpPs_some ps ds e Q h
theorem pg_tupM {es : List Expr} {k : Nat} {pos : PySem.Pos} {ps : List Pat} (hc : X.calm = true) (h : L2.PGs X es (gsM X ps)) (hp : es.all plainE = true) (hl : es.length = ps.length) : L2.PG X (.Tuple es k pos) (gM X (.tup ps)) :=
  PG.imp (L2.pg_tup (n := ps.length) hc h (by rw [each_len hp, List.length_map, hl]) (by
    rw [each_len hp]
    induction es with
    | nil => rfl
    | cons e es ih => simp)) fun v σ H Q ⟨ρ, env, d, he, rv, w⟩ => by
    unfold wpP at w
    cases d <;> first | exact w.elim | skip
    rename_i xs
    obtain ⟨a, ys, rfl, sq, r⟩ := rv.tup_inv
    have hlen := wpPs_len ps xs env _ w
    exact ⟨a, ys, rfl, sq, by rw [← r.length, hlen], ρ, env, xs, he, r, by unfold slotsP at w; exact w⟩
end
end M

end
section
set_option Elab.async false
set_option linter.all false
set_option autoImplicit false
set_option maxRecDepth 100000
set_option maxHeartbeats 4000000
/-! zip of lists and tuples, mixed -/
namespace M
open PySem (Addr Obj Value Str Heap Expr)
def IsIt (k : Bool) (h : Heap) (it a : Addr) (i : Nat) : Prop := if k = true then h.IsListIter it a i else h.IsTupleIter it a i
def IsSq (k : Bool) (h : Heap) (a : Addr) (xs : Array Value) : Prop := if k = true then h.IsList a xs else h.IsTuple a xs
def itN (k : Bool) : String := if k = true then "list_iterator" else "tuple_iterator"
theorem IsSq.keep {k : Bool} {h h' : Heap} {a : Addr} {xs : Array Value} (s : IsSq k h a xs) (kp : ∀ o, h.get? a = some o → h'.get? a = some o) : IsSq k h' a xs := by
  cases k
  · obtain ⟨o, e, r⟩ := s
    exact ⟨o, kp o e, r⟩
  · exact PySem.Heap.IsList.at (show h.IsList a xs from s) kp
theorem IsIt.keep {k : Bool} {h h' : Heap} {it a : Addr} {i : Nat} (s : IsIt k h it a i) (kp : ∀ o, h.get? it = some o → h'.get? it = some o) : IsIt k h' it a i := by
  cases k
  · exact PySem.Heap.IsTupleIter.at (show h.IsTupleIter it a i from s) kp
  · exact PySem.Heap.IsListIter.at (show h.IsListIter it a i from s) kp
theorem draws_sq {prog : PySem.Program} {w : PySem.World} {A : PySem.Around} (k : Bool) (hh : A.handled = none) (it l : Addr) (hne : l ≠ it) (items : Array Value) :
    PySem.Draws prog w A it [it, l] items.size (fun i v => items[i]? = some v) (fun i h => IsIt k h it l i ∧ IsSq k h l items) where
  live := fun _ _ st => by
    cases k
    · obtain ⟨o, ho, _⟩ := (show Heap.IsTupleIter _ it l _ from st.1); exact ⟨o, ho⟩
    · obtain ⟨o, ho, _⟩ := (show Heap.IsListIter _ it l _ from st.1); exact ⟨o, ho⟩
  frame := fun _ _ _ st hk => ⟨st.1.keep fun o e => hk it (by simp) o e, st.2.keep fun o e => hk l (by simp) o e⟩
  item := fun i s Q E hi st hQ => by
    cases k
    · refine RZ.nextOf_tuple_item (show s.heap.IsTupleIter it l i from st.1) (show s.heap.IsTuple l items from st.2) (x := items[i]) (by simp [hi]) fun h' hit' hs' => ?_
      exact hQ _ h' s.toks (by simp [hi]) ⟨hit', st.2.keep fun o e => (hs'.2 l hne).trans e⟩ hs'
    · refine PySem.wpAny_nextOf_list_item (show s.heap.IsListIter it l i from st.1) (show s.heap.IsList l items from st.2) (x := items[i]) (by simp [hi]) fun h' hit' hs' => ?_
      exact hQ _ h' s.toks (by simp [hi]) ⟨hit', st.2.keep fun o e => (hs'.2 l hne).trans e⟩ hs'
  done := fun s Q E st hE => by
    cases k
    · exact RZ.nextOf_tuple_end hh (show s.heap.IsTupleIter it l _ from st.1) (show s.heap.IsTuple l items from st.2) (by simp) hE
    · exact PySem.wpAny_nextOf_list_end hh (show s.heap.IsListIter it l _ from st.1) (show s.heap.IsList l items from st.2) (by simp) hE
abbrev zH1 (k : Bool) (h : Heap) (l1 : Addr) : Heap := h.push { cls := .type (itN k), data := .fields #[.ref l1, .int 0 0] }
abbrev zH2 (k k' : Bool) (h : Heap) (l1 l2 : Addr) : Heap := (zH1 k h l1).push { cls := .type (itN k'), data := .fields #[.ref l2, .int 0 0] }
abbrev zH3 (k k' : Bool) (h : Heap) (l1 l2 : Addr) : Heap := (zH2 k k' h l1 l2).push { cls := .type "tuple", data := .seq #[.ref h.objs.size, .ref (zH1 k h l1).objs.size] }
abbrev zH4 (k k' : Bool) (h : Heap) (l1 l2 : Addr) : Heap := (zH3 k k' h l1 l2).push { cls := .type "tuple", data := .seq #[.none, .none] }
abbrev zH5 (k k' : Bool) (h : Heap) (l1 l2 : Addr) : Heap := (zH4 k k' h l1 l2).push { cls := .type "zip", data := .fields #[.none, .bool false, .bool false, .ref (zH2 k k' h l1 l2).objs.size, .ref (zH3 k k' h l1 l2).objs.size] }
end M
namespace PySem
open M
open Sem (wp)
theorem meets_zipM_new (k k' : Bool) (l1 l2 : Addr) (xs ys : Array Value) :
    Meets (Builtin.«zip.__new__» ⟨[.type "zip", .ref l1, .ref l2], []⟩) (fun _ R s => IsSq k s.heap l1 xs ∧ IsSq k' s.heap l2 ys ∧
      R (.ok (.ret (.ref (zH4 k k' s.heap l1 l2).objs.size))) { s with heap := zH5 k k' s.heap l1 l2 }) :=
  .of_wp fun prog w A R s h => by
    obtain ⟨hp, g, d, tk, os⟩ := s; obtain ⟨hl1, hl2, h⟩ := h
    have hsub := sub_zip
    cases k <;> cases k'
    · have hL1 : Heap.IsTuple (Shared.heap ⟨hp, g, d, tk, os⟩) l1 xs := hl1
      have hL2 : Heap.IsTuple (Shared.heap ⟨hp.push { cls := .type "tuple_iterator", data := .fields #[.ref l1, .int 0 0] }, g, d, tk, os⟩) l2 ys := Heap.IsTuple.push hl2 _
      wp_walk using wpAny_pyIter_tuple hL1, wpAny_pyIter_tuple hL2
      exact ⟨_, rfl, h⟩
    · have hL1 : Heap.IsTuple (Shared.heap ⟨hp, g, d, tk, os⟩) l1 xs := hl1
      have hL2 : Heap.IsList (Shared.heap ⟨hp.push { cls := .type "tuple_iterator", data := .fields #[.ref l1, .int 0 0] }, g, d, tk, os⟩) l2 ys := Heap.IsList.at (show hp.IsList l2 ys from hl2) fun o e => Heap.get?_push_of_some _ e
      wp_walk using wpAny_pyIter_tuple hL1, wpAny_pyIter_list hL2
      exact ⟨_, rfl, h⟩
    · have hL1 : Heap.IsList (Shared.heap ⟨hp, g, d, tk, os⟩) l1 xs := hl1
      have hL2 : Heap.IsTuple (Shared.heap ⟨hp.push { cls := .type "list_iterator", data := .fields #[.ref l1, .int 0 0] }, g, d, tk, os⟩) l2 ys := Heap.IsTuple.push hl2 _
      wp_walk using wpAny_pyIter_list hL1, wpAny_pyIter_tuple hL2
      exact ⟨_, rfl, h⟩
    · have hL1 : Heap.IsList (Shared.heap ⟨hp, g, d, tk, os⟩) l1 xs := hl1
      have hL2 : Heap.IsList (Shared.heap ⟨hp.push { cls := .type "list_iterator", data := .fields #[.ref l1, .int 0 0] }, g, d, tk, os⟩) l2 ys := Heap.IsList.at (show hp.IsList l2 ys from hl2) fun o e => Heap.get?_push_of_some _ e
      wp_walk using wpAny_pyIter_list hL1, wpAny_pyIter_list hL2
      exact ⟨_, rfl, h⟩
end PySem
namespace M
open PySem (Addr Obj Value Str Heap Expr)
section
variable {prog : PySem.Program} {w : PySem.World} {A : PySem.Around} {E : Value → PySem.Shared → Prop} {s : PySem.Shared}
theorem call_zipM (k k' : Bool) {l1 l2 : Addr} {xs ys : Array Value} {Q : Value → PySem.Shared → Prop} (hl1 : IsSq k s.heap l1 xs) (hl2 : IsSq k' s.heap l2 ys)
    (h : ∀ h', PySem.IsZip h' (s.heap.objs.size + 4) (s.heap.objs.size + 2) (s.heap.objs.size + 3) .none → PySem.IsTupOf2 h' (s.heap.objs.size + 2) (.ref s.heap.objs.size) (.ref (s.heap.objs.size + 1)) →
      PySem.IsTupOf2 h' (s.heap.objs.size + 3) .none .none → IsIt k h' s.heap.objs.size l1 0 → IsIt k' h' (s.heap.objs.size + 1) l2 0 →
      (∀ c o, s.heap.get? c = some o → h'.get? c = some o) → Q (.ref (s.heap.objs.size + 4)) { s with heap := h' }) :
    PySem.wpAny (PySem.model prog w) A (PySem.call (.type "zip") [.ref l1, .ref l2]) Q E s := by
  refine PySem.callType_new PySem.F.called_zip (by decide) (PySem.F.typeCall_zip_2 _ _) (PySem.F.newCall_zip_2 _ _) (fun obj => PySem.F.args_object_init_3 obj _ _) PySem.F.entry_zip_new
    (PySem.meets_zipM_new k k' l1 l2 xs ys) ⟨hl1, hl2, ?_⟩
  have z1 : (zH1 k s.heap l1).objs.size = s.heap.objs.size + 1 := PySem.Heap.size_push ..
  have z2 : (zH2 k k' s.heap l1 l2).objs.size = s.heap.objs.size + 2 := by rw [PySem.Heap.size_push, z1]
  have z3 : (zH3 k k' s.heap l1 l2).objs.size = s.heap.objs.size + 3 := by rw [PySem.Heap.size_push, z2]
  have z4 : (zH4 k k' s.heap l1 l2).objs.size = s.heap.objs.size + 4 := by rw [PySem.Heap.size_push, z3]
  have g5 : (zH5 k k' s.heap l1 l2).get? (zH4 k k' s.heap l1 l2).objs.size = some _ := PySem.Heap.get?_push_size _ rfl
  have g4 : (zH5 k k' s.heap l1 l2).get? (zH3 k k' s.heap l1 l2).objs.size = some _ := PySem.Heap.get?_push_of_some _ (PySem.Heap.get?_push_size _ rfl)
  have g3 : (zH5 k k' s.heap l1 l2).get? (zH2 k k' s.heap l1 l2).objs.size = some _ := PySem.Heap.get?_push_of_some _ (PySem.Heap.get?_push_of_some _ (PySem.Heap.get?_push_size _ rfl))
  have g2 : (zH5 k k' s.heap l1 l2).get? (zH1 k s.heap l1).objs.size = some _ := PySem.Heap.get?_push_of_some _ (PySem.Heap.get?_push_of_some _ (PySem.Heap.get?_push_of_some _ (PySem.Heap.get?_push_size _ rfl)))
  have g1 : (zH5 k k' s.heap l1 l2).get? s.heap.objs.size = some _ := PySem.Heap.get?_push_of_some _ (PySem.Heap.get?_push_of_some _ (PySem.Heap.get?_push_of_some _ (PySem.Heap.get?_push_of_some _ (PySem.Heap.get?_push_size _ rfl))))
  show _ ∧ _
  rw [z2, z3, z4] at g5
  rw [z1, z2] at g3
  rw [z3] at g4
  rw [z1] at g2
  rw [z4]
  refine ⟨⟨_, g5, rfl⟩, h _ g5 g3 g4 ?_ ?_ fun c o x =>
    PySem.Heap.get?_push_of_some _ (PySem.Heap.get?_push_of_some _ (PySem.Heap.get?_push_of_some _ (PySem.Heap.get?_push_of_some _ (PySem.Heap.get?_push_of_some _ x))))⟩
  · cases k <;> exact ⟨_, g1, rfl, rfl⟩
  · cases k' <;> exact ⟨_, g2, rfl, rfl⟩
end
/-- a list or a tuple, in the layer's words -/
def SqK (k : Bool) (K : PySem.W.Frag) (H : LHp) (a : Addr) (xs : List LV) : Prop := if k = true then L2.SqL K H a xs else L2.SqT K H a xs
theorem SqK.at {X : L2.Cx} {pins : List (Addr × Obj)} {σ : L2.St} {H : LHp} {s : PySem.Shared} (I : L2.Inv X pins σ H s) {k : Bool} {a : Addr} {xs : List LV} (h : SqK k X.K H a xs) : ∃ its : List Value, L2.Vals xs its ∧ IsSq k s.heap a its.toArray := by
  cases k
  · obtain ⟨its, rv, p, _⟩ := I.tuple (show L2.SqT X.K H a xs from h)
    exact ⟨its, rv, (show s.heap.IsTuple a its.toArray from p)⟩
  · obtain ⟨its, rv, p, _⟩ := I.list (show L2.SqL X.K H a xs from h)
    exact ⟨its, rv, p.isList⟩
theorem SqK.inj {X : L2.Cx} {pins : List (Addr × Obj)} {σ : L2.St} {H : LHp} {s : PySem.Shared} (I : L2.Inv X pins σ H s) {k : Bool} {a : Addr} {xs ys : List LV} (h : SqK k X.K H a xs) (h' : SqK k X.K H a ys) : xs = ys := by
  cases k
  · exact I.tuple_inj (show L2.SqT X.K H a xs from h) h'
  · exact I.list_inj (show L2.SqL X.K H a xs from h) h'
def Itm (k k' : Bool) (K : PySem.W.Frag) (a b : Addr) : L2.It :=
  ⟨fun i H => ∃ (xs ys : List LV) (x y : LV), SqK k K H a xs ∧ SqK k' K H b ys ∧ xs[i]? = some x ∧ ys[i]? = some y,
    fun i H v H' => ∃ T x y, v = .ref T ∧ H T = none ∧ H' = L2.upd H T (.tup [x, y]) ∧ (∀ xs, SqK k K H a xs → xs[i]? = some x) ∧ ∀ ys, SqK k' K H b ys → ys[i]? = some y,
    fun i H => ∃ xs ys : List LV, SqK k K H a xs ∧ SqK k' K H b ys ∧ i ≤ xs.length ∧ i ≤ ys.length ∧ (i = xs.length ∨ i = ys.length)⟩
theorem turn_zipM {P : PySem.Program} {w : PySem.World} {K : PySem.W.Frag} (k k' : Bool) {elts : List Expr} {kk : Nat} {tpos : PySem.Pos} {a b z TI TO i1 i2 : Addr} (D : PySem.ZipSep2 z TI TO i1 i2 [i1, a] [i2, b]) (hai : a ≠ i1) (hbi : b ≠ i2) :
    L2.Turn P w K (.Tuple elts kk tpos) (Itm k k' K a b) [z, TI, TO, i1, i2] z (fun i h => PySem.IsZip h z TI TO .none ∧ PySem.IsTupOf2 h TI (.ref i1) (.ref i2) ∧ (∃ x y, PySem.IsTupOf2 h TO x y) ∧ IsIt k h i1 a i ∧ IsIt k' h i2 b i) where
  mem := by simp
  obj := fun i h st c hc => by
    obtain ⟨hz, hTI, ⟨x, y, hTO⟩, h1, h2⟩ := st
    have e' : c = z ∨ c = TI ∨ c = TO ∨ c = i1 ∨ c = i2 := by simpa using hc
    rcases e' with q | q | q | q | q
    · rw [q]; exact ⟨_, hz, fun v q => nomatch q⟩
    · rw [q]; exact ⟨_, hTI, fun v q => nomatch q⟩
    · rw [q]; exact ⟨_, hTO, fun v q => nomatch q⟩
    · rw [q]
      cases k
      · obtain ⟨o, e, _, d⟩ := (show h.IsTupleIter i1 a i from h1); exact ⟨o, e, fun v q => by rw [d] at q; cases q⟩
      · obtain ⟨o, e, _, d⟩ := (show h.IsListIter i1 a i from h1); exact ⟨o, e, fun v q => by rw [d] at q; cases q⟩
    · rw [q]
      cases k'
      · obtain ⟨o, e, _, d⟩ := (show h.IsTupleIter i2 b i from h2); exact ⟨o, e, fun v q => by rw [d] at q; cases q⟩
      · obtain ⟨o, e, _, d⟩ := (show h.IsListIter i2 b i from h2); exact ⟨o, e, fun v q => by rw [d] at q; cases q⟩
  keep := fun i h h' st kp => by
    obtain ⟨hz, hTI, ⟨x, y, hTO⟩, h1, h2⟩ := st
    exact ⟨kp z (by simp) _ hz, kp TI (by simp) _ hTI, ⟨x, y, kp TO (by simp) _ hTO⟩, h1.keep fun o q => kp i1 (by simp) o q, h2.keep fun o q => kp i2 (by simp) o q⟩
  item := by
    intro X hP hw hK hc i pins s σ H E I hf st hg
    subst hP hw hK
    obtain ⟨hz, hTI, ⟨x0, y0, hTO⟩, h1, h2⟩ := st
    obtain ⟨xs, ys, x, y, hqx, hqy, hx, hy⟩ := hg
    obtain ⟨its, rv, p⟩ := SqK.at I hqx
    obtain ⟨its2, rv2, p2⟩ := SqK.at I hqy
    obtain ⟨u, hu, ru⟩ := rv.get hx
    obtain ⟨u2, hu2, ru2⟩ := rv2.get hy
    have hzl : z < s.heap.objs.size := PySem.Heap.lt_size hz
    have l1 : i < its.toArray.size := by have := (List.getElem?_eq_some_iff.mp hu).1; simpa using this
    have l2 : i < its2.toArray.size := by have := (List.getElem?_eq_some_iff.mp hu2).1; simpa using this
    refine PySem.wpAny_pyNext_zipD2_item D (draws_sq k (A := X.A.in1) (I.ok.hd hc) i1 a hai its.toArray) (draws_sq k' (A := X.A.in1) (I.ok.hd hc) i2 b hbi its2.toArray) hz hTI hTO ⟨h1, p⟩ ⟨h2, p2⟩ l1 l2 fun v1 v2 h' tk e1 e2 z' TO' h1' h2' hT hsz hk => ?_
    have q1 : v1 = u := by
      have : its[i]? = some v1 := by simpa using e1
      rw [hu] at this; exact (Option.some.inj this).symm
    have q2 : v2 = u2 := by
      have : its2[i]? = some v2 := by simpa using e2
      rw [hu2] at this; exact (Option.some.inj this).symm
    subst q1 q2
    refine ⟨_, rfl, PySem.wpAny_letOwnedTupleGo_zip (s := { s with heap := h', toks := tk }) z' fun h'' z'' sb => ?_⟩
    have hT2 : h''.get? s.heap.objs.size = some { cls := .type "tuple", data := .seq #[v1, v2] } := (sb.2 _ (Nat.ne_of_gt hzl)).trans hT
    have new : L2.ObjOk X.prog X.w (L2.upd H s.heap.objs.size (.tup [x, y])) h'' s.heap.objs.size (.tup [x, y]) :=
      ⟨by show 2 ≤ PySem.sizeLine; decide, [v1, v2], .cons ru (.cons ru2 .nil), ⟨_, hT2, rfl, _, rfl⟩⟩
    have I1 : L2.Inv X pins σ (L2.upd H s.heap.objs.size (.tup [x, y])) { s with heap := h'', toks := tk } :=
      I.turnedNew (t' := tk) (ch := [z, TI, TO, i1, i2]) (fun c o hb q => (sb.2 c (fun q' => hb (by simp [q']))).trans (hk c o (fun q' => hb (by simp [q'])) (fun q' => hb (by simp [q'])) (fun q' => hb (by simp [q'])) (fun q' => hb (by simp [q'])) q)) hf (Nat.le_refl _) new
    refine ⟨.ref s.heap.objs.size, _, I1, rfl, ⟨_, x, y, rfl, I.hok.fresh (Nat.le_refl _), rfl, fun l hl => by rw [SqK.inj I hl hqx]; exact hx, fun l hl => by rw [SqK.inj I hl hqy]; exact hy⟩, ⟨z'', ?_, ⟨v1, v2, ?_⟩, ?_, ?_⟩, fun c hcm => ?_⟩
    · exact (sb.2 _ D.TIz).trans (hk _ _ D.TIz D.TITO D.TIi1 D.TIi2 hTI)
    · exact (sb.2 _ D.TOz).trans TO'
    · exact h1'.1.keep fun o q => (sb.2 _ D.zi1.symm).trans q
    · exact h2'.1.keep fun o q => (sb.2 _ D.zi2.symm).trans q
    · have hlt : c < s.heap.objs.size := by
        have e' : c = z ∨ c = TI ∨ c = TO ∨ c = i1 ∨ c = i2 := by simpa using hcm
        rcases e' with q | q | q | q | q
        · rw [q]; exact hzl
        · rw [q]; exact PySem.Heap.lt_size hTI
        · rw [q]; exact PySem.Heap.lt_size hTO
        · rw [q]
          cases k
          · obtain ⟨_, e, _⟩ := (show s.heap.IsTupleIter i1 a i from h1); exact PySem.Heap.lt_size e
          · obtain ⟨_, e, _⟩ := (show s.heap.IsListIter i1 a i from h1); exact PySem.Heap.lt_size e
        · rw [q]
          cases k'
          · obtain ⟨_, e, _⟩ := (show s.heap.IsTupleIter i2 b i from h2); exact PySem.Heap.lt_size e
          · obtain ⟨_, e, _⟩ := (show s.heap.IsListIter i2 b i from h2); exact PySem.Heap.lt_size e
      rw [L2.upd_ne (Nat.ne_of_lt hlt)]
      exact (hf c hcm).1
  done := by
    intro X hP hw hK hc i pins s σ H E I hf st hg
    subst hP hw hK
    obtain ⟨hz, hTI, ⟨x0, y0, hTO⟩, h1, h2⟩ := st
    obtain ⟨xs, ys, hqx, hqy, le1, le2, hend⟩ := hg
    obtain ⟨its, rv, p⟩ := SqK.at I hqx
    obtain ⟨its2, rv2, p2⟩ := SqK.at I hqy
    have l1 := rv.length
    have l2 := rv2.length
    refine PySem.wpAny_pyNext_zipD2_end D (draws_sq k (A := X.A.in1) (I.ok.hd hc) i1 a hai its.toArray) (draws_sq k' (A := X.A.in1) (I.ok.hd hc) i2 b hbi its2.toArray) hz hTI hTO ⟨h1, p⟩ ⟨h2, p2⟩ (by simp; omega) (by simp; omega) (by simp; omega) fun h' tk hk => ⟨rfl, ?_⟩
    exact I.turnedL (t' := tk) (ch := [z, TI, TO, i1, i2]) (fun c o hb q => hk c o (fun q' => hb (by simp [q'])) (fun q' => hb (by simp [q'])) (fun q' => hb (by simp [q'])) (fun q' => hb (by simp [q'])) q) hf
  self := fun A i s Q E st h => PySem.wpAny_pyIter_zip st.1 h
theorem sep_of (n a b : Nat) (la : a < n) (lb : b < n) : PySem.ZipSep2 (n + 4) (n + 2) (n + 3) n (n + 1) [n, a] [n + 1, b] := by
  have f : ∀ (x y u : Nat), x ≠ y → x ≠ u → x ∉ ([y, u] : List Nat) := fun x y u h1 h2 h => by
    rcases List.mem_cons.mp h with e | e
    · exact h1 e
    · exact h2 (List.mem_singleton.mp e)
  have e1 : n + 2 ≠ n + 4 := by omega
  have e2 : n + 3 ≠ n + 4 := by omega
  have e3 : n + 2 ≠ n + 3 := by omega
  have e4 : n + 2 ≠ n := by omega
  have e5 : n + 2 ≠ n + 1 := by omega
  exact ⟨e1, e2, e3, e4, List.mem_cons_self, f _ _ _ (by omega) (by omega), f _ _ _ (by omega) (by omega), e5, List.mem_cons_self, f _ _ _ (by omega) (by omega), f _ _ _ (by omega) (by omega), f _ _ _ (by omega) (by omega), f _ _ _ (by omega) (by omega)⟩
theorem five_le (n c : Nat) (h : c = n + 4 ∨ c = n + 2 ∨ c = n + 3 ∨ c = n ∨ c = n + 1) : n ≤ c := by omega
theorem ne_one (n b : Nat) (h : b < n) : b ≠ n + 1 := by omega
def iZipM (K : PySem.W.Frag) (ta : L2.TA) : L2.TI := fun σ H R => ta σ H fun vs H1 => ∃ k k' a b xs ys, vs = [.ref a, .ref b] ∧ SqK k K H1 a xs ∧ SqK k' K H1 b ys ∧ R (Itm k k' K a b) H1
theorem pi_zipMx {X : L2.Cx} {e e2 : Expr} {ta : L2.TA} {p pos tpos : PySem.Pos} {elts : List Expr} {kk : Nat} (hg : L2.Gl X (PySem.Str.ofString "zip")) (hm : X.mg (PySem.Str.ofString "zip") = none) (ha : L2.PA X [e, e2] ta)
    (hs : PySem.starEach [e, e2] X.env = (false, PySem.eval e X.env) :: PySem.starEach [e2] X.env) (hpl : (PySem.backTo pos (PySem.starEach [e2] X.env)).any (·.1) = false) :
    L2.PI X (.Tuple elts kk tpos) (.Call (.Name (PySem.Str.ofString "zip") p) [e, e2] [] pos) (iZipM X.K ta) := by
  refine ⟨fun pins s σ H R I h => ?_⟩
  refine PyProof.Rows.Call_ (L2.ld_blt I hg hm PyProof.Rows.boot_zip (PyProof.Rows.callWith_type1 (L2.thn (ha.run pos pins s σ H _ I h) fun us s1 ⟨vs, H1, I1, r1, q1⟩ => ?_) hs hpl))
  obtain ⟨k, k', a, b, xs, ys, ex, hqx, hqy, q⟩ := q1
  subst ex
  cases r1 with
  | cons r rr =>
    cases rr with
    | cons r' rr =>
      cases rr
      cases r
      cases r'
      obtain ⟨its, rv, p1⟩ := SqK.at I1 hqx
      obtain ⟨its2, rv2, p2⟩ := SqK.at I1 hqy
      have lt : ∀ {k : Bool} {a : Addr} {xs : Array Value}, IsSq k s1.heap a xs → a < s1.heap.objs.size := fun {k a xs} h => by
        cases k
        · obtain ⟨o, e, _⟩ := (show s1.heap.IsTuple a xs from h); exact PySem.Heap.lt_size e
        · obtain ⟨o, e, _⟩ := (show s1.heap.IsList a xs from h); exact PySem.Heap.lt_size e
      have la := lt p1
      have lb := lt p2
      refine call_zipM k k' p1 p2 fun h' hz hTI hTO h1 h2 hk => PySem.wpAny_pyIter_zip hz ?_
      have I2 : L2.Inv X pins σ H1 { s1 with heap := h' } := I1.kept (t' := s1.toks) hk
      refine ⟨s1.heap.objs.size + 4, [s1.heap.objs.size + 4, s1.heap.objs.size + 2, s1.heap.objs.size + 3, s1.heap.objs.size, s1.heap.objs.size + 1], _, _, H1, rfl, I2, turn_zipM k k' (TI := s1.heap.objs.size + 2) (TO := s1.heap.objs.size + 3) (i1 := s1.heap.objs.size) (i2 := s1.heap.objs.size + 1) (sep_of _ _ _ la lb) (Nat.ne_of_lt la) (ne_one _ _ lb), ⟨hz, hTI, ⟨_, _, hTO⟩, h1, h2⟩, fun c hcm => ?_, q⟩
      · have e' : c = s1.heap.objs.size + 4 ∨ c = s1.heap.objs.size + 2 ∨ c = s1.heap.objs.size + 3 ∨ c = s1.heap.objs.size ∨ c = s1.heap.objs.size + 1 := by simpa using hcm
        have hle : s1.heap.objs.size ≤ c := five_le _ _ e'
        exact I1.fpOk hle (I1.hok.fresh hle)
end M

end
section
set_option Elab.async false
set_option linter.all false
set_option autoImplicit false
set_option maxRecDepth 100000
set_option maxHeartbeats 4000000
/-! what a loop walks -/
namespace M
open PySem (Addr Obj Value Str PyData Heap NestedKey Expr)
/-- the iterator yields these items, as long as the cells stay -/
structure Walk (X : L2.Cx) (ρ0 : List Addr) (H0 : LHp) (J : L2.It) (xs : List D) (l : List (Nat × Cell)) : Prop where
  go : ∀ (ρ : List Addr) (hp : Hm) (H : LHp) (i : Nat) (d : D), ρ0 <+: ρ → TK H0 H → HRX X ρ hp H → still l hp → xs[i]? = some d → J.go i H ∧ ∀ x H', J.yld i H x H' → RV X.K ρ H' d x ∧ TK H H' ∧ HRX X ρ hp H'
  stop : ∀ (ρ : List Addr) (hp : Hm) (H : LHp) (i : Nat), ρ0 <+: ρ → TK H0 H → HRX X ρ hp H → still l hp → xs.length = i → J.stop i H
section
variable {X : L2.Cx} {F : FnS} (hF : FMono F) {E : XP}
/-- a source's reading -/
def iM (X : L2.Cx) (F : FnS) (E : XP) (k : IK) (it : List CE) : L2.TI := fun σ H R => ∃ ρ env hp, HRX X ρ hp H ∧ EnvR X.K ρ H env σ ∧
  wpEs F E it env hp fun ds h1 => ws (iterS k ds h1) fun I => ∀ ρ1 H1 J, ρ <+: ρ1 → TK H H1 → HRX X ρ1 h1 H1 → Walk X ρ1 H1 J I.1 I.2 → R J H1
theorem PI.imp {tg e : Expr} {t t' : L2.TI} (h : L2.PI X tg e t) (k : ∀ σ H R, t' σ H R → t σ H R) : L2.PI X tg e t' := ⟨fun pins s σ H R I q => h.run pins s σ H R I (k σ H R q)⟩
theorem get_pre {ρ0 ρ : List Addr} {i : Nat} {a : Addr} (p : ρ0 <+: ρ) (h : ρ0[i]? = some a) : ρ[i]? = some a := pre_get p h
theorem getL_of {hp : Hm} {i : Nat} {c : Cell} {ds : List D} (h : hp[i]? = some c) (e : c = .lst ds ∨ c = .ro ds) : getL hp i = some ds := by
  unfold getL
  rcases e with rfl | rfl <;> rw [h]
theorem getL_cell {hp : Hm} {i : Nat} {ds : List D} (h : getL hp i = some ds) : ∃ c, hp[i]? = some c ∧ (c = .lst ds ∨ c = .ro ds) := by
  unfold getL at h
  split at h
  · rename_i e; cases h; exact ⟨_, e, .inl rfl⟩
  · rename_i e; cases h; exact ⟨_, e, .inr rfl⟩
  · cases h
/-- the list at a cell, wherever it stays -/
theorem still_list {ρ0 ρ : List Addr} {hp0 hp : Hm} {H : LHp} {i : Nat} {a : Addr} {c : Cell} {ds : List D} (ha : ρ0[i]? = some a) (p : ρ0 <+: ρ) (hc : c = .lst ds ∨ c = .ro ds) (st : hp[i]? = some c) (hr : HRX X ρ hp H) : ∃ ys, L2.SqL X.K H a ys ∧ RVs X.K ρ H ds ys := by
  obtain ⟨a', ys, ha', sq, r⟩ := hr.getL (getL_of st hc)
  have := pre_get p ha
  rw [this] at ha'
  cases ha'
  exact ⟨ys, sq, r⟩
theorem walk_list {ρ0 : List Addr} {H0 : LHp} {i : Nat} {a : Addr} {c : Cell} {ds : List D} (ha : ρ0[i]? = some a) (hc : c = .lst ds ∨ c = .ro ds) : Walk X ρ0 H0 (L2.Itl X.K a) ds [(i, c)] where
  go ρ hp H k d p t hr st hk := by
    obtain ⟨ys, sq, r⟩ := still_list (hp0 := hp) ha p hc (st _ (List.mem_singleton_self _)) hr
    obtain ⟨v, hv, rv⟩ := r.get hk
    refine ⟨⟨ys, v, sq, hv⟩, fun x H' ⟨e, q⟩ => ?_⟩
    subst e
    have := q ys sq
    rw [hv] at this
    cases this
    exact ⟨rv, TK.refl _, hr⟩
  stop ρ hp H k p t hr st hk := by
    have hk := Nat.le_of_eq hk
    obtain ⟨ys, sq, r⟩ := still_list (hp0 := hp) ha p hc (st _ (List.mem_singleton_self _)) hr
    exact ⟨ys, sq, by rw [← r.length]; exact hk⟩
theorem walk_tup {ρ0 : List Addr} {H0 : LHp} {a : Addr} {ys : List LV} {ds : List D} (sq : L2.SqT X.K H0 a ys) (r : RVs X.K ρ0 H0 ds ys) : Walk X ρ0 H0 (L2.Itt X.K a) ds [] where
  go ρ hp H k d p t hr st hk := by
    have sq' := t.sqT sq
    obtain ⟨v, hv, rv⟩ := r.get hk
    refine ⟨⟨ys, v, sq', hv⟩, fun x H' ⟨e, q⟩ => ?_⟩
    subst e
    have := q ys sq'
    rw [hv] at this
    cases this
    exact ⟨rv.mono p t, TK.refl _, hr⟩
  stop ρ hp H k p t hr st hk := ⟨ys, t.sqT sq, by rw [← r.length]; exact Nat.le_of_eq hk⟩
theorem rng_get {lo : Int} {n i : Nat} {d : D} (h : (rngD lo n)[i]? = some d) : i < n ∧ d = .int (lo + i) := by
  unfold rngD at h
  rw [List.getElem?_map, Option.map_eq_some_iff] at h
  obtain ⟨j, h1, h2⟩ := h
  rw [List.getElem?_eq_some_iff] at h1
  obtain ⟨h1, h3⟩ := h1
  simp at h1 h3
  subst h3
  exact ⟨h1, h2.symm⟩
theorem walk_rng {ρ0 : List Addr} {H0 : LHp} (lo : Int) (n : Nat) : Walk X ρ0 H0 (L2.Itr lo n) (rngD lo n) [] where
  go ρ hp H k d p t hr st hk := by
    obtain ⟨h1, rfl⟩ := rng_get hk
    refine ⟨h1, fun x H' ⟨e, q⟩ => ?_⟩
    subst e q
    exact ⟨.int _, TK.refl _, hr⟩
  stop ρ hp H k p t hr st hk := by
    have hk := Nat.le_of_eq hk
    have : (rngD lo n).length = n := by simp [rngD]
    rw [this] at hk
    exact hk
include hF
/-- a list or a tuple -/
theorem pi_valM {tg e : Expr} {c : CE} (h : L2.PE X e (RE X F E c)) : L2.PI X tg e (iM X F E .val [c]) := by
  refine ⟨fun pins s σ H R I ⟨ρ, env, hp, hr, he, w⟩ => ?_⟩
  unfold wpEs at w
  refine ev hF h ⟨I, hr, he⟩ w fun v s1 d x ρ1 hp1 H1 N1 p1 t1 rv ru q => ?_
  unfold wpEs at q
  obtain ⟨J, e, q⟩ := ws_iff.mp q
  simp only [iterS, Option.bind_eq_some_iff, Option.map_eq_some_iff] at e
  obtain ⟨xs, e1, l, e2, rfl⟩ := e
  cases d <;> simp only [seqOf] at e1 <;> first | (cases e1; done) | skip
  · obtain ⟨a, ys, rfl, sq, r⟩ := rv.tup_inv
    cases e1
    simp only [leanOn] at e2
    cases e2
    cases ru
    obtain ⟨its, rv', pl, hz⟩ := N1.I.tuple sq
    refine PySem.wpAny_pyIter_tuple (show s1.heap.IsTuple a its.toArray from pl) ?_
    refine L2.pi_one (tk := s1.toks) N1.I _ (L2.turn_tuple a _) ⟨_, PySem.Heap.get?_push_size _ rfl, rfl, rfl⟩ (q ρ1 H1 _ p1 t1 N1.hr (walk_tup sq r))
  · obtain ⟨a, rfl, ha⟩ := rv.ref_inv
    cases ru
    obtain ⟨a', ys, ha', sq, r⟩ := N1.hr.getL e1
    obtain rfl := ref_eq ha ha'
    obtain ⟨c', hc', cc⟩ := getL_cell e1
    simp only [leanOn, hc', Option.map_some] at e2
    cases e2
    obtain ⟨its, rv', pl, hz⟩ := N1.I.list sq
    refine PySem.wpAny_pyIter_list pl.isList ?_
    exact L2.pi_one (tk := s1.toks) N1.I _ (L2.turn_list a _) ⟨_, PySem.Heap.get?_push_size _ rfl, rfl, rfl⟩ (q ρ1 H1 _ p1 t1 N1.hr (walk_list ha cc))

omit hF in
theorem one_plain {a : Expr} {env : PySem.Env} (h : plainE a = true) : PySem.starEach [a] env = [(false, PySem.eval a env)] := star_plain h
/-- range(a), range(a, b) -/
theorem pi_rng1M {tg a : Expr} {c : CE} {p pos : PySem.Pos} {x : Str} (hx : x = PySem.Str.ofString "range") (hg : L2.Gl X x) (hm : X.mg x = none) (ha : L2.PA X [a] (RA X F E [c])) (hp : plainE a = true) : L2.PI X tg (.Call (.Name x p) [a] [] pos) (iM X F E .range [c]) := by
  subst hx
  refine PI.imp (L2.pi_range1 hg hm ha (one_plain hp)) fun σ H R ⟨ρ, env, hp, hr, he, w⟩ => ⟨ρ, env, hp, hr, he, wpEs_mono hF [c] E env hp _ _ (wpEs_len hF [c] env hp _ w) fun ds h1 ⟨hl, q⟩ ρ1 H1 vs p1 t1 hr1 rv1 => ?_⟩
  obtain ⟨I, e, q⟩ := ws_iff.mp q
  rcases ds with _ | ⟨d, _ | ⟨d2, ds⟩⟩ <;> try (simp at hl; done)
  cases d <;> try (simp [iterS] at e; done)
  obtain ⟨v, rfl, rv⟩ := rv1.one_inv
  obtain rfl := rv.int_inv
  simp only [iterS] at e
  split at e
  · rename_i hs
    cases e
    have := small_le hs
    exact ⟨_, rfl, by omega, by omega, q ρ1 H1 _ p1 t1 hr1 (walk_rng 0 _)⟩
  · cases e
theorem pi_rng2M {tg a b : Expr} {c c' : CE} {p pos : PySem.Pos} {x : Str} (hx : x = PySem.Str.ofString "range") (hg : L2.Gl X x) (hm : X.mg x = none) (ha : L2.PA X [a, b] (RA X F E [c, c'])) (hp : plainE a = true) (hp' : plainE b = true) : L2.PI X tg (.Call (.Name x p) [a, b] [] pos) (iM X F E .range [c, c']) := by
  subst hx
  refine PI.imp (L2.pi_range2 hg hm ha (by rw [star_plain hp, one_plain hp']) (one_plain hp')) fun σ H R ⟨ρ, env, hp, hr, he, w⟩ => ⟨ρ, env, hp, hr, he, wpEs_mono hF [c, c'] E env hp _ _ (wpEs_len hF [c, c'] env hp _ w) fun ds h1 ⟨hl, q⟩ ρ1 H1 vs p1 t1 hr1 rv1 => ?_⟩
  obtain ⟨I, e, q⟩ := ws_iff.mp q
  rcases ds with _ | ⟨d, _ | ⟨d2, _ | ⟨d3, ds⟩⟩⟩ <;> try (simp at hl; done)
  cases d <;> cases d2 <;> try (simp [iterS] at e; done)
  obtain ⟨v, u, rfl, rv, ru⟩ := rv1.two_inv
  obtain rfl := rv.int_inv
  obtain rfl := ru.int_inv
  simp only [iterS] at e
  split at e
  · rename_i hs
    cases e
    rw [Bool.and_eq_true] at hs
    have := small_le hs.1
    have := small_le hs.2
    exact ⟨_, _, rfl, ⟨by omega, by omega, by omega, by omega⟩, q ρ1 H1 _ p1 t1 hr1 (walk_rng _ _)⟩
  · cases e
omit hF in
theorem zip_get {xs ys : List D} {i : Nat} {d : D} (h : (zipD xs ys)[i]? = some d) : ∃ x y, xs[i]? = some x ∧ ys[i]? = some y ∧ d = .tup [x, y] := by
  unfold zipD at h
  rw [List.getElem?_zipWith] at h
  split at h
  · rename_i x y h1 h2
    cases h
    exact ⟨x, y, h1, h2, rfl⟩
  · cases h
omit hF in
theorem zip_end {xs ys : List D} {i : Nat} (h : (zipD xs ys).length ≤ i) : xs.length ≤ i ∨ ys.length ≤ i := by
  unfold zipD at h
  rw [List.length_zipWith] at h
  omega
omit hF in
theorem new_pair {ρ : List Addr} {hp : Hm} {H : LHp} {T : Addr} {d e : D} {x y : LV} (hr : HRX X ρ hp H) (hn : H T = none) (r1 : RV X.K ρ H d x) (r2 : RV X.K ρ H e y) :
    RV X.K ρ (L2.upd H T (.tup [x, y])) (.tup [d, e]) (.ref T) ∧ TK H (L2.upd H T (.tup [x, y])) ∧ HRX X ρ hp (L2.upd H T (.tup [x, y])) := by
  have t : TK H (L2.upd H T (.tup [x, y])) := TK.new hn
  exact ⟨.tup (L2.SqT.of L2.upd_same) (.cons (r1.mono (List.prefix_refl _) t) (.cons (r2.mono (List.prefix_refl _) t) .nil)), t, hr.new hn⟩
omit hF in
/-- a list or a tuple that stays -/
theorem seq_stay {ρ0 : List Addr} {hp0 : Hm} {H0 : LHp} {d : D} {v : LV} {xs : List D} {l : List (Nat × Cell)} (hr0 : HRX X ρ0 hp0 H0) (rv : RV X.K ρ0 H0 d v) (e1 : seqOf hp0 d = some xs) (e2 : leanOn hp0 d = some l) :
    ∃ k a, v = .ref a ∧ (∃ ys, SqK k X.K H0 a ys) ∧ ∀ (ρ : List Addr) (hp : Hm) (H : LHp), ρ0 <+: ρ → TK H0 H → HRX X ρ hp H → still l hp → ∃ ys, SqK k X.K H a ys ∧ RVs X.K ρ H xs ys := by
  cases d <;> simp only [seqOf] at e1 <;> first | (cases e1; done) | skip
  · obtain ⟨a, ys, rfl, sq, r⟩ := rv.tup_inv
    cases e1
    exact ⟨false, a, rfl, ⟨ys, sq⟩, fun ρ hp H p t hr st => ⟨ys, t.sqT sq, r.mono p t⟩⟩
  · obtain ⟨a, rfl, ha⟩ := rv.ref_inv
    obtain ⟨c1, h1c, cc1⟩ := getL_cell e1
    simp only [leanOn, h1c, Option.map_some] at e2
    cases e2
    obtain ⟨a', zs, ha', sq, r⟩ := hr0.getL e1
    obtain rfl := ref_eq ha ha'
    exact ⟨true, a, rfl, ⟨zs, sq⟩, fun ρ hp H p t hr st => still_list (hp0 := hp) ha p cc1 (st _ (List.mem_singleton_self _)) hr⟩
theorem pi_zipM {a b : Expr} {elts : List Expr} {kk : Nat} {c c' : CE} {p pos tpos : PySem.Pos} {x : Str} (hx : x = PySem.Str.ofString "zip") (hg : L2.Gl X x) (hm : X.mg x = none) (ha : L2.PA X [a, b] (RA X F E [c, c'])) (hp : plainE a = true) (hp' : plainE b = true) : L2.PI X (.Tuple elts kk tpos) (.Call (.Name x p) [a, b] [] pos) (iM X F E .zip [c, c']) := by
  subst hx
  refine PI.imp (pi_zipMx hg hm ha (star_plain hp) (any_plain (by simp [hp']))) fun σ H R ⟨ρ, env, hp, hr, he, w⟩ => ⟨ρ, env, hp, hr, he, wpEs_mono hF [c, c'] E env hp _ _ (wpEs_len hF [c, c'] env hp _ w) fun ds h1 ⟨hl, q⟩ ρ1 H1 vs p1 t1 hr1 rv1 => ?_⟩
  obtain ⟨I, e, q⟩ := ws_iff.mp q
  rcases ds with _ | ⟨d, _ | ⟨d2, _ | ⟨d3, ds⟩⟩⟩ <;> try (simp at hl; done)
  obtain ⟨v, u, rfl, rv, ru⟩ := rv1.two_inv
  simp only [iterS, Option.bind_eq_some_iff, Option.map_eq_some_iff] at e
  obtain ⟨xs, e1, ys, e2, l, e3, m, e4, rfl⟩ := e
  obtain ⟨k, a1, rfl, ⟨q1, s1⟩, stay1⟩ := seq_stay hr1 rv e1 e3
  obtain ⟨k', b1, rfl, ⟨q2, s2⟩, stay2⟩ := seq_stay hr1 ru e2 e4
  refine ⟨k, k', a1, b1, q1, q2, rfl, s1, s2, q ρ1 H1 _ p1 t1 hr1 ⟨fun ρ hp H i d p t hr st hk => ?_, fun ρ hp H i p t hr st hk => ?_⟩⟩
  · obtain ⟨zs, sq, r⟩ := stay1 ρ hp H p t hr fun x hx => st x (List.mem_append_left _ hx)
    obtain ⟨ws, sq', r'⟩ := stay2 ρ hp H p t hr fun x hx => st x (List.mem_append_right _ hx)
    obtain ⟨x, y, h1, h2, rfl⟩ := zip_get hk
    obtain ⟨v, hv, rv⟩ := r.get h1
    obtain ⟨u, hu, ru⟩ := r'.get h2
    refine ⟨⟨zs, ws, v, u, sq, sq', hv, hu⟩, fun z H' ⟨T, x', y', e1, hn, e2, q1, q2⟩ => ?_⟩
    subst e1 e2
    have := q1 zs sq; rw [hv] at this; cases this
    have := q2 ws sq'; rw [hu] at this; cases this
    exact new_pair hr hn rv ru
  · obtain ⟨zs, sq, r⟩ := stay1 ρ hp H p t hr fun x hx => st x (List.mem_append_left _ hx)
    obtain ⟨ws, sq', r'⟩ := stay2 ρ hp H p t hr fun x hx => st x (List.mem_append_right _ hx)
    have l1 := r.length
    have l2 := r'.length
    have hz : (zipD xs ys).length = min xs.length ys.length := by unfold zipD; rw [List.length_zipWith]
    have hk : (zipD xs ys).length = i := hk
    exact ⟨zs, ws, sq, sq', by omega, by omega, by omega⟩
omit hF in
theorem enum_get {xs : List D} {i : Nat} {d : D} (h : (enumD xs)[i]? = some d) : ∃ x, xs[i]? = some x ∧ d = .tup [.int i, x] := by
  unfold enumD at h
  rw [List.getElem?_map, Option.map_eq_some_iff] at h
  obtain ⟨⟨x, j⟩, h1, h2⟩ := h
  rw [List.getElem?_zipIdx, Option.map_eq_some_iff] at h1
  obtain ⟨y, h3, h4⟩ := h1
  cases h4
  exact ⟨x, h3, by rw [← h2]; simp⟩
omit hF in
theorem walk_enumL {ρ0 : List Addr} {H0 : LHp} {i : Nat} {a : Addr} {c : Cell} {ds : List D} (ha : ρ0[i]? = some a) (hc : c = .lst ds ∨ c = .ro ds) : Walk X ρ0 H0 (L2.Ite X.K a) (enumD ds) [(i, c)] where
  go ρ hp H k d p t hr st hk := by
    obtain ⟨ys, sq, r⟩ := still_list (hp0 := hp) ha p hc (st (i, c) (by simp)) hr
    obtain ⟨x, h1, rfl⟩ := enum_get hk
    obtain ⟨v, hv, rv⟩ := r.get h1
    refine ⟨⟨ys, v, sq, hv⟩, fun z H' ⟨T, x', e1, hn, e2, q1⟩ => ?_⟩
    subst e1 e2
    have := q1 ys sq; rw [hv] at this; cases this
    exact new_pair hr hn (.int _) rv
  stop ρ hp H k p t hr st hk := by
    have hk := Nat.le_of_eq hk
    obtain ⟨ys, sq, r⟩ := still_list (hp0 := hp) ha p hc (st (i, c) (by simp)) hr
    exact ⟨ys, sq, by rw [← r.length]; simpa [enumD] using hk⟩
theorem pi_enumM {a : Expr} {elts : List Expr} {kk : Nat} {c : CE} {p pos tpos : PySem.Pos} {x : Str} (hx : x = PySem.Str.ofString "enumerate") (hg : L2.Gl X x) (hm : X.mg x = none) (ha : L2.PA X [a] (RA X F E [c])) (hp : plainE a = true) : L2.PI X (.Tuple elts kk tpos) (.Call (.Name x p) [a] [] pos) (iM X F E .enum [c]) := by
  subst hx
  refine PI.imp (L2.pi_enum hg hm ha (one_plain hp)) fun σ H R ⟨ρ, env, hp, hr, he, w⟩ => ⟨ρ, env, hp, hr, he, wpEs_mono hF [c] E env hp _ _ (wpEs_len hF [c] env hp _ w) fun ds h1 ⟨hl, q⟩ ρ1 H1 vs p1 t1 hr1 rv1 => ?_⟩
  obtain ⟨I, e, q⟩ := ws_iff.mp q
  rcases ds with _ | ⟨d, _ | ⟨d2, ds⟩⟩ <;> try (simp at hl; done)
  obtain ⟨v, rfl, rv⟩ := rv1.one_inv
  cases d <;> try (simp [iterS] at e; done)
  obtain ⟨a1, rfl, ha1⟩ := rv.ref_inv
  simp only [iterS, Option.bind_eq_some_iff, Option.map_eq_some_iff] at e
  obtain ⟨xs, e1, l, e3, rfl⟩ := e
  obtain ⟨c1, h1c, cc1⟩ := getL_cell e1
  simp only [leanOn, h1c, Option.map_some] at e3
  cases e3
  obtain ⟨a', zs, ha', sq, r⟩ := hr1.getL e1
  obtain rfl := ref_eq ha1 ha'
  exact ⟨a1, zs, rfl, sq, q ρ1 H1 _ p1 t1 hr1 (walk_enumL ha1 cc1)⟩
end
end M

end
section
set_option Elab.async false
set_option linter.all false
set_option autoImplicit false
set_option maxRecDepth 100000
set_option maxHeartbeats 4000000
/-! comprehensions -/
namespace M
open PySem (Addr Obj Value Str PyData Heap NestedKey Expr)
section
variable {X : L2.Cx} {F : FnS} (hF : FMono F) {E : XP}
/-- a clause's tests -/
def tsM (X : L2.Cx) (F : FnS) (cs : List CE) : L2.TT := fun σ H Q => ∃ ρ env hp, HRX X ρ hp H ∧ EnvR X.K ρ H env σ ∧ wpCs F cs env hp fun b hp' => ∀ ρ' H', ρ <+: ρ' → TK H H' → HRX X ρ' hp' H' → Q b H'
theorem PTs.imp {es : List Expr} {t t' : L2.TT} (h : L2.PTs X es t) (k : ∀ σ H Q, t' σ H Q → t σ H Q) : L2.PTs X es t' := ⟨fun pins s σ H Q I q => h.run pins s σ H Q I (k σ H Q q)⟩
theorem pts_nilM : L2.PTs X [] (tsM X F []) := PTs.imp L2.pts_nil fun σ H Q ⟨ρ, env, hp, hr, he, w⟩ => by
  unfold wpCs at w
  exact w ρ H (List.prefix_refl _) (TK.refl _) hr
include hF in
theorem pts_oneM {e : Expr} {c : CE} (h : L2.PT X e (RT X F (fun _ _ _ => False) c)) : L2.PTs X [e] (tsM X F [c]) := PTs.imp (L2.pts_one h) fun σ H Q ⟨ρ, env, hp, hr, he, w⟩ => by
  unfold wpCs at w
  refine ⟨ρ, env, hp, hr, he, wpE_mono hF c _ env hp _ _ w fun d h1 q => ws_mono q fun b q ρ' H' p t hr' => ?_⟩
  cases b with
  | true => unfold wpCs at q; exact q ρ' H' p t hr'
  | false => exact q ρ' H' p t hr'
theorem EnvR.wiped {K : PySem.W.Frag} {ρ : List Addr} {H : LHp} {env : Env} {σ σ' : L2.St} {vs : List Nat} (h : EnvR K ρ H env σ) (e : L2.wipe σ' vs = L2.wipe σ vs) (hl : σ'.length = σ.length) : EnvR K ρ H (wipeE env vs) σ' := by
  have a := h.wipe vs
  rw [← e] at a
  refine ⟨by rw [← a.1, L2.wipe_length], fun i d hd => ?_⟩
  obtain ⟨v, h1, h2⟩ := a.2 i d hd
  exact ⟨v, (L2.wipe_some h1).1, h2⟩
theorem drop_cons {α : Type} {xs : List α} {i : Nat} {x : α} {r : List α} (h : xs.drop i = x :: r) : xs[i]? = some x ∧ xs.drop (i + 1) = r := by
  have h1 : i < xs.length := by
    apply Classical.byContradiction
    intro z
    rw [List.drop_eq_nil_of_le (by omega)] at h
    cases h
  rw [List.drop_eq_getElem_cons h1] at h
  injection h with h2 h3
  exact ⟨by rw [List.getElem?_eq_getElem h1, h2], h3⟩
theorem drop_nil {α : Type} {xs : List α} {i : Nat} (h : xs.drop i = []) : xs.length ≤ i := by simpa using h
theorem getM_of {hp : Hm} {i : Nat} {ds : List D} (h : hp[i]? = some (.lst ds)) : getM hp i = some ds := by
  unfold getM; rw [h]
include hF
/-- the turns of a list comprehension -/
theorem lc_turns {k : IK} {it cs : List CE} {p : Pat} {elt : CE} {own : List Nat} (hs : ∀ i ∈ slotsP p, i ∈ own) {σ : L2.St} {H : LHp} {Q : L2.VK} (h : RE X F E (.comp own p k it cs elt) σ H Q) :
    L2.tLc (iM X F E k it) (gM X p) (tsM X F cs) (RE X F (fun _ _ _ => False) elt) own σ H Q := by
  obtain ⟨ρ, env, hp, hr, he, w⟩ := h
  unfold wpE at w
  refine ⟨ρ, env, hp, hr, he, wpEs_mono hF it E env hp _ _ w fun ds h1 q => ws_mono q fun I q ρ1 H1 J p1 t1 hr1 W => ?_⟩
  intro A hA
  -- the new list
  have c0 : CellX X (ρ1 ++ [A]) (L2.upd H1 A (.lst [])) A (.lst []) := ⟨[], L2.upd_same, .nil⟩
  have hr0 := hr1.alloc hA c0 fun _ z => nomatch z
  have t0 : TK H1 (L2.upd H1 A (.lst [])) := TK.new hA
  have hAi : (ρ1 ++ [A])[h1.length]? = some A := by rw [← hr1.len]; simp
  have he1 := he.mono p1 t1
  refine ⟨fun i m H2 => m = I.1.length - i ∧ i ≤ I.1.length ∧ ∃ ρ2 hp2, ρ1 ++ [A] <+: ρ2 ∧ TK (L2.upd H1 A (.lst [])) H2 ∧ HRX X ρ2 hp2 H2 ∧ compL I.2 h1.length (fun x h2 R => wpP p x (wipeE env own) fun e2 => wpCs F cs e2 h2 fun k h3 => if k = true then wpE F (fun _ _ _ => False) elt e2 h3 fun y h4 => R (some y) h4 else R none h3) (fun h5 => PVX X ρ H Q (.ref h1.length) h5) (I.1.drop i) hp2,
    ⟨_, rfl, Nat.zero_le _, ρ1 ++ [A], h1 ++ [.lst []], List.prefix_refl _, TK.refl _, hr0, by rw [List.drop_zero]; exact q⟩, ?_⟩
  rintro i m H2 ⟨rfl, hi, ρ2, hp2, p2, t2, hr2, w2⟩
  have p12 : ρ1 <+: ρ2 := (pre_snoc _ _).trans p2
  have t12 : TK H1 H2 := t0.trans t2
  cases hd : I.1.drop i with
  | nil =>
    rw [hd] at w2
    refine .inl ⟨W.stop ρ2 hp2 H2 i p12 t12 hr2 w2.1 (Nat.le_antisymm (drop_nil hd) hi), ?_⟩
    exact w2.2 ρ2 H2 _ (p1.trans p12) (t1.trans t12) hr2 (.ref (pre_get p2 hAi))
  | cons x r =>
    rw [hd] at w2
    obtain ⟨hx, hr'⟩ := drop_cons hd
    have hlt : i < I.1.length := (List.getElem?_eq_some_iff.mp hx).1
    obtain ⟨go, yl⟩ := W.go ρ2 hp2 H2 i x p12 t12 hr2 w2.1 hx
    refine .inr ⟨go, fun H3 => ∃ ρ3 hp3, ρ1 ++ [A] <+: ρ3 ∧ TK (L2.upd H1 A (.lst [])) H3 ∧ HRX X ρ3 hp3 H3 ∧ compL I.2 h1.length (fun x h2 R => wpP p x (wipeE env own) fun e2 => wpCs F cs e2 h2 fun k h3 => if k = true then wpE F (fun _ _ _ => False) elt e2 h3 fun y h4 => R (some y) h4 else R none h3) (fun h5 => PVX X ρ H Q (.ref h1.length) h5) r hp3, ?_, ?_⟩
    · rintro H3 ⟨ρ3, hp3, q1, q2, q3, q4⟩
      exact ⟨I.1.length - (i + 1), by omega, rfl, hlt, ρ3, hp3, q1, q2, q3, by rw [hr']; exact q4⟩
    · intro y H3 hy
      obtain ⟨rv, t3, hr3⟩ := yl y H3 hy
      have he3 : EnvR X.K ρ2 H3 (wipeE env own) (L2.wipe σ own) := (he1.mono p12 (t12.trans t3)).wipe own
      refine ⟨ρ2, wipeE env own, x, he3, rv, wpP_mono _ _ _ _ _ w2.2 fun e2 w4 σ2 he2 so => ⟨?_, ?_⟩⟩
      · rw [so.wipe hs, wipe_wipe]
      refine ⟨ρ2, e2, hp2, hr3, he2, wpCs_mono hF cs e2 hp2 _ _ w4 fun b h5 w5 ρ5 H5 p5 t5 hr5 => ?_⟩
      cases b with
      | false => exact ⟨ρ5, h5, p2.trans p5, t2.trans (t3.trans t5), hr5, w5⟩
      | true =>
        refine ⟨ρ5, e2, h5, hr5, he2.mono p5 t5, wpE_mono hF elt _ e2 h5 _ _ w5 fun d h6 w6 ρ6 H6 v p6 t6 hr6 rv6 => ?_⟩
        obtain ⟨acc, ea, w7⟩ := ws_iff.mp w6
        obtain ⟨a', ys, ha', hc', h1', h2'⟩ := hr6.getM ea
        have hA6 := pre_get (p2.trans (p5.trans p6)) hAi
        rw [hA6] at ha'
        cases ha'
        refine ⟨ys, h1', by rw [lim_eq, ← h2'.length]; exact w7.1, ρ6, _, p2.trans (p5.trans p6), ?_, ?_, w7.2⟩
        · exact t2.trans (t3.trans (t5.trans (t6.trans (TK.put h1' trivial))))
        · have t7 : TK H6 (L2.upd H6 A (.lst (ys ++ [v]))) := TK.put h1' trivial
          exact hr6.put hA6 hc' (fun _ z => nomatch z) h1' trivial (fun _ z => nomatch z) ⟨_, L2.upd_same, (h2'.append (.cons rv6 .nil)).mono (List.prefix_refl _) t7⟩
theorem pe_compM {elt tg iter : Expr} {ifs : List Expr} {scope : PySem.Scope} {own : List (Str × Nat)} {pos : PySem.Pos} {k : IK} {it cs : List CE} {p : Pat} {ce : CE} (hs : ∀ i ∈ slotsP p, i ∈ own.map (·.2)) (hc : X.calm = true) (hN : X.N.Nodup) (hi : L2.PI X tg iter (iM X F E k it)) (ok : L2.BlkOk X.N X.env.scope scope own)
    (hg : ∀ (s : PySem.Shared) (H : LHp) (C : Addr) (cl : List (Str × Addr)) (fp : List Addr), L2.PG (X.blk s H scope (PySem.compEnvC scope cl C X.env) fp) tg (gM X p)) (ht : ∀ (s : PySem.Shared) (H : LHp) (C : Addr) (cl : List (Str × Addr)) (fp : List Addr), L2.PTs (X.blk s H scope (PySem.compEnvC scope cl C X.env) fp) ifs (tsM X F cs))
    (he : ∀ (s : PySem.Shared) (H : LHp) (C : Addr) (cl : List (Str × Addr)) (fp : List Addr), L2.PE (X.blk s H scope (PySem.compEnvC scope cl C X.env) fp) elt (RE X F (fun _ _ _ => False) ce)) (hsi : ∀ x, PySem.foldedSetIterable iter X.env x = pure x) :
    L2.PE X (.ListComp elt [⟨tg, iter, ifs, 0⟩] scope pos) (RE X F E (.comp (own.map (·.2)) p k it cs ce)) :=
  PE.imp (L2.pe_lc hc hN hi ok hg ht he hsi) fun σ H Q h => lc_turns hF hs h
theorem ps_compM {i : Nat} {y : Str} {py : PySem.Pos} {elt tg iter : Expr} {ifs : List Expr} {scope : PySem.Scope} {own : List (Str × Nat)} {pos spos : PySem.Pos} {k : IK} {it cs : List CE} {p : Pat} {ce : CE} (hs : ∀ i ∈ slotsP p, i ∈ own.map (·.2)) (hc : X.calm = true) (hN : X.N.Nodup) (hy : X.N[i]? = some y) (hyl : X.env.scope.names.lookup y = some .local)
    (hsw : PySem.swapsWith (.ListComp elt [⟨tg, iter, ifs, 0⟩] scope pos) (some (.Name y py)) spos.line X.env = pure true) (hi : L2.PI X tg iter (iM X F E k it)) (ok : L2.BlkOk X.N X.env.scope scope own)
    (hg : ∀ (s : PySem.Shared) (H : LHp) (C : Addr) (cl : List (Str × Addr)) (fp : List Addr), L2.PG (X.blk s H scope (PySem.compEnvC scope cl C X.env) fp) tg (gM X p)) (ht : ∀ (s : PySem.Shared) (H : LHp) (C : Addr) (cl : List (Str × Addr)) (fp : List Addr), L2.PTs (X.blk s H scope (PySem.compEnvC scope cl C X.env) fp) ifs (tsM X F cs))
    (he : ∀ (s : PySem.Shared) (H : LHp) (C : Addr) (cl : List (Str × Addr)) (fp : List Addr), L2.PE (X.blk s H scope (PySem.compEnvC scope cl C X.env) fp) elt (RE X F (fun _ _ _ => False) ce)) (hsi : ∀ x, PySem.foldedSetIterable iter X.env x = pure x) :
    L2.PS X (.Assign [.Name y py] (.ListComp elt [⟨tg, iter, ifs, 0⟩] scope pos) spos) (L2.tAsg (RE X F E (.comp (own.map (·.2)) p k it cs ce)) (L2.gName i)) :=
  PS.imp (L2.ps_setLc hc hN hy hyl hsw hi ok hg ht he hsi) fun D σ H h => lc_turns hF hs h
/-- the turns of a dict comprehension -/
theorem dc_turns {k : IK} {it cs : List CE} {p : Pat} {ke va : CE} {own : List Nat} (hs : ∀ i ∈ slotsP p, i ∈ own) {σ : L2.St} {H : LHp} {Q : L2.VK} (h : RE X F E (.dcomp own p k it cs ke va) σ H Q) :
    L2.tDc (iM X F E k it) (gM X p) (tsM X F cs) (RE X F (fun _ _ _ => False) ke) (RE X F (fun _ _ _ => False) va) own σ H Q := by
  obtain ⟨ρ, env, hp, hr, he, w⟩ := h
  unfold wpE at w
  refine ⟨ρ, env, hp, hr, he, wpEs_mono hF it E env hp _ _ w fun ds h1 q => ws_mono q fun I q ρ1 H1 J p1 t1 hr1 W => ?_⟩
  intro A hA
  have c0 : CellX X (ρ1 ++ [A]) (L2.upd H1 A (.dK [])) A (.dct []) := .inl ⟨[], L2.upd_same, .nil, Nat.zero_le _⟩
  have hr0 := hr1.alloc hA c0 fun _ z => nomatch z
  have t0 : TK H1 (L2.upd H1 A (.dK [])) := TK.new hA
  have hAi : (ρ1 ++ [A])[h1.length]? = some A := by rw [← hr1.len]; simp
  have he1 := he.mono p1 t1
  refine ⟨fun i m H2 => m = I.1.length - i ∧ i ≤ I.1.length ∧ ∃ ρ2 hp2, ρ1 ++ [A] <+: ρ2 ∧ TK (L2.upd H1 A (.dK [])) H2 ∧ HRX X ρ2 hp2 H2 ∧ dcompL I.2 h1.length (fun x h2 R => wpP p x (wipeE env own) fun e2 => wpCs F cs e2 h2 fun k h3 => if k = true then wpE F (fun _ _ _ => False) ke e2 h3 fun y h4 => wpE F (fun _ _ _ => False) va e2 h4 fun z h5 => R (some (y, z)) h5 else R none h3) (fun h5 => PVX X ρ H Q (.ref h1.length) h5) (I.1.drop i) hp2,
    ⟨_, rfl, Nat.zero_le _, ρ1 ++ [A], h1 ++ [.dct []], List.prefix_refl _, TK.refl _, hr0, by rw [List.drop_zero]; exact q⟩, ?_⟩
  rintro i m H2 ⟨rfl, hi, ρ2, hp2, p2, t2, hr2, w2⟩
  have p12 : ρ1 <+: ρ2 := (pre_snoc _ _).trans p2
  have t12 : TK H1 H2 := t0.trans t2
  cases hd : I.1.drop i with
  | nil =>
    rw [hd] at w2
    refine .inl ⟨W.stop ρ2 hp2 H2 i p12 t12 hr2 w2.1 (Nat.le_antisymm (drop_nil hd) hi), ?_⟩
    exact w2.2 ρ2 H2 _ (p1.trans p12) (t1.trans t12) hr2 (.ref (pre_get p2 hAi))
  | cons x r =>
    rw [hd] at w2
    obtain ⟨hx, hr'⟩ := drop_cons hd
    have hlt : i < I.1.length := (List.getElem?_eq_some_iff.mp hx).1
    obtain ⟨go, yl⟩ := W.go ρ2 hp2 H2 i x p12 t12 hr2 w2.1 hx
    refine .inr ⟨go, fun H3 => ∃ ρ3 hp3, ρ1 ++ [A] <+: ρ3 ∧ TK (L2.upd H1 A (.dK [])) H3 ∧ HRX X ρ3 hp3 H3 ∧ dcompL I.2 h1.length (fun x h2 R => wpP p x (wipeE env own) fun e2 => wpCs F cs e2 h2 fun k h3 => if k = true then wpE F (fun _ _ _ => False) ke e2 h3 fun y h4 => wpE F (fun _ _ _ => False) va e2 h4 fun z h5 => R (some (y, z)) h5 else R none h3) (fun h5 => PVX X ρ H Q (.ref h1.length) h5) r hp3, ?_, ?_⟩
    · rintro H3 ⟨ρ3, hp3, q1, q2, q3, q4⟩
      exact ⟨I.1.length - (i + 1), by omega, rfl, hlt, ρ3, hp3, q1, q2, q3, by rw [hr']; exact q4⟩
    · intro y H3 hy
      obtain ⟨rv, t3, hr3⟩ := yl y H3 hy
      have he3 : EnvR X.K ρ2 H3 (wipeE env own) (L2.wipe σ own) := (he1.mono p12 (t12.trans t3)).wipe own
      refine ⟨ρ2, wipeE env own, x, he3, rv, wpP_mono _ _ _ _ _ w2.2 fun e2 w4 σ2 he2 so => ⟨?_, ?_⟩⟩
      · rw [so.wipe hs, wipe_wipe]
      refine ⟨ρ2, e2, hp2, hr3, he2, wpCs_mono hF cs e2 hp2 _ _ w4 fun b h5 w5 ρ5 H5 p5 t5 hr5 => ?_⟩
      cases b with
      | false => exact ⟨ρ5, h5, p2.trans p5, t2.trans (t3.trans t5), hr5, w5⟩
      | true =>
        refine ⟨ρ5, e2, h5, hr5, he2.mono p5 t5, wpE_mono hF ke _ e2 h5 _ _ w5 fun d h6 w6 ρ6 H6 v p6 t6 hr6 rv6 => ?_⟩
        refine ⟨ρ6, e2, h6, hr6, he2.mono (p5.trans p6) (t5.trans t6), wpE_mono hF va _ e2 h6 _ _ w6 fun d7 h7 w7 ρ7 H7 v7 p7 t7 hr7 rv7 => ?_⟩
        obtain ⟨acc, ea, w8⟩ := ws_iff.mp w7
        have hA7 := pre_get (p2.trans (p5.trans (p6.trans p7))) hAi
        have hx7 := getK_at ea
        have hc7 := hr7.ok _ A _ hA7 hx7
        obtain ⟨kvs', kk, e7, lk, hkk, _⟩ := leaf_of hc7 w8.1.1 w8.1.2
        have rk := rv6.mono p7 t7
        obtain rfl := leaf_rv hkk rk
        refine ⟨kvs', kk, rfl, e7, by rw [lim_eq, ← lk.length]; exact w8.2.1, ρ7, _, p2.trans (p5.trans (p6.trans p7)), ?_, ?_, w8.2.2⟩
        · exact t2.trans (t3.trans (t5.trans (t6.trans (t7.trans (TK.put e7 trivial)))))
        · have t8 : TK H7 (L2.upd H7 A (.dK (L2.putK kvs' kk v7))) := TK.put e7 trivial
          refine hr7.put hA7 hx7 (fun _ z => nomatch z) e7 trivial (fun _ z => nomatch z) (.inl ⟨_, L2.upd_same, (lk.put hkk rk rv7).mono (List.prefix_refl _) t8, ?_⟩)
          have := dput_length acc d d7
          have := w8.2.1
          show (dput acc d d7).length ≤ LIM
          omega
theorem pe_dcompM {kx vx tg iter : Expr} {ifs : List Expr} {scope : PySem.Scope} {own : List (Str × Nat)} {pos : PySem.Pos} {k : IK} {it cs : List CE} {p : Pat} {ck cv : CE} (hs : ∀ i ∈ slotsP p, i ∈ own.map (·.2)) (hc : X.calm = true) (hN : X.N.Nodup) (hi : L2.PI X tg iter (iM X F E k it)) (ok : L2.BlkOk X.N X.env.scope scope own)
    (hg : ∀ (s : PySem.Shared) (H : LHp) (C : Addr) (cl : List (Str × Addr)) (fp : List Addr), L2.PG (X.blk s H scope (PySem.compEnvC scope cl C X.env) fp) tg (gM X p)) (ht : ∀ (s : PySem.Shared) (H : LHp) (C : Addr) (cl : List (Str × Addr)) (fp : List Addr), L2.PTs (X.blk s H scope (PySem.compEnvC scope cl C X.env) fp) ifs (tsM X F cs))
    (hk : ∀ (s : PySem.Shared) (H : LHp) (C : Addr) (cl : List (Str × Addr)) (fp : List Addr), L2.PE (X.blk s H scope (PySem.compEnvC scope cl C X.env) fp) kx (RE X F (fun _ _ _ => False) ck))
    (he : ∀ (s : PySem.Shared) (H : LHp) (C : Addr) (cl : List (Str × Addr)) (fp : List Addr), L2.PE (X.blk s H scope (PySem.compEnvC scope cl C X.env) fp) vx (RE X F (fun _ _ _ => False) cv)) (hsi : ∀ x, PySem.foldedSetIterable iter X.env x = pure x) :
    L2.PE X (.DictComp kx vx [⟨tg, iter, ifs, 0⟩] scope pos) (RE X F E (.dcomp (own.map (·.2)) p k it cs ck cv)) :=
  PE.imp (L2.pe_dc hc hN hi ok hg ht hk he hsi) fun σ H Q h => dc_turns hF hs h
end
end M

end
section
set_option Elab.async false
set_option linter.all false
set_option autoImplicit false
set_option maxRecDepth 100000
set_option maxHeartbeats 4000000
/-! statements -/
namespace M
open PySem (Addr Obj Value Str PyData Heap NestedKey Expr Stmt)
/-- mini's ends ask for the layer's -/
structure EndsR (X : L2.Cx) (ρ : List Addr) (H : LHp) (Z : Ends) (D : L2.Ends) : Prop where
  nx : ∀ e' h' ρ' H' σ', Z.nx e' h' → ρ <+: ρ' → TK H H' → HRX X ρ' h' H' → EnvR X.K ρ' H' e' σ' → D.nx σ' H'
  rt : ∀ d h', Z.rt d h' → PVX X ρ H D.rt d h'
  bk : ∀ e' h' ρ' H' σ', Z.bk e' h' → ρ <+: ρ' → TK H H' → HRX X ρ' h' H' → EnvR X.K ρ' H' e' σ' → D.bk σ' H'
  ct : ∀ e' h' ρ' H' σ', Z.ct e' h' → ρ <+: ρ' → TK H H' → HRX X ρ' h' H' → EnvR X.K ρ' H' e' σ' → D.ct σ' H'
theorem EndsR.weak {X : L2.Cx} {ρ ρ1 : List Addr} {H H1 : LHp} {Z : Ends} {D : L2.Ends} (h : EndsR X ρ H Z D) (p : ρ <+: ρ1) (t : TK H H1) : EndsR X ρ1 H1 Z D :=
  ⟨fun e' h' ρ' H' σ' z p' t' => h.nx e' h' ρ' H' σ' z (p.trans p') (t.trans t'), fun d h' z => PV.weak p t (h.rt d h' z), fun e' h' ρ' H' σ' z p' t' => h.bk e' h' ρ' H' σ' z (p.trans p') (t.trans t'), fun e' h' ρ' H' σ' z p' t' => h.ct e' h' ρ' H' σ' z (p.trans p') (t.trans t')⟩
/-- a statement's reading -/
def rS (X : L2.Cx) (W : Env → Hm → Ends → Prop) : L2.TS := fun D σ H => ∃ ρ env hp Z, HRX X ρ hp H ∧ EnvR X.K ρ H env σ ∧ W env hp Z ∧ EndsR X ρ H Z D
section
variable {X : L2.Cx} {F : FnS} (hF : FMono F) {E : XP}
abbrev RS (X : L2.Cx) (F : FnS) (E : XP) (c : CS) : L2.TS := rS X (wpS F E c)
abbrev RSs (X : L2.Cx) (F : FnS) (E : XP) (cs : List CS) : L2.TS := rS X (wpSs F E cs)
theorem pss_nilM : L2.PSs X [] (RSs X F E []) := PSs.imp L2.pss_nil fun D σ H ⟨ρ, env, hp, Z, hr, he, w, z⟩ => by
  unfold wpSs at w
  exact z.nx _ _ ρ H σ w (List.prefix_refl _) (TK.refl _) hr he
theorem pss_consM {st : Stmt} {rest : List Stmt} {c : CS} {cs : List CS} (h1 : L2.PS X st (RS X F E c)) (h2 : L2.PSs X rest (RSs X F E cs)) : L2.PSs X (st :: rest) (RSs X F E (c :: cs)) :=
  PSs.imp (L2.pss_cons h1 h2) fun D σ H ⟨ρ, env, hp, Z, hr, he, w, z⟩ => by
    unfold wpSs at w
    refine ⟨ρ, env, hp, _, hr, he, w, ⟨fun e' h' ρ' H' σ' q p t hr' he' => ?_, z.rt, z.bk, z.ct⟩⟩
    exact ⟨ρ', e', h', Z, hr', he', q, z.weak p t⟩
/-- a docstring, or any text that stands alone -/
theorem pss_docM {x : Str} {j : Nat} {pos pos' : PySem.Pos} {rest : List Stmt} {cs : List CS} (h2 : L2.PSs X rest (RSs X F E cs)) : L2.PSs X (.Expr (.Constant (.str x) j pos) pos' :: rest) (RSs X F E cs) :=
  PSs.imp (L2.pss_cons L2.ps_doc h2) fun D σ H h => h
theorem ps_passM {pos : PySem.Pos} : L2.PS X (.Pass pos) (RS X F E .pass) := PS.imp L2.ps_pass fun D σ H ⟨ρ, env, hp, Z, hr, he, w, z⟩ => by
  unfold wpS at w
  exact z.nx _ _ ρ H σ w (List.prefix_refl _) (TK.refl _) hr he
theorem ps_brkM {pos : PySem.Pos} : L2.PS X (.Break pos) (RS X F E .brk) := PS.imp L2.ps_break fun D σ H ⟨ρ, env, hp, Z, hr, he, w, z⟩ => by
  unfold wpS at w
  exact z.bk _ _ ρ H σ w (List.prefix_refl _) (TK.refl _) hr he
theorem ps_contM {pos : PySem.Pos} : L2.PS X (.Continue pos) (RS X F E .cont) := PS.imp L2.ps_continue fun D σ H ⟨ρ, env, hp, Z, hr, he, w, z⟩ => by
  unfold wpS at w
  exact z.ct _ _ ρ H σ w (List.prefix_refl _) (TK.refl _) hr he
/-- no comprehension -/
def noComp : Expr → Bool
  | .ListComp _ _ _ _ => false
  | .SetComp _ _ _ _ => false
  | .DictComp _ _ _ _ _ => false
  | _ => true
theorem swap_no {e : Expr} {t : Option Expr} {l : Nat} {env : PySem.Env} (h : noComp e = true) : PySem.swapsWith e t l env = pure false := by
  cases e <;> first | rfl | exact Bool.noConfusion h
theorem swaps_no {e t : Expr} {l : Nat} {env : PySem.Env} (h : noComp e = true) : PySem.swapsWithSole [t] e l env = pure false := swap_no h
include hF
theorem ps_exprM {e : Expr} {c : CE} {pos : PySem.Pos} (h : L2.PE X e (RE X F E c)) (hn : noComp e = true) : L2.PS X (.Expr e pos) (RS X F E (.expr c)) := PS.imp (L2.ps_expr h (swap_no hn)) fun D σ H ⟨ρ, env, hp, Z, hr, he, w, z⟩ => by
  unfold wpS at w
  exact ⟨ρ, env, hp, hr, he, wpE_mono hF c E env hp _ _ w fun d h1 q ρ1 H1 v p t hr1 rv => z.nx _ _ ρ1 H1 σ q p t hr1 (he.mono p t)⟩
theorem ps_retM {e : Expr} {c : CE} {pos : PySem.Pos} (h : L2.PE X e (RE X F E c)) : L2.PS X (.Return (some e) pos) (RS X F E (.ret c)) := PS.imp (L2.ps_ret h) fun D σ H ⟨ρ, env, hp, Z, hr, he, w, z⟩ => by
  unfold wpS at w
  exact ⟨ρ, env, hp, hr, he, wpE_mono hF c E env hp _ _ w fun d h1 q => z.rt d h1 q⟩
omit hF in
theorem ps_retNM {pos : PySem.Pos} : L2.PS X (.Return none pos) (RS X F E (.ret (.lit .non))) := PS.imp L2.ps_retN fun D σ H ⟨ρ, env, hp, Z, hr, he, w, z⟩ => by
  unfold wpS wpE at w
  exact PV.here (z.rt _ _ w) hr .non
theorem ps_ifM {c : Expr} {a b : List Stmt} {cc : CE} {ca cb : List CS} {pos : PySem.Pos} (hc : L2.PT X c (RT X F E cc)) (ha : L2.PSs X a (RSs X F E ca)) (hb : L2.PSs X b (RSs X F E cb)) : L2.PS X (.If c a b pos) (RS X F E (.ite cc ca cb)) :=
  PS.imp (L2.ps_if hc ha hb) fun D σ H ⟨ρ, env, hp, Z, hr, he, w, z⟩ => by
    unfold wpS at w
    refine ⟨ρ, env, hp, hr, he, wpE_mono hF cc E env hp _ _ w fun d h1 q => ws_mono q fun k q ρ1 H1 p t hr1 => ?_⟩
    cases k with
    | true => exact ⟨ρ1, env, h1, Z, hr1, he.mono p t, q, z.weak p t⟩
    | false => exact ⟨ρ1, env, h1, Z, hr1, he.mono p t, q, z.weak p t⟩
theorem rd_asg {p : Pat} {c : CE} {D : L2.Ends} {σ : L2.St} {H : LHp} (h : RS X F E (.asg p c) D σ H) : L2.tAsg (RE X F E c) (gM X p) D σ H := by
  obtain ⟨ρ, env, hp, Z, hr, he, w, z⟩ := h
  unfold wpS at w
  refine ⟨ρ, env, hp, hr, he, wpE_mono hF c E env hp _ _ w fun d h1 q ρ1 H1 v p t hr1 rv => ?_⟩
  exact ⟨ρ1, env, d, he.mono p t, rv, wpP_mono _ _ _ _ _ q fun e2 q σ2 he2 _ => z.nx _ _ ρ1 H1 σ2 q p t hr1 he2⟩
omit hF in
theorem asg_one {t : Expr} {env : PySem.Env} (h : plainE t = true) : (PySem.assignEach [t] env).map (·.2) = [PySem.assign t env] := by rw [each_plain h]; rfl
/-- target = value, stored in the common way -/
theorem ps_asgM {tg e : Expr} {p : Pat} {c : CE} {pos : PySem.Pos} (he : L2.PE X e (RE X F E c)) (hg : L2.PG X tg (gM X p)) (hp : plainE tg = true) (hs : PySem.swapsWithSole [tg] e pos.line X.env = pure false) (hw : PySem.swappedStores [tg] e X.env = pure none) : L2.PS X (.Assign [tg] e pos) (RS X F E (.asg p c)) :=
  PS.imp (L2.ps_asg he hg hs hw (asg_one hp)) fun D σ H h => rd_asg hF h
/-- x = [..], on one line -/
theorem ps_asgcM {i : Nat} {y : Str} {py spos : PySem.Pos} {e : Expr} {c : CE} (h : L2.PS X (.Assign [.Name y py] e spos) (L2.tAsg (RE X F E c) (L2.gName i))) : L2.PS X (.Assign [.Name y py] e spos) (RS X F E (.asg (.slot i) c)) :=
  PS.imp h fun D σ H ⟨ρ, env, hp, Z, hr, he, w, z⟩ => by
    unfold wpS at w
    refine ⟨ρ, env, hp, hr, he, wpE_mono hF c E env hp _ _ w fun d h1 q ρ1 H1 v p t hr1 rv => ?_⟩
    unfold wpP at q
    exact z.nx _ _ ρ1 H1 _ q.2 p t hr1 ((he.mono p t).set rv)
/-- a, b = x, y -/
theorem ps_parM {i j : Nat} {x y : Str} {a b : Expr} {ca cb : CE} {px py pt pos : PySem.Pos} {kt k2 : Nat} {pt2 : PySem.Pos} (hc : X.calm = true) (hN : X.N.Nodup) (hi : X.N[i]? = some x) (hj : X.N[j]? = some y) (hij : i ≠ j)
    (hx : X.env.scope.names.lookup x = some .local) (hy : X.env.scope.names.lookup y = some .local) (ha : L2.PA X [a, b] (RA X F E [ca, cb]))
    (hw : PySem.swappedStores [.Tuple [.Name x px, .Name y py] kt pt] (.Tuple [a, b] k2 pt2) X.env = pure (some [x, y])) :
    L2.PS X (.Assign [.Tuple [.Name x px, .Name y py] kt pt] (.Tuple [a, b] k2 pt2) pos) (RS X F E (.asg (.tup [.slot i, .slot j]) (.tup [ca, cb]))) :=
  PS.imp (L2.ps_par hc hN hi hj hij hx hy ha hw rfl) fun D σ H ⟨ρ, env, hp, Z, hr, he, w, z⟩ => by
    unfold wpS wpE at w
    refine ⟨ρ, env, hp, hr, he, wpEs_mono hF [ca, cb] E env hp _ _ w fun ds h1 q ρ1 H1 vs p t hr1 rv => ?_⟩
    unfold wpP at q
    have hl := wpPs_len _ _ _ _ q
    rcases ds with _ | ⟨d, _ | ⟨d2, _ | ⟨d3, ds⟩⟩⟩ <;> try (simp at hl; done)
    obtain ⟨v, u, rfl, rv, ru⟩ := rv.two_inv
    unfold wpPs wpP wpPs wpP wpPs at q
    exact ⟨v, u, rfl, z.nx _ _ ρ1 H1 _ q.2.2 p t hr1 (((he.mono p t).set rv).set ru)⟩
/-- o[i] = e -/
theorem ps_subM (hu : X.A.units + 80 < PySem.cLine) {o i e : Expr} {co ci c : CE} {pos tpos : PySem.Pos} (ho : L2.PE X o (RE X F E co)) (hi : L2.PE X i (RE X F E ci)) (he : L2.PE X e (RE X F E c)) (hn : noComp e = true) (hw : PySem.swappedStores [.Subscript o i tpos] e X.env = pure none)
    (ha : ∀ v, PySem.assign (.Subscript o i tpos) X.env v = (do
      let ov ← PySem.holding [v] (PySem.eval o X.env)
      let iv ← PySem.holding [v, ov] (PySem.eval i X.env)
      PySem.standAt tpos
      PySem.holding [v, ov, iv] (PySem.setItem ov iv v)
      PySem.release [v, ov, iv] [])) : L2.PS X (.Assign [.Subscript o i tpos] e pos) (RS X F E (.set co ci c)) :=
  PS.imp (L2.ps_asg he (L2.pg_sub ho hi (set_M hu) ha) (swaps_no hn) hw rfl) fun D σ H ⟨ρ, env, hp, Z, hr, he, w, z⟩ => by
    unfold wpS at w
    refine ⟨ρ, env, hp, hr, he, wpE_mono hF c E env hp _ _ w fun d h1 q ρ1 H1 v p1 t1 hr1 rv => ?_⟩
    refine ⟨ρ1, env, h1, hr1, he.mono p1 t1, wpE_mono hF co E env h1 _ _ q fun d2 h2 q ρ2 H2 v2 p2 t2 hr2 rv2 => ?_⟩
    refine ⟨ρ2, env, h2, hr2, he.mono (p1.trans p2) (t1.trans t2), wpE_mono hF ci E env h2 _ _ q fun d3 h3 q ρ3 H3 v3 p3 t3 hr3 rv3 => ?_⟩
    obtain ⟨h4, e4, q⟩ := ws_iff.mp q
    refine ⟨ρ3, h3, d2, d3, d, h4, hr3, rv2.mono p3 t3, rv3, rv.mono (p2.trans p3) (t2.trans t3), e4, fun H4 t4 hr4 => ?_⟩
    exact z.nx _ _ ρ3 H4 σ q (p1.trans (p2.trans p3)) (t1.trans (t2.trans (t3.trans t4))) hr4 (he.mono (p1.trans (p2.trans p3)) (t1.trans (t2.trans (t3.trans t4))))
end
end M

end
section
set_option Elab.async false
set_option linter.all false
set_option autoImplicit false
set_option maxRecDepth 100000
set_option maxHeartbeats 4000000
/-! op=, loops -/
namespace M
open PySem (Addr Obj Value Str PyData Heap NestedKey Expr Stmt)
section
variable {X : L2.Cx} {F : FnS} (hF : FMono F) {E : XP}
/-- op= by values -/
def bopK : Bop → Option PySem.Operator
  | .add => some .Add
  | .sub => some .Sub
  | .mul => some .Mult
  | _ => none
theorem PIp.imp {op : PySem.Operator} {t t' : L2.TIp} (h : L2.PIp X op t) (k : ∀ x y H Q, t' x y H Q → t x y H Q) : L2.PIp X op t' := fun pins s σ H x y v u Q I rx ry q => h pins s σ H x y v u Q I rx ry (k _ _ _ _ q)
theorem PIp.of {op : PySem.Operator} {r : L2.R2} (h : L2.OpR X (PySem.inplaceOp op) r) : L2.PIp X op r := h
theorem ip_augM {b : Bop} {op : PySem.Operator} (h : bopK b = some op) : L2.PIp X op (liftR X (augS b)) := by
  cases b <;> simp only [bopK] at h <;> first | (cases h; done) | skip
  · cases h
    refine PIp.imp (PIp.of (L2.iop_add.or L2.iop_add_str)) fun v u H Q ⟨ρ, hp, x, y, r, hr, rx, ry, e, q⟩ => ?_
    cases x <;> cases y <;> simp only [augS] at e <;> first | (cases e; done) | skip
    · cases e
      obtain rfl := rx.int_inv; obtain rfl := ry.int_inv
      exact .inl ⟨_, _, rfl, rfl, PV.here q hr (.int _)⟩
    · split at e
      · rename_i hl
        cases e
        obtain ⟨rfl, h1⟩ := rx.str_inv
        obtain ⟨rfl, h2⟩ := ry.str_inv
        refine .inr ⟨_, _, rfl, rfl, by rw [str_len, str_len, lim_eq]; exact hl, ?_⟩
        rw [str_app]
        exact PV.here q hr (.str _ (sOK_app h1 h2 hl))
      · cases e
  · cases h
    refine PIp.imp (PIp.of L2.iop_sub) fun v u H Q ⟨ρ, hp, x, y, r, hr, rx, ry, e, q⟩ => ?_
    cases x <;> cases y <;> simp only [augS] at e <;> first | (cases e; done) | skip
    cases e
    obtain rfl := rx.int_inv; obtain rfl := ry.int_inv
    exact ⟨_, _, rfl, rfl, PV.here q hr (.int _)⟩
  · cases h
    refine PIp.imp (PIp.of L2.iop_mul) fun v u H Q ⟨ρ, hp, x, y, r, hr, rx, ry, e, q⟩ => ?_
    cases x <;> cases y <;> simp only [augS] at e <;> first | (cases e; done) | skip
    split at e
    · rename_i c
      cases e
      obtain rfl := rx.int_inv; obtain rfl := ry.int_inv
      unfold LINT at c
      refine ⟨_, _, rfl, rfl, ?_, PV.here q hr (.int _)⟩
      rcases c with c | c
      · exact .inl ⟨by omega, by omega⟩
      · exact .inr ⟨by omega, by omega⟩
    · cases e
include hF
theorem ps_augM {i : Nat} {x : Str} {e : Expr} {c : CE} {b : Bop} {op : PySem.Operator} {pos' pos : PySem.Pos} (hb : bopK b = some op) (hN : X.N.Nodup) (hi : X.N[i]? = some x) (hx : L2.Loc X.env.scope x) (hf : X.fn x = true ∨ X.env.scope.names.lookup x = some .local) (he : L2.PE X e (RE X F E c)) : L2.PS X (.AugAssign (.Name x pos') op e pos) (RS X F E (.aug i b c)) :=
  PS.imp (L2.ps_aug hN hi hx he (ip_augM hb) hf) fun D σ H ⟨ρ, env, hp, Z, hr, he0, w, z⟩ => by
    unfold wpS at w
    cases ei : env[i]? with
    | none => rw [ei] at w; exact w.elim
    | some o =>
      rw [ei] at w
      cases o with
      | none => exact w.elim
      | some d =>
        obtain ⟨v, h1, h2⟩ := he0.2 i d ei
        have w : wpE F E c env hp fun y h1 => ws (augS b d y h1) fun r => Z.nx (env.set i (some r.1)) r.2 := w
        refine ⟨v, h1, ρ, env, hp, hr, he0, wpE_mono hF c E env hp _ _ w fun y h3 q ρ1 H1 u p1 t1 hr1 ru => ?_⟩
        obtain ⟨r, e, q⟩ := ws_iff.mp q
        exact ⟨ρ1, h3, d, y, r, hr1, h2.mono p1 t1, ru, e, fun ρ2 H2 v2 p2 t2 hr2 rv2 => z.nx _ _ ρ2 H2 _ q (p1.trans p2) (t1.trans t2) hr2 ((he0.mono (p1.trans p2) (t1.trans t2)).set rv2)⟩
omit hF in
/-- o[i], by values alone -/
theorem get_M (hu : X.A.units + 80 < PySem.cLine) : L2.PGet X (liftR X fun x y h => match x with
    | .ref _ => (idxS x y h).map fun d => (d, h)
    | _ => none) := by
  intro pins s σ H o i ov iv Q I ro ri h
  obtain ⟨ρ, hp, x, y, r, hr, rx, ry, e0, q⟩ := h
  cases x <;> simp only at e0 <;> first | (cases e0; done) | skip
  obtain ⟨d, e, hd⟩ := Option.map_eq_some_iff.mp e0
  subst hd
  simp only [idxS] at e
  obtain ⟨a, rfl, ha⟩ := rx.ref_inv
  have lst : ∀ {xs : List D} {k : Int} {ys : List LV}, L2.SqL X.K H a ys → RVs X.K ρ H xs ys → y = .int k → atI xs k = some d → PySem.wpAny (PySem.model X.prog X.w) X.A (PySem.getItem ov iv) (L2.EP X pins σ Q) X.xe s := by
    intro xs k ys sq r1 hy e5
    rw [hy] at ry
    obtain rfl := ry.int_inv
    obtain ⟨w, e2, rw'⟩ := at_get r1 e5
    cases ro
    obtain ⟨t, rfl⟩ := ri
    obtain ⟨its, r, pl, hz⟩ := I.list sq
    obtain ⟨j, h1, h2, h3, h4, h5⟩ := L2.atI_get e2
    obtain ⟨u, ew, ru⟩ := r.get h2
    have hl := r.length
    have hn := L2.line63
    have fin : L2.EP X pins σ Q u s := ⟨w, H, I, ru, PV.here q hr rw'⟩
    by_cases h0 : 0 ≤ k
    · have hj : k.toNat = j := by
        rw [PySem.seqIndex_of h0 h5] at h1
        exact Option.some.inj h1
      exact PySem.wpAny_getItem_list pl.isList h0 (by omega) (by rw [hj]; simpa using ew) fin
    · have hj : (k + (its.toArray.size : Int)).toNat = j := by
        rw [PySem.seqIndex_neg (by omega) h4] at h1
        rw [List.size_toArray, ← hl]
        exact Option.some.inj h1
      exact PySem.wpAny_getItem_list_neg pl.isList (by omega) (by rw [List.size_toArray] <;> omega) (by omega) (by rw [hj]; simpa using ew) fin
  split at e
  · rename_i xs k hx
    obtain ⟨ys, e1, r1⟩ := hr.ok _ a _ ha hx
    exact lst (.inl (.inl e1)) r1 rfl e
  · rename_i xs k hx
    obtain ⟨ys, e1, r1⟩ := hr.ok _ a _ ha hx
    have sq : L2.SqL X.K H a ys := by
      rcases e1 with ⟨ob, e1⟩ | e1
      · exact .inl (.inr ⟨ob, e1⟩)
      · exact .inr e1
    exact lst sq r1 rfl e
  · rename_i kvs k hx
    split at e
    · rename_i hk
      cases ro
      have hc := hr.ok _ a _ ha hx
      exact (d_look (A := X.A) (E := X.xe) (by omega) I hc hk ry ri).1 d _ e fun vv w' s' I' rr rw' => ⟨vv, H, I', rw', PV.here q hr rr⟩
    · cases e
  · cases e
/-- o[i] op= e -/
theorem ps_augsM (hu : X.A.units + 80 < PySem.cLine) {o i e : Expr} {co ci c : CE} {b : Bop} {op : PySem.Operator} {tpos pos : PySem.Pos} (hb : bopK b = some op) (ho : L2.PE X o (RE X F E co)) (hi : L2.PE X i (RE X F E ci)) (he : L2.PE X e (RE X F E c))
    (ha : ∀ ov iv new, PySem.augStore i ov iv new = (do PySem.holding [new, ov, iv] (PySem.setItem ov iv new); PySem.release [new, ov, iv] []; pure .next)) : L2.PS X (.AugAssign (.Subscript o i tpos) op e pos) (RS X F E (.augs co ci b c)) :=
  PS.imp (L2.ps_augS ho hi (get_M hu) he (ip_augM hb) (set_M hu) ha) fun D σ H ⟨ρ, env, hp, Z, hr, he0, w, z⟩ => by
    unfold wpS at w
    refine ⟨ρ, env, hp, hr, he0, wpE_mono hF co E env hp _ _ w fun x h1 q ρ1 H1 v1 p1 t1 hr1 rv1 => ?_⟩
    refine ⟨ρ1, env, h1, hr1, he0.mono p1 t1, wpE_mono hF ci E env h1 _ _ q fun y h2 q ρ2 H2 v2 p2 t2 hr2 rv2 => ?_⟩
    obtain ⟨d, e3, q⟩ := ws_iff.mp q
    have q : wpE F E c env h2 fun w h4 => ws (augS b d w h4) fun r => ws (setS x y r.1 r.2) fun h6 => Z.nx env h6 := q
    have p12 := p1.trans p2
    have t12 := t1.trans t2
    -- only a list or a dict is stored to
    by_cases hx : ∃ a, x = .ref a
    · obtain ⟨a, rfl⟩ := hx
      refine ⟨ρ2, h2, .ref a, y, (d, h2), hr2, rv1.mono p2 t2, rv2, by have e4 : idxS (.ref a) y h2 = some d := e3; show Option.map _ (idxS (.ref a) y h2) = _; rw [e4]; rfl, fun ρ3 H3 v3 p3 t3 hr3 rv3 => ?_⟩
      have p13 := p12.trans p3
      have t13 := t12.trans t3
      refine ⟨ρ3, env, h2, hr3, he0.mono p13 t13, wpE_mono hF c E env h2 _ _ q fun w4 h4 q ρ4 H4 v4 p4 t4 hr4 rv4 => ?_⟩
      obtain ⟨r, e5, q⟩ := ws_iff.mp q
      refine ⟨ρ4, h4, d, w4, r, hr4, rv3.mono p4 t4, rv4, e5, fun ρ5 H5 v5 p5 t5 hr5 rv5 => ?_⟩
      obtain ⟨h6, e6, q⟩ := ws_iff.mp q
      have p25 := p3.trans (p4.trans p5)
      have t25 := t3.trans (t4.trans t5)
      refine ⟨ρ5, r.2, .ref a, y, r.1, h6, hr5, rv1.mono (p2.trans p25) (t2.trans t25), rv2.mono p25 t25, rv5, e6, fun H6 t6 hr6 => ?_⟩
      exact z.nx _ _ ρ5 H6 σ q (p12.trans p25) (t12.trans (t25.trans t6)) hr6 (he0.mono (p12.trans p25) (t12.trans (t25.trans t6)))
    · exfalso
      exact hx (by
        cases x with
        | ref a => exact ⟨a, rfl⟩
        | _ => simp [idxR] at e3)
theorem ps_whileM {c : Expr} {body : List Stmt} {cc : CE} {cb : List CS} {pos : PySem.Pos} (hp : PySem.PassesOwn (PySem.model X.prog X.w) X.A X.env X.xe) (hc : L2.PT X c (RT X F E cc)) (hb : L2.PSs X body (RSs X F E cb)) : L2.PS X (.While c body [] pos) (RS X F E (.whil cc cb)) :=
  PS.imp (L2.ps_while hp hc hb) fun D σ H ⟨ρ, env, hp, Z, hr, he0, w, z⟩ => by
    unfold wpS at w
    obtain ⟨W, ⟨m0, w0⟩, turn⟩ := w
    refine ⟨fun m σ1 H1 => ∃ ρ1 env1 hp1, ρ <+: ρ1 ∧ TK H H1 ∧ HRX X ρ1 hp1 H1 ∧ EnvR X.K ρ1 H1 env1 σ1 ∧ W m env1 hp1, ⟨m0, ρ, env, hp, List.prefix_refl _, TK.refl _, hr, he0, w0⟩, ?_⟩
    rintro m σ1 H1 ⟨ρ1, env1, hp1, p1, t1, hr1, he1, w1⟩
    refine ⟨ρ1, env1, hp1, hr1, he1, wpE_mono hF cc E env1 hp1 _ _ (turn m env1 hp1 w1) fun d h2 q => ws_mono q fun k q ρ2 H2 p2 t2 hr2 => ?_⟩
    cases k with
    | false => exact z.nx _ _ ρ2 H2 σ1 q (p1.trans p2) (t1.trans t2) hr2 (he1.mono p2 t2)
    | true =>
      refine ⟨fun σ3 H3 => ∃ m', m' < m ∧ ∃ ρ3 env3 hp3, ρ <+: ρ3 ∧ TK H H3 ∧ HRX X ρ3 hp3 H3 ∧ EnvR X.K ρ3 H3 env3 σ3 ∧ W m' env3 hp3, fun σ3 H3 q => q, ρ2, env1, h2, _, hr2, he1.mono p2 t2, q, ?_⟩
      have p12 := p1.trans p2
      have t12 := t1.trans t2
      have y := z.weak p12 t12
      exact ⟨fun e' h' ρ' H' σ' ⟨m', hm, q⟩ p' t' hr' he' => ⟨m', hm, ρ', e', h', p12.trans p', t12.trans t', hr', he', q⟩, y.rt, y.nx, fun e' h' ρ' H' σ' ⟨m', hm, q⟩ p' t' hr' he' => ⟨m', hm, ρ', e', h', p12.trans p', t12.trans t', hr', he', q⟩⟩
theorem ps_forM {tg iter : Expr} {body : List Stmt} {k : IK} {it : List CE} {p : Pat} {cb : List CS} {pos : PySem.Pos} (hp : PySem.PassesOwn (PySem.model X.prog X.w) X.A X.env X.xe) (hc : X.calm = true) (hi : L2.PI X tg iter (iM X F E k it)) (hg : L2.PG X tg (gM X p)) (hb : L2.PSs X body (RSs X F E cb)) (hsi : ∀ x, PySem.foldedSetIterable iter X.env x = pure x) :
    L2.PS X (.For tg iter body [] pos) (RS X F E (.for_ p k it cb)) :=
  PS.imp (L2.ps_for hp hc hi hg hb hsi) fun D σ H ⟨ρ, env, hp, Z, hr, he, w, z⟩ => by
    unfold wpS at w
    refine ⟨ρ, env, hp, hr, he, wpEs_mono hF it E env hp _ _ w fun ds h1 q => ws_mono q fun I q ρ1 H1 J p1 t1 hr1 Wk => ?_⟩
    have he1 := he.mono p1 t1
    refine ⟨fun i m σ2 H2 => m = I.1.length - i ∧ i ≤ I.1.length ∧ ∃ ρ2 env2 hp2, ρ1 <+: ρ2 ∧ TK H1 H2 ∧ HRX X ρ2 hp2 H2 ∧ EnvR X.K ρ2 H2 env2 σ2 ∧ forL I.2 (fun x env h R => wpP p x env fun env1 => wpSs F E cb env1 h { nx := R, ct := R, bk := Z.nx, rt := Z.rt }) Z.nx (I.1.drop i) env2 hp2,
      ⟨_, rfl, Nat.zero_le _, ρ1, env, h1, List.prefix_refl _, TK.refl _, hr1, he1, by rw [List.drop_zero]; exact q⟩, ?_⟩
    rintro i m σ2 H2 ⟨rfl, hi, ρ2, env2, hp2, p2, t2, hr2, he2, w2⟩
    have p12 := p1.trans p2
    have t12 := t1.trans t2
    cases hd : I.1.drop i with
    | nil =>
      rw [hd] at w2
      exact .inl ⟨Wk.stop ρ2 hp2 H2 i p2 t2 hr2 w2.1 (Nat.le_antisymm (drop_nil hd) hi), z.nx _ _ ρ2 H2 σ2 w2.2 p12 t12 hr2 he2⟩
    | cons x r =>
      rw [hd] at w2
      obtain ⟨hx, hr'⟩ := drop_cons hd
      have hlt : i < I.1.length := (List.getElem?_eq_some_iff.mp hx).1
      obtain ⟨go, yl⟩ := Wk.go ρ2 hp2 H2 i x p2 t2 hr2 w2.1 hx
      refine .inr ⟨go, fun σ3 H3 => ∃ ρ3 env3 hp3, ρ1 <+: ρ3 ∧ TK H1 H3 ∧ HRX X ρ3 hp3 H3 ∧ EnvR X.K ρ3 H3 env3 σ3 ∧ forL I.2 (fun x env h R => wpP p x env fun env1 => wpSs F E cb env1 h { nx := R, ct := R, bk := Z.nx, rt := Z.rt }) Z.nx r env3 hp3, ?_, ?_⟩
      · rintro σ3 H3 ⟨ρ3, env3, hp3, q1, q2, q3, q4, q5⟩
        exact ⟨I.1.length - (i + 1), by omega, rfl, hlt, ρ3, env3, hp3, q1, q2, q3, q4, by rw [hr']; exact q5⟩
      · intro y H3 hy
        obtain ⟨rv, t3, hr3⟩ := yl y H3 hy
        refine ⟨ρ2, env2, x, he2.mono (List.prefix_refl _) t3, rv, wpP_mono _ _ _ _ _ w2.2 fun e2 w4 σ4 he4 _ => ?_⟩
        have y := z.weak p12 (t12.trans t3)
        refine ⟨ρ2, e2, hp2, _, hr3, he4, w4, ⟨?_, y.rt, y.nx, ?_⟩⟩
        · exact fun e' h' ρ' H' σ' q p' t' hr' he' => ⟨ρ', e', h', p2.trans p', t2.trans (t3.trans t'), hr', he', q⟩
        · exact fun e' h' ρ' H' σ' q p' t' hr' he' => ⟨ρ', e', h', p2.trans p', t2.trans (t3.trans t'), hr', he', q⟩
end
end M

end
section
set_option Elab.async false
set_option linter.all false
set_option autoImplicit false
set_option maxRecDepth 100000
set_option maxHeartbeats 4000000
/-! dict displays, tuple(range), list(range), x[::-1] -/
namespace M
open PySem (Addr Obj Value Str PyData Heap NestedKey Expr)
section
variable {X : L2.Cx} {F : FnS} (hF : FMono F) {E : XP}
/-! ### displays -/
def PEL (X : L2.Cx) (F : FnS) (E : XP) : List Expr → List CE → Prop
  | [], [] => True
  | e :: es, c :: cs => L2.PE X e (RE X F E c) ∧ PEL X F E es cs
  | _, _ => False
def inter : List (Option Expr) → List Expr → List Expr
  | some k :: ks, v :: vs => k :: v :: inter ks vs
  | _, _ => []
def trsOf (X : L2.Cx) (F : FnS) (E : XP) : List CE → List (L2.TE × L2.TE)
  | k :: v :: r => (RE X F E k, RE X F E v) :: trsOf X F E r
  | _ => []
def prsV : List LV → List (LV × LV)
  | k :: v :: r => (k, v) :: prsV r
  | _ => []
theorem pps_of {pos : PySem.Pos} : ∀ {ks : List (Option Expr)} {vs : List Expr} {cs : List CE}, ks.all (·.isSome) = true → ks.length = vs.length → PEL X F E (inter ks vs) cs → L2.PPs X pos ks vs (trsOf X F E cs)
  | [], [], [], _, _, _ => L2.pps_nil
  | [], [], _ :: _, _, _, h => h.elim
  | [], _ :: _, _, _, h, _ => by cases h
  | _ :: _, [], _, _, h, _ => by cases h
  | none :: ks, _ :: _, _, h, _, _ => by simp at h
  | some k :: ks, v :: vs, cs, ha, hl, h => by
    match cs, h with
    | ck :: cv :: cs, ⟨h1, h2, h3⟩ =>
      refine L2.pps_cons h1 h2 (pps_of ?_ ?_ h3)
      · rw [List.all_cons, Bool.and_eq_true] at ha; exact ha.2
      · simpa using hl
    | [], h => exact h.elim
    | [_], ⟨_, h⟩ => exact h.elim
include hF in
theorem tPairs_of {σ : L2.St} {env : Env} : ∀ (cs : List CE) (H : LHp) (ρ : List Addr) (hp : Hm) (K' : List D → Hm → Prop) (R : List (LV × LV) → LHp → Prop), wpEs F E cs env hp K' → HRX X ρ hp H → EnvR X.K ρ H env σ →
    (∀ ds hp' ρ' H' vs, ρ <+: ρ' → TK H H' → HRX X ρ' hp' H' → RVs X.K ρ' H' ds vs → (evens ds).isSome = true → K' ds hp' → R (prsV vs) H') → (∀ ds hp', K' ds hp' → (evens ds).isSome = true) → cs.length % 2 = 0 → L2.tPairs (trsOf X F E cs) σ H R
  | [], H, ρ, hp, K', R, w, hr, he, k, hev, hl => by
    unfold wpEs at w
    exact k [] hp ρ H [] (List.prefix_refl _) (TK.refl _) hr .nil rfl w
  | [_], H, ρ, hp, K', R, w, hr, he, k, hev, hl => by simp at hl
  | ck :: cv :: cs, H, ρ, hp, K', R, w, hr, he, k, hev, hl => by
    unfold wpEs at w
    refine ⟨ρ, env, hp, hr, he, wpE_mono hF ck E env hp _ _ w fun d1 h1 q ρ1 H1 v1 p1 t1 hr1 rv1 => ?_⟩
    unfold wpEs at q
    refine ⟨ρ1, env, h1, hr1, he.mono p1 t1, wpE_mono hF cv E env h1 _ _ q fun d2 h2 q ρ2 H2 v2 p2 t2 hr2 rv2 => ?_⟩
    refine tPairs_of cs H2 ρ2 h2 (fun ds h3 => K' (d1 :: d2 :: ds) h3) _ q hr2 (he.mono (p1.trans p2) (t1.trans t2)) (fun ds hp' ρ' H' vs p t hr' rvs ev q => ?_) (fun ds hp' q => ?_) (by rw [List.length_cons, List.length_cons] at hl; omega)
    · have ee := hev _ _ q
      exact k (d1 :: d2 :: ds) hp' ρ' H' (v1 :: v2 :: vs) (p1.trans (p2.trans p)) (t1.trans (t2.trans t)) hr' (.cons (rv1.mono (p2.trans p) (t2.trans t)) (.cons (rv2.mono p t) rvs)) ee q
    · have := hev _ _ q
      simp only [evens, Option.isSome_map] at this
      exact this
theorem evens_inv {K : PySem.W.Frag} {ρ : List Addr} {H : LHp} : ∀ {ds : List D} {prs : List (D × D)} {vs : List LV}, evens ds = some prs → RVs K ρ H ds vs → (∀ p ∈ prs, ∃ kk, leafKey p.1 = some kk) →
    ∃ kvs : List (L2.Key × LV), prsV vs = kvs.map (fun kv => (L2.kV kv.1, kv.2)) ∧ LK K ρ H prs kvs ∧ kvs.length = prs.length
  | [], prs, vs, h, r, _ => by
    cases h
    cases r
    exact ⟨[], rfl, .nil, rfl⟩
  | [_], prs, vs, h, r, _ => by simp [evens] at h
  | k :: v :: ds, prs, vs, h, r, hl => by
    simp only [evens, Option.map_eq_some_iff] at h
    obtain ⟨prs', h1, rfl⟩ := h
    cases r with
    | cons rk r2 =>
      cases r2 with
      | cons rv r3 =>
        obtain ⟨kvs, e1, e2, e3⟩ := evens_inv h1 r3 fun p hp => hl p (List.mem_cons_of_mem _ hp)
        obtain ⟨kk, hk⟩ := hl (k, v) List.mem_cons_self
        obtain rfl := leaf_rvK hk rk
        exact ⟨(kk, _) :: kvs, by rw [prsV, e1]; rfl, .cons hk rk rv e2, by simp [e3]⟩
include hF in
theorem pe_dispM {ks : List (Option Expr)} {vs : List Expr} {cs : List CE} {pos : PySem.Pos} (ha : ks.all (·.isSome) = true) (hl : ks.length = vs.length) (h0 : ks ≠ []) (h15 : ks.length ≤ 15) (hev : cs.length % 2 = 0) (h : PEL X F E (inter ks vs) cs) : L2.PE X (.Dict ks vs pos) (RE X F E (.dctP cs)) :=
  PE.imp (L2.pe_disp (pps_of ha hl h) ha hl h0 h15) fun σ H Q ⟨ρ, env, hp, hr, he, w⟩ => by
    unfold wpE at w
    intro p hp'
    have c0 : CellX X (ρ ++ [p]) (L2.upd H p (.dK [])) p (.dct []) := .inl ⟨[], L2.upd_same, .nil, Nat.zero_le _⟩
    have hr0 := hr.alloc hp' c0 fun _ z => nomatch z
    have t0 : TK H (L2.upd H p (.dK [])) := TK.new hp'
    have hAi : (ρ ++ [p])[hp.length]? = some p := by rw [← hr.len]; simp
    refine tPairs_of hF cs _ _ _ _ _ w hr0 (he.mono (pre_snoc _ _) t0) (fun ds h1 ρ1 H1 vs1 p1 t1 hr1 rvs _ q => ?_) (fun ds h1 q => ?_) hev
    · obtain ⟨prs, e1, hc, hleaf, hlen, q⟩ := ws_iff.mp q
      obtain ⟨kvs2, e2, q⟩ := ws_iff.mp q
      have hA := pre_get p1 hAi
      have hdK : H1 p = some (.dK []) := by
        rcases hr1.ok _ p _ hA hc with ⟨kvs', e, lk, _⟩ | ⟨_, o, e, xs, es, ep, _, _, _, _, _, hne, _⟩
        · cases lk; exact e
        · exact absurd rfl hne
      have hlf : ∀ p ∈ prs, ∃ kk, leafKey p.1 = some kk := fun p hp => by
        have := List.all_eq_true.mp hleaf p hp
        unfold leafB at this
        cases hk : p.1 <;> rw [hk] at this <;> first | exact ⟨_, rfl⟩ | exact Bool.noConfusion this
      obtain ⟨kvs, ek, lk, el⟩ := evens_inv e1 rvs hlf
      obtain ⟨m1, m2⟩ := merge_inv e2 lk .nil
      refine ⟨hdK, kvs, ek, by omega, ?_⟩
      have t8 : TK H1 (L2.upd H1 p (.dK (L2.mergeK [] kvs))) := TK.put hdK trivial
      have cOk : CellX X ρ1 (L2.upd H1 p (.dK (L2.mergeK [] kvs))) p (.dct kvs2) := .inl ⟨_, L2.upd_same, m1.mono (List.prefix_refl _) t8, by simp at m2; unfold LIM; omega⟩
      have hr2 := hr1.put hA hc (by intro _ z; cases z) hdK trivial (by intro _ z; cases z) cOk
      exact q ρ1 _ _ ((pre_snoc _ _).trans p1) (t0.trans (t1.trans t8)) hr2 (.ref hA)
    · obtain ⟨prs, e1, _⟩ := ws_iff.mp q
      rw [e1]; rfl
/-! ### tuple(range(n)), list(range(..)) -/
theorem rv_ints {K : PySem.W.Frag} {ρ : List Addr} {H : LHp} (f : Nat → Int) : ∀ l : List Nat, RVs K ρ H (l.map fun k => D.int (f k)) (l.map fun k => L2.V.int (f k))
  | [] => .nil
  | k :: l => .cons (.int _) (rv_ints f l)
include hF in
theorem pe_tupRgM {a : Expr} {ca : CE} {x y : Str} {p p2 pos pos2 : PySem.Pos} (hx : x = PySem.Str.ofString "tuple") (hy : y = PySem.Str.ofString "range") (hc : X.calm = true) (hg : L2.Gl X x) (hm : X.mg x = none) (hg2 : L2.Gl X y) (hm2 : X.mg y = none) (na : PySem.starEach [a] X.env = (false, PySem.eval a X.env) :: PySem.starEach [] X.env) (ha : L2.PE X a (RE X F E ca)) :
    L2.PE X (.Call (.Name x p) [.Call (.Name y p2) [a] [] pos2] [] pos) (RE X F E (.blt .tupRange [ca])) := by
  subst hx hy
  refine PE.imp (L2.pe_tupRg hc hg hm (L2.prg_1 hg2 hm2 ha na)) fun σ H Q ⟨ρ, env, hp, hr, he, w⟩ => ?_
  unfold wpE wpEs wpEs at w
  refine ⟨ρ, env, hp, hr, he, wpE_mono hF ca E env hp _ _ w fun d h1 q ρ1 H1 v p1 t1 hr1 rv1 => ?_⟩
  obtain ⟨r, e, q⟩ := ws_iff.mp q
  cases d <;> simp only [bltS] at e <;> first | (cases e; done) | skip
  rename_i j
  split at e
  · rename_i hs
    cases e
    obtain rfl := rv1.int_inv
    simp only [small, Bool.and_eq_true, decide_eq_true_eq] at hs
    refine ⟨j, rfl, ⟨by omega, by omega, by omega, by omega, by omega⟩, fun q' hq => ?_⟩
    have e2 : L2.rgV 0 j = (List.range j.toNat).map fun (k : Nat) => L2.V.int (0 + (k : Int)) := by
      unfold L2.rgV
      rw [Int.sub_zero]
    rw [e2]
    exact PV.newT (PV.weak p1 t1 q) hr1 (rv_ints (fun (k : Nat) => 0 + (k : Int)) _) hq
  · cases e
include hF in
theorem pe_lstRgM {a : Expr} {ca : CE} {x y : Str} {p p2 pos pos2 : PySem.Pos} (hx : x = PySem.Str.ofString "list") (hy : y = PySem.Str.ofString "range") (hc : X.calm = true) (hg : L2.Gl X x) (hm : X.mg x = none) (hg2 : L2.Gl X y) (hm2 : X.mg y = none) (na : PySem.starEach [a] X.env = (false, PySem.eval a X.env) :: PySem.starEach [] X.env) (ha : L2.PE X a (RE X F E ca)) :
    L2.PE X (.Call (.Name x p) [.Call (.Name y p2) [a] [] pos2] [] pos) (RE X F E (.blt .lstRange [ca])) := by
  subst hx hy
  refine PE.imp (L2.pe_listRg hc hg hm (L2.prg_1 hg2 hm2 ha na)) fun σ H Q ⟨ρ, env, hp, hr, he, w⟩ => ?_
  unfold wpE wpEs wpEs at w
  refine ⟨ρ, env, hp, hr, he, wpE_mono hF ca E env hp _ _ w fun d h1 q ρ1 H1 v p1 t1 hr1 rv1 => ?_⟩
  obtain ⟨r, e, q⟩ := ws_iff.mp q
  cases d <;> simp only [bltS] at e <;> first | (cases e; done) | skip
  rename_i j
  split at e
  · rename_i hs
    obtain rfl := newC_inv e
    obtain rfl := rv1.int_inv
    simp only [small, Bool.and_eq_true, decide_eq_true_eq] at hs
    refine ⟨j, rfl, ⟨by omega, by omega, by omega, by omega, by omega⟩, fun q' hq => ?_⟩
    have e2 : L2.rgV 0 j = (List.range j.toNat).map fun (k : Nat) => L2.V.int (0 + (k : Int)) := by
      unfold L2.rgV
      rw [Int.sub_zero]
    rw [e2]
    exact PV.newL (PV.weak p1 t1 q) hr1 (rv_ints (fun (k : Nat) => 0 + (k : Int)) _) hq
  · cases e
include hF in
theorem pe_lstRg2M {a b : Expr} {ca cb : CE} {x y : Str} {p p2 pos pos2 : PySem.Pos} (hx : x = PySem.Str.ofString "list") (hy : y = PySem.Str.ofString "range") (hc : X.calm = true) (hg : L2.Gl X x) (hm : X.mg x = none) (hg2 : L2.Gl X y) (hm2 : X.mg y = none) (na : PySem.starEach [a, b] X.env = (false, PySem.eval a X.env) :: PySem.starEach [b] X.env) (nb : PySem.starEach [b] X.env = (false, PySem.eval b X.env) :: PySem.starEach [] X.env) (ha : L2.PE X a (RE X F E ca)) (hb : L2.PE X b (RE X F E cb)) :
    L2.PE X (.Call (.Name x p) [.Call (.Name y p2) [a, b] [] pos2] [] pos) (RE X F E (.blt .lstRange [ca, cb])) := by
  subst hx hy
  refine PE.imp (L2.pe_listRg hc hg hm (L2.prg_2 hg2 hm2 ha hb na nb (by rw [nb]; rfl))) fun σ H Q ⟨ρ, env, hp, hr, he, w⟩ => ?_
  unfold wpE wpEs wpEs wpEs at w
  refine ⟨ρ, env, hp, hr, he, wpE_mono hF ca E env hp _ _ w fun d h1 q ρ1 H1 v p1 t1 hr1 rv1 => ?_⟩
  refine ⟨ρ1, env, h1, hr1, he.mono p1 t1, wpE_mono hF cb E env h1 _ _ q fun d2 h2 q0 ρ2 H2 v2 p2 t2 hr2 rv2 => ?_⟩
  obtain ⟨r, e, q1⟩ := ws_iff.mp q0
  obtain ⟨i, rfl⟩ : ∃ i, d = .int i := by cases d <;> first | exact ⟨_, rfl⟩ | (simp [bltS] at e)
  obtain ⟨j, rfl⟩ : ∃ i, d2 = .int i := by cases d2 <;> first | exact ⟨_, rfl⟩ | (simp [bltS] at e)
  simp only [bltS] at e
  split at e
  · rename_i hs
    obtain rfl := newC_inv e
    obtain rfl := rv1.int_inv
    obtain rfl := rv2.int_inv
    simp only [small, Bool.and_eq_true, decide_eq_true_eq] at hs
    refine ⟨i, j, rfl, rfl, ⟨by omega, by omega, by omega, by omega, by omega⟩, fun q' hq => ?_⟩
    exact PV.newL (PV.weak (p1.trans p2) (t1.trans t2) q1) hr2 (rv_ints (fun (k : Nat) => i + (k : Int)) _) hq
  · cases e
/-! ### x[::-1] -/
def stM1 : CE → Bool
  | .neg (.lit (.int i)) => decide (i = 1)
  | .bin .sub (.lit (.int i)) (.lit (.int j)) => decide (i = 0) && decide (j = 1)
  | _ => false
theorem stM1_wp {c : CE} (h : stM1 c = true) {env : Env} {hp : Hm} {Q : VQ} (q : Q (.int (-1)) hp) : wpE F E c env hp Q := by
  unfold stM1 at h
  split at h
  · rw [decide_eq_true_eq] at h
    subst h
    unfold wpE wpE
    exact q
  · rw [Bool.and_eq_true, decide_eq_true_eq, decide_eq_true_eq] at h
    obtain ⟨rfl, rfl⟩ := h
    unfold wpE wpE
    unfold wpE
    exact q
  · cases h
include hF in
theorem pe_revM {a st : Expr} {ca cst : CE} {p2 pos : PySem.Pos} (ha : L2.PE X a (RE X F E ca)) (hst : L2.PE X st (RE X F E cst)) (h1 : stM1 cst = true) : L2.PE X (.Subscript a (.Slice none none (some st) p2) pos) (RE X F E (.blt .rev [ca])) := peI fun pins s σ H Q ρ env hp N w => by
  unfold wpE wpEs wpEs at w
  refine PyProof.Rows.Subscript_ (ev hF ha N w fun v s1 d x ρ1 hp1 H1 N1 p1 t1 rv ru q0 => ?_)
  obtain ⟨r, e, q1⟩ := ws_iff.mp q0
  refine PySem.wpAny_Slice ?_
  rw [PySem.evalPart_none]
  refine PySem.wpAny_pure (PySem.wpAny_pure ?_)
  refine evPo hF (.inr ⟨st, rfl, hst⟩) N1 (Q' := fun o h2 => o = some (-1) ∧ h2 = hp1) (stM1_wp h1 ⟨rfl, rfl⟩) fun vs s3 o ρ3 hp3 H3 N3 p3 t3 ps q3 => ?_
  obtain ⟨rfl, rfl⟩ := q3
  have I5 : L2.Inv X pins σ H3 { s3 with heap := s3.heap.push { cls := .type "slice", data := .fields #[.none, .none, vs] } } := N3.I.kept (t' := s3.toks) fun b ob q => PySem.Heap.get?_push_of_some _ q
  have q' := PV.weak (p1.trans p3) (t1.trans t3) q1
  have rv3 := rv.mono p3 t3
  cases d <;> simp only [bltS] at e <;> first | (cases e; done) | skip
  · obtain ⟨b, xs, rfl, hx, hxs⟩ := rv3.tup_inv
    cases e
    cases ru
    obtain ⟨its, r1, ht, hz⟩ := I5.tuple hx
    show PySem.wpAny (PySem.model X.prog X.w) X.A (PyProof.Rows.subscriptTail a (.Slice none none (some st) p2) (.ref b) (.ref s3.heap.objs.size)) (L2.EP X pins σ Q) X.xe { s3 with heap := s3.heap.push { cls := .type "slice", data := .fields #[.none, .none, vs] } }
    refine PyProof.Rows.tail_any (ops := [.ref b, .ref s3.heap.objs.size]) ht.typeIs PyProof.Rows.slot_tuple_getitem.lookup ?_ (by with_unfolding_all rfl)
    have hlen := r1.length
    refine getItem_tuple_rev ht (PySem.Heap.IsSliceOf.new _ .none .none vs) .none .none ps ?_ (by rw [List.size_toArray]; omega)
    have hn := I5.hok.fresh (Nat.le_refl _)
    refine ⟨.ref _, _, I5.laid (t' := s3.toks) (o := .tup xs.reverse) (fun b ob q => PySem.Heap.get?_push_of_some _ q) (Nat.le_refl _) ?_, rfl, PV.newT q' N3.hr hxs.reverse hn⟩
    exact ⟨by rw [List.length_reverse]; exact hz, _, r1.reverse, PyProof.Rows.IsTup.new _ _⟩
  · obtain ⟨b, rfl, ha'⟩ := rv3.ref_inv
    obtain ⟨xs, e1, e2⟩ := Option.bind_eq_some_iff.mp e
    obtain rfl := newC_inv e2
    obtain ⟨b2, ys, hb, hx, hxs⟩ := N3.hr.getL e1
    obtain rfl := ref_eq ha' hb
    cases ru
    obtain ⟨its, r1, ht, hz⟩ := I5.list hx
    have hlen := r1.length
    show PySem.wpAny (PySem.model X.prog X.w) X.A (PyProof.Rows.subscriptTail a (.Slice none none (some st) p2) (.ref _) (.ref s3.heap.objs.size)) (L2.EP X pins σ Q) X.xe { s3 with heap := s3.heap.push { cls := .type "slice", data := .fields #[.none, .none, vs] } }
    refine PyProof.Rows.tail_any (ops := [.ref _, .ref s3.heap.objs.size]) ht.isList.typeIs PySem.slot_list_getitem.lookup ?_ (by with_unfolding_all rfl)
    refine PySem.wpAny_getItem_list_slice ht.isList (PySem.Heap.IsSliceOf.new _ .none .none vs) .none .none ps (by decide) ?_ (by rw [List.size_toArray]; omega)
    rw [PySem.W.krv_pick]
    have hn := I5.hok.fresh (Nat.le_refl _)
    refine ⟨.ref _, _, I5.laid (t' := s3.toks) (o := .lst ys.reverse) (fun b ob q => PySem.Heap.get?_push_of_some _ q) (Nat.le_refl _) ?_, rfl, PV.newL q' N3.hr hxs.reverse hn⟩
    exact ⟨by rw [List.length_reverse]; exact hz, _, 0, r1.reverse, PySem.Heap.get?_push_size _ rfl⟩
end
end M

end
section
set_option Elab.async false
set_option linter.all false
set_option autoImplicit false
set_option maxRecDepth 100000
set_option maxHeartbeats 4000000
/-! from the program's syntax to mini's -/
namespace M
open PySem (Addr Obj Value Str Expr Stmt)
abbrev S (s : String) : Str := PySem.Str.ofString s
/-- a def: its number, its parameters, its defaults -/
structure FI where
  id : Nat
  ps : List Str
  dfl : List D
structure Gm where
  fns : List (Str × FI)
  csts : List (Str × D)
structure Ctx where
  sc : PySem.Scope
  /-- the block's names as written: what may be stored to -/
  st : List (Str × PySem.NameKind)
  N : List Str
  G : Gm
def isGl (Γ : Ctx) (x : Str) : Bool := decide (Γ.sc.names.lookup x = some .globalImplicit) && (!(x == S "__debug__") && !(x == S "__name__"))
def isVis (Γ : Ctx) (x : Str) : Bool := (decide (Γ.sc.names.lookup x = some .local) || decide (Γ.sc.names.lookup x = some .cell) || decide (Γ.sc.names.lookup x = some .free)) && (!(x == S "__debug__") && !(x == S "__classdict__"))
def isLoc (Γ : Ctx) (x : Str) : Bool := decide (Γ.st.lookup x = some .local) || decide (Γ.st.lookup x = some .cell)
def ixOf (N : List Str) (x : Str) : Option Nat := N.findIdx? fun y => decide (y = x)
def litOf : PySem.Const → Option D
  | .none => some .non
  | .bool b => some (.bl b)
  | .int i => some (.int i)
  | .str s => if sOK s.cps.toList = true then some (.str s.cps.toList) else none
  | _ => none
def bopOf : PySem.Operator → Option Bop
  | .Add => some .add
  | .Sub => some .sub
  | .Mult => some .mul
  | .FloorDiv => some .fdiv
  | .Mod => some .mod
  | .Pow => some .pow
  | _ => none
def augOf : PySem.Operator → Option Bop
  | .Add => some .add
  | .Sub => some .sub
  | .Mult => some .mul
  | _ => none
def copOf : PySem.CmpOp → Cop
  | .Eq => .eq
  | .NotEq => .ne
  | .Lt => .lt
  | .LtE => .le
  | .Gt => .gt
  | .GtE => .ge
  | .Is => .is
  | .IsNot => .isnt
  | .In => .isin
  | .NotIn => .notin
/-- the built-in functions and types: name, arguments, ours, theirs -/
def bltTab : List (String × Nat × Blt × Value) := [("len", 1, .len, .builtin "len"), ("abs", 1, .abs, .builtin "abs"), ("int", 1, .int, .type "int"), ("max", 2, .max2, .builtin "max"), ("max", 1, .max1, .builtin "max"), ("min", 2, .min2, .builtin "min"), ("min", 1, .min1, .builtin "min"),
  ("sum", 1, .sum, .builtin "sum"), ("all", 1, .all, .builtin "all"), ("any", 1, .any, .builtin "any"), ("sorted", 1, .sorted, .builtin "sorted"), ("tuple", 1, .tuple, .type "tuple"), ("list", 1, .list, .type "list"), ("dict", 1, .dict, .type "dict")]
def bltOf (x : Str) (n : Nat) : Option (String × Nat × Blt × Value) := bltTab.find? fun r => decide (S r.1 = x) && r.2.1 == n
def tyTab : List Ty := [.int, .bool, .str, .tuple, .list, .dict]
def tyOf (x : Str) : Option Ty := tyTab.find? fun t => decide (S (tyName t) = x)
/-- the names that must not be the module's -/
def freeNames : List String := ["len", "abs", "int", "max", "min", "sum", "all", "any", "sorted", "tuple", "list", "dict", "bool", "str", "isinstance", "range", "zip", "enumerate"]
/-- methods: name, arguments, ours, the type, the built-in -/
def methTab : List (String × Nat × Blt × String) := [("append", 1, .append, "list.append"), ("extend", 1, .extend, "list.extend"), ("pop", 0, .pop0, "list.pop"), ("pop", 1, .popI, "list.pop"), ("index", 1, .index, "list.index"), ("insert", 2, .insert, "list.insert"),
  ("setdefault", 2, .setdefault, "dict.setdefault"), ("get", 2, .get2, "dict.get")]
def methOf (x : Str) (n : Nat) : Option (String × Nat × Blt × String) := methTab.find? fun r => decide (S r.1 = x) && r.2.1 == n
def plainIx : Expr → Bool
  | .Slice _ _ _ _ => false
  | _ => true
def notSet : Expr → Bool
  | .Set _ _ _ => false
  | _ => true
def isTupE : Expr → Bool
  | .Tuple _ _ _ => true
  | _ => false
/-- what a call's shape leaves to the defaults -/
def shape (fi : FI) (n : Nat) (ks : List Str) : Option (List D) :=
  if n + ks.length ≤ fi.ps.length ∧ (fi.ps.drop n).take ks.length = ks ∧ fi.ps.length - (n + ks.length) ≤ fi.dfl.length then some (fi.dfl.drop (fi.dfl.length - (fi.ps.length - (n + ks.length)))) else none
/-- a block's own names with their slots -/
def ownOf (N : List Str) (scope : PySem.Scope) : List (Str × Nat) := (scope.names.filter fun y => decide (y.2 = .local) || decide (y.2 = .cell)).filterMap fun y => (ixOf N y.1).map fun i => (y.1, i)
def blkCtx (Γ : Ctx) (scope : PySem.Scope) : Ctx := { Γ with sc := L2.relS scope Γ.sc, st := scope.names }

/-- range(..), as an argument -/
def rngOf (Γ : Ctx) (es : List Expr) : Option (List Expr) := match es with
  | [.Call (.Name y _) as [] _] => if isGl Γ y = true ∧ y = S "range" then some as else none
  | _ => none
mutual
def cP : Nat → Ctx → Expr → Option Pat
  | 0, _, _ => none
  | n + 1, Γ, e => match e with
    | .Name x _ => if isLoc Γ x = true then (ixOf Γ.N x).map .slot else none
    | .Tuple es _ _ => if es.all plainE = true then (cPs n Γ es).map .tup else none
    | _ => none
def cPs : Nat → Ctx → List Expr → Option (List Pat)
  | 0, _, _ => none
  | n + 1, Γ, es => match es with
    | [] => some []
    | e :: es => match cP n Γ e, cPs n Γ es with
      | some p, some ps => some (p :: ps)
      | _, _ => none
end
mutual
def cE : Nat → Ctx → Expr → Option CE
  | 0, _, _ => none
  | n + 1, Γ, e => match e with
    | .Name x _ => if isVis Γ x = true then (ixOf Γ.N x).map .loc else if isGl Γ x = true then (Γ.G.csts.lookup x).map .lit else none
    | .Constant c _ _ => (litOf c).map .lit
    | .Tuple es _ _ => if es.all plainE = true ∧ es.length ≤ 1000 then (cEs n Γ es).map .tup else none
    | .List es _ => if es.all plainE = true ∧ es.length ≤ 1000 then (cEs n Γ es).map .lst else none
    | .Dict ks vs _ => match ks, vs with
      | [], [] => some (.dct [])
      | _, _ => if ks.all (·.isSome) = true ∧ ks.length = vs.length ∧ ks ≠ [] ∧ ks.length ≤ 15 then (match cEs n Γ (inter ks vs) with
        | some cs => if cs.length % 2 = 0 then some (.dctP cs) else none
        | none => none) else none
    | .BinOp a op b _ => match bopOf op, cE n Γ a, cE n Γ b with
      | some o, some x, some y => some (.bin o x y)
      | _, _, _ => none
    | .UnaryOp op a _ => match op with
      | .USub => (cE n Γ a).map .neg
      | .Not => (cE n Γ a).map .not
      | _ => none
    | .BoolOp op es _ => cB n Γ op es
    | .Compare a ops bs _ => match ops, bs with
      | [op], [b] => if PySem.behindInMarks op b = false then (match cE n Γ a, cE n Γ b with
        | some x, some y => some (.cmp (copOf op) x y)
        | _, _ => none) else none
      | [op, op'], [b, c] => if PySem.lastMarks [op, op'] [b, c] = false then (match cE n Γ a, cE n Γ b, cE n Γ c with
        | some x, some y, some z => some (.chn (copOf op) (copOf op') x y z)
        | _, _, _ => none) else none
      | _, _ => none
    | .IfExp c a b _ => match cE n Γ c, cE n Γ a, cE n Γ b with
      | some x, some y, some z => some (.ife x y z)
      | _, _, _ => none
    | .Subscript a s _ => match s with
      | .Slice lo hi st _ => match st with
        | none => match cE n Γ a, cO n Γ lo, cO n Γ hi with
          | some x, some y, some z => some (.slc x y z)
          | _, _, _ => none
        | some st => match lo, hi with
          | none, none => match cE n Γ a, cE n Γ st with
            | some x, some y => if stM1 y = true then some (.blt .rev [x]) else none
            | _, _ => none
          | _, _ => none
      | s => match cE n Γ a, cE n Γ s with
        | some x, some y => some (.idx x y)
        | _, _ => none
    | .Call f es kws pos => match f with
      | .Name x _ => if isGl Γ x = true ∧ es.all plainE = true then (match Γ.G.fns.lookup x with
        | some fi => match kws with
          | [] => match cEs n Γ es, shape fi es.length [] with
            | some cs, some dv => some (.call fi.id cs dv (List.range fi.ps.length))
            | _, _ => none
          | k :: ks => if (k :: ks).all (fun k => k.arg.isSome) = true then (match cEs n Γ es, cEs n Γ ((k :: ks).map (·.value)), shape fi es.length ((k :: ks).filterMap (·.arg)) with
            | some cs, some cs', some dv => some (.call fi.id (cs ++ cs') dv (List.range fi.ps.length))
            | _, _, _ => none) else none
        | none => match kws with
          | [] => match bltOf x es.length with
            | some r => match rngOf Γ es with
              | some as => match r.2.2.1 with
                | .tuple => if as.all plainE = true ∧ as.length = 1 then (cEs n Γ as).map (.blt .tupRange) else none
                | .list => if as.all plainE = true ∧ (as.length = 1 ∨ as.length = 2) then (cEs n Γ as).map (.blt .lstRange) else none
                | b => (cEs n Γ es).map (.blt b)
              | none => (cEs n Γ es).map (.blt r.2.2.1)
            | none => if x = S "isinstance" then (match es with
              | [a, .Name y _] => if isGl Γ y = true then (match tyOf y, cE n Γ a with
                | some t, some c => some (.blt (.isi t) [c])
                | _, _ => none) else none
              | _ => none) else none
          | _ => none) else none
      | .Attribute o m apos => if baseE o = true ∧ (apos.endLine == pos.line) = true ∧ es.all plainE = true then (match kws with
        | [] => match methOf m es.length, cE n Γ o, cEs n Γ es with
          | some r, some c, some cs => some (.meth r.2.2.1 c cs)
          | _, _, _ => none
        | _ => none) else none
      | _ => none
    | .ListComp elt gs scope _ => match gs with
      | [⟨tg, iter, ifs, a⟩] => if a = 0 ∧ L2.blkC Γ.N Γ.sc scope (ownOf Γ.N scope) = true ∧ notSet iter = true ∧ ifs.length ≤ 1 then (match cI n Γ tg iter, cP n (blkCtx Γ scope) tg, cEs n (blkCtx Γ scope) ifs, cE n (blkCtx Γ scope) elt with
        | some I, some p, some cs, some c => if (slotsP p).all (fun i => ((ownOf Γ.N scope).map (·.2)).contains i) = true then some (.comp ((ownOf Γ.N scope).map (·.2)) p I.1 I.2 cs c) else none
        | _, _, _, _ => none) else none
      | _ => none
    | .DictComp ke va gs scope _ => match gs with
      | [⟨tg, iter, ifs, a⟩] => if a = 0 ∧ L2.blkC Γ.N Γ.sc scope (ownOf Γ.N scope) = true ∧ notSet iter = true ∧ ifs.length ≤ 1 then (match cI n Γ tg iter, cP n (blkCtx Γ scope) tg, cEs n (blkCtx Γ scope) ifs, cE n (blkCtx Γ scope) ke, cE n (blkCtx Γ scope) va with
        | some I, some p, some cs, some c, some v => if (slotsP p).all (fun i => ((ownOf Γ.N scope).map (·.2)).contains i) = true then some (.dcomp ((ownOf Γ.N scope).map (·.2)) p I.1 I.2 cs c v) else none
        | _, _, _, _, _ => none) else none
      | _ => none
    | _ => none
def cEs : Nat → Ctx → List Expr → Option (List CE)
  | 0, _, _ => none
  | n + 1, Γ, es => match es with
    | [] => some []
    | e :: es => match cE n Γ e, cEs n Γ es with
      | some c, some cs => some (c :: cs)
      | _, _ => none
def cB : Nat → Ctx → PySem.BoolOp → List Expr → Option CE
  | 0, _, _, _ => none
  | n + 1, Γ, op, es => match es with
    | [] => none
    | [e] => cE n Γ e
    | e :: r => match cE n Γ e, cB n Γ op r with
      | some x, some y => some (match op with
        | .And => .and x y
        | .Or => .or x y)
      | _, _ => none
def cO : Nat → Ctx → Option Expr → Option CE
  | 0, _, _ => none
  | n + 1, Γ, o => match o with
    | none => some (.lit .non)
    | some e => cE n Γ e
/-- a source -/
def cI : Nat → Ctx → Expr → Expr → Option (IK × List CE)
  | 0, _, _, _ => none
  | n + 1, Γ, tg, iter => match iter with
    | .Call (.Name x _) es [] _ => if isGl Γ x = true ∧ es.all plainE = true ∧ (Γ.G.fns.lookup x).isNone = true ∧ x = S "range" ∧ (es.length = 1 ∨ es.length = 2) then (cEs n Γ es).map fun cs => (.range, cs)
      else if isGl Γ x = true ∧ es.all plainE = true ∧ (Γ.G.fns.lookup x).isNone = true ∧ x = S "zip" ∧ es.length = 2 ∧ isTupE tg = true then (cEs n Γ es).map fun cs => (.zip, cs)
      else if isGl Γ x = true ∧ es.all plainE = true ∧ (Γ.G.fns.lookup x).isNone = true ∧ x = S "enumerate" ∧ es.length = 1 ∧ isTupE tg = true then (cEs n Γ es).map fun cs => (.enum, cs)
      else (cE n Γ iter).map fun c => (.val, [c])
    | e => (cE n Γ e).map fun c => (.val, [c])
end
end M

end
section
set_option Elab.async false
set_option linter.all false
set_option autoImplicit false
set_option maxRecDepth 100000
set_option maxHeartbeats 4000000
/-! what compiles means what mini says -/
namespace M
open PySem (Addr Obj Value Str Expr Stmt FuncData)
def CXN : L2.CXT := fun _ _ _ _ _ _ => False
def E0 : L2.XK := fun _ _ _ => False
def EN : XP := fun _ _ _ => False
theorem passN {X : L2.Cx} {E : L2.XK} : L2.Passes CXN X E := fun _ _ _ _ _ _ _ h => h.elim
/-- the promise of a function of mini's -/
def spF (P : PySem.Program) (w : PySem.World) (K : PySem.W.Frag) (F : FnS) (id : Nat) : L2.Sp := fun vs H Q _ => ∃ ρ hp ds, HR P w K ρ hp H ∧ RVs K ρ H ds vs ∧ F id ds hp (PV P w K ρ H Q) EN
/-- how a def's parameters are bound -/
def BindG (K : PySem.W.Frag) (fd : FuncData) (fi : FI) : Prop := ∀ n ks dv, shape fi n ks = some dv → ∃ (dvs : List LV) (ds : List Value), L2.Vals dvs ds ∧ (∀ ρ H, RVs K ρ H dv dvs) ∧
  ∀ (s : PySem.Shared) (us ws : List Value), K.In s.heap → us.length = n → ws.length = ks.length → PySem.BindsTo s fd ⟨us, ks.zip ws⟩ (fi.ps.zip (us ++ ws ++ ds))
structure Good (Γ : Ctx) (F : FnS) (X : L2.Cx) : Prop where
  sc : X.env.scope = Γ.sc
  N : X.N = Γ.N
  nd : X.N.Nodup
  kind : X.env.scope.kind = .function
  calm : X.calm = true
  room : ∃ k, L2.Room k X.A
  fl : ∀ x, (Γ.st.lookup x = some .local ∨ Γ.st.lookup x = some .cell) → L2.Loc X.env.scope x ∧ (X.fn x = true ∨ X.env.scope.names.lookup x = some .local)
  fns : ∀ x fi, Γ.G.fns.lookup x = some fi → ∃ (f : Addr) (k : Nat) (fd : FuncData), L2.FnOk X.prog X.w X.K X.mg X.base CXN k f fd fi.ps (spF X.prog X.w X.K F fi.id) ∧ L2.Room k X.A ∧ X.mg x = some (.ref f) ∧ PySem.W.keepIn X.K (.ref f) = true ∧ BindG X.K fd fi
  csts : ∀ x d, Γ.G.csts.lookup x = some d → ∃ u v, X.mg x = some u ∧ L2.RelV v u ∧ ∀ ρ H, RV X.K ρ H d v
  free : ∀ x ∈ freeNames, X.mg (S x) = none
theorem Good.hu {Γ : Ctx} {F : FnS} {X : L2.Cx} (g : Good Γ F X) : X.A.units + 80 < PySem.cLine := by
  obtain ⟨k, r⟩ := g.room
  have := r.un
  omega
theorem lookup_map {f : Str × PySem.NameKind → Str × PySem.NameKind} (h1 : ∀ y, (f y).1 = y.1) {x : Str} {k : PySem.NameKind} (h2 : ∀ y, y.2 = k → f y = y) : ∀ {l : List (Str × PySem.NameKind)}, l.lookup x = some k → (l.map f).lookup x = some k
  | [], h => by simp at h
  | y :: r, h => by
    obtain ⟨n, k'⟩ := y
    cases hx : x == n with
    | true =>
      rw [List.lookup_cons, hx] at h
      have h : k' = k := Option.some.inj h
      subst h
      rw [List.map_cons, h2 (n, k') rfl, List.lookup_cons, hx]
    | false =>
      rw [List.lookup_cons, hx] at h
      have e : f (n, k') = (n, (f (n, k')).2) := Prod.ext (h1 (n, k')) rfl
      rw [List.map_cons, e, List.lookup_cons, hx]
      exact lookup_map h1 h2 h
theorem relS_same {scope sc : PySem.Scope} {x : Str} {k : PySem.NameKind} (h : scope.names.lookup x = some k) (hk : k ≠ .free) : (L2.relS scope sc).names.lookup x = some k := by
  refine lookup_map (f := fun (n, k) => if (k == .free && sc.kind == .function && sc.names.lookup n == some .cell) then (n, .cell) else (n, k)) (fun y => ?_) (fun y hy => ?_) h
  · show (if _ then (y.1, PySem.NameKind.cell) else (y.1, y.2)).1 = y.1
    split <;> rfl
  · have : (y.2 == PySem.NameKind.free) = false := by
      rw [hy]
      cases k <;> first | rfl | exact absurd rfl hk
    show (if (y.2 == PySem.NameKind.free && _ && _) = true then (y.1, PySem.NameKind.cell) else (y.1, y.2)) = y
    rw [this, Bool.false_and, Bool.false_and, if_neg Bool.false_ne_true]
/-- a block of a good context -/
theorem Good.blk {Γ : Ctx} {F : FnS} {X : L2.Cx} (g : Good Γ F X) (scope : PySem.Scope) (hk : scope.kind = .function) (s : PySem.Shared) (H : LHp) (C : Addr) (cl : List (Str × Addr)) (fp : List Addr) : Good (blkCtx Γ scope) F (X.blk s H scope (PySem.compEnvC scope cl C X.env) fp) := by
  have hs : (PySem.compEnvC scope cl C X.env).scope = L2.relS scope Γ.sc := by rw [← g.sc]; rfl
  refine ⟨hs, g.N, g.nd, ?_, g.calm, g.room, fun x hx => ?_, g.fns, g.csts, g.free⟩
  · show (PySem.compEnvC scope cl C X.env).scope.kind = .function
    rw [hs]
    exact hk
  · have rel : ∀ k, (k = PySem.NameKind.local ∨ k = .cell) → scope.names.lookup x = some k → (L2.relS scope Γ.sc).names.lookup x = some k := fun k hk h => relS_same h (by rcases hk with rfl | rfl <;> decide)
    show L2.Loc (PySem.compEnvC scope cl C X.env).scope x ∧ ((scope.names.lookup x == some .cell) = true ∨ (PySem.compEnvC scope cl C X.env).scope.names.lookup x = some .local)
    rw [hs]
    rcases hx with h | h
    · have h : scope.names.lookup x = some .local := h
      exact ⟨.inl (rel _ (.inl rfl) h), .inr (rel _ (.inl rfl) h)⟩
    · have h : scope.names.lookup x = some .cell := h
      exact ⟨.inr (rel _ (.inr rfl) h), .inl (by rw [h]; rfl)⟩
theorem gl_of {Γ : Ctx} {F : FnS} {X : L2.Cx} (g : Good Γ F X) {x : Str} (h : isGl Γ x = true) : L2.Gl X x ∧ (x == S "__debug__") = false ∧ x ≠ S "__name__" := by
  unfold isGl at h
  simp only [Bool.and_eq_true, decide_eq_true_eq, Bool.not_eq_true', beq_eq_false_iff_ne] at h
  refine ⟨?_, beq_eq_false_iff_ne.mpr h.2.1, h.2.2⟩
  show X.env.scope.names.lookup x = some .globalImplicit
  rw [g.sc]
  exact h.1
theorem vis_of {Γ : Ctx} {F : FnS} {X : L2.Cx} (g : Good Γ F X) {x : Str} (h : isVis Γ x = true) : L2.Vis X.env.scope x ∧ (x == S "__debug__") = false ∧ (x == S "__classdict__") = false := by
  unfold isVis at h
  simp only [Bool.and_eq_true, Bool.or_eq_true, decide_eq_true_eq, Bool.not_eq_true', beq_eq_false_iff_ne] at h
  refine ⟨?_, beq_eq_false_iff_ne.mpr h.2.1, beq_eq_false_iff_ne.mpr h.2.2⟩
  rw [g.sc]
  rcases h.1 with (h | h) | h
  · exact .inl h
  · exact .inr (.inl h)
  · exact .inr (.inr h)
theorem loc_of {Γ : Ctx} {F : FnS} {X : L2.Cx} (g : Good Γ F X) {x : Str} (h : isLoc Γ x = true) : L2.Loc X.env.scope x ∧ (X.fn x = true ∨ X.env.scope.names.lookup x = some .local) := by
  unfold isLoc at h
  simp only [Bool.or_eq_true, decide_eq_true_eq] at h
  exact g.fl x h
theorem ix_of {N : List Str} {x : Str} {i : Nat} (h : ixOf N x = some i) : N[i]? = some x := by
  unfold ixOf at h
  rw [List.findIdx?_eq_some_iff_getElem] at h
  obtain ⟨h1, h2, _⟩ := h
  rw [List.getElem?_eq_getElem h1]
  simpa using h2
/-! ### targets -/
theorem cP_ok {F : FnS} : ∀ (n : Nat) (Γ : Ctx) (X : L2.Cx), Good Γ F X → (∀ e p, cP n Γ e = some p → L2.PG X e (gM X p) ∧ plainE e = true) ∧ ∀ es ps, cPs n Γ es = some ps → es.all plainE = true → L2.PGs X es (gsM X ps) ∧ es.length = ps.length
  | 0, Γ, X, g => ⟨fun e p h => by simp [cP] at h, fun e p h => by simp [cPs] at h⟩
  | n + 1, Γ, X, g => by
    have ih := cP_ok (F := F) n Γ X g
    refine ⟨fun e p h => ?_, fun es ps h hp => ?_⟩
    · unfold cP at h
      cases e <;> simp only at h <;> first | (cases h; done) | skip
      · split at h
        · rename_i hl
          obtain ⟨i, hi, rfl⟩ := Option.map_eq_some_iff.mp h
          exact ⟨pg_slotM g.nd (by rw [g.N]; exact ix_of hi) (loc_of g hl).1 (loc_of g hl).2, rfl⟩
        · cases h
      · split at h
        · rename_i hl
          obtain ⟨ps, hps, rfl⟩ := Option.map_eq_some_iff.mp h
          obtain ⟨a, b⟩ := ih.2 _ _ hps hl
          exact ⟨pg_tupM g.calm a hl b, rfl⟩
        · cases h
    · unfold cPs at h
      cases es with
      | nil => cases h; exact ⟨pgs_nilM, rfl⟩
      | cons e es =>
        simp only at h
        split at h
        · rename_i p ps h1 h2
          cases h
          rw [List.all_cons, Bool.and_eq_true] at hp
          obtain ⟨a, b⟩ := ih.2 _ _ h2 hp.2
          exact ⟨pgs_consM (ih.1 _ _ h1).1 a hp.1, by rw [List.length_cons, List.length_cons, b]⟩
        · cases h
end M

end
section
set_option Elab.async false
set_option linter.all false
set_option autoImplicit false
set_option maxRecDepth 100000
set_option maxHeartbeats 4000000
/-! calls, tables -/
namespace M
open PySem (Addr Obj Value Str Expr Stmt FuncData)
theorem perm_from (zs : List D) : ∀ (m i : Nat), i + m = zs.length → permD zs (List.range' i m) = some (zs.drop i)
  | 0, i, h => by
    rw [List.range'_zero, permD, List.drop_eq_nil_of_le (by omega)]
  | m + 1, i, h => by
    have hi : i < zs.length := by omega
    rw [List.range'_succ, permD, List.getElem?_eq_getElem hi, perm_from zs m (i + 1) (by omega), List.drop_eq_getElem_cons hi]
theorem perm_id (zs : List D) {n : Nat} (h : n = zs.length) : permD zs (List.range n) = some zs := by
  rw [List.range_eq_range', perm_from zs n 0 (by omega), List.drop_zero]
theorem shape_len {fi : FI} {n : Nat} {ks : List Str} {dv : List D} (h : shape fi n ks = some dv) : n + ks.length + dv.length = fi.ps.length ∧ (fi.ps.drop n).take ks.length = ks := by
  unfold shape at h
  split at h
  · rename_i c
    cases h
    rw [List.length_drop]
    exact ⟨by omega, c.2.1⟩
  · cases h
section
variable {X : L2.Cx} {Γ : Ctx} {F : FnS} (hF : FMono F)
include hF
/-- the callee runs -/
theorem run_fnM (g : Good Γ F X) {x : Str} {fi : FI} (hx : Γ.G.fns.lookup x = some fi) {n : Nat} {ks : List Str} {dv : List D} (hs : shape fi n ks = some dv) :
    ∃ f : Addr, X.mg x = some (.ref f) ∧ PySem.W.keepIn X.K (.ref f) = true ∧ ∀ {pins : List (Addr × Obj)} {σ : L2.St} {H : LHp} {s : PySem.Shared} {Q : L2.VK} {us ws : List Value} {vs zs : List LV} {ρ : List Addr} {hp : Hm} {ds : List D}, L2.Inv X pins σ H s → L2.Vals vs us → L2.Vals zs ws → us.length = n → ws.length = ks.length →
      HRX X ρ hp H → RVs X.K ρ H ds (vs ++ zs) → F fi.id (ds ++ dv) hp (PVX X ρ H Q) EN → PySem.wpAny (PySem.model X.prog X.w) X.A (PySem.call (.ref f) us (ks.zip ws)) (L2.EP X pins σ Q) X.xe s := by
  obtain ⟨f, k, fd, FO, hr, hm, hk, hb⟩ := g.fns x fi hx
  refine ⟨f, hm, hk, fun {pins σ H s Q us ws vs zs ρ hp ds} I r rz l1 l2 hrx rv w => ?_⟩
  obtain ⟨dvs, dss, rd, rdv, bt⟩ := hb n ks dv hs
  have r2 : L2.Vals (vs ++ zs ++ dvs) (us ++ ws ++ dss) := (r.append rz).append rd
  have hsp : spF X.prog X.w X.K F fi.id (vs ++ zs ++ dvs) H Q E0 := ⟨ρ, hp, ds ++ dv, hrx, rv.append (rdv ρ H), w⟩
  refine PySem.wpAny_call (PySem.codeAny_mono (FO.run X.A X.stack s H ⟨us, ks.zip ws⟩ (us ++ ws ++ dss) (vs ++ zs ++ dvs) Q E0 hr I.env0 (bt s us ws I.kIn l1 l2) r2 hsp) fun r s' hq => ?_)
  cases r with
  | error e => exact False.elim hq
  | ok fl =>
    cases fl with
    | ret u => exact I.after hq
    | next => exact False.elim hq
    | brk => exact False.elim hq
    | cont => exact False.elim hq
theorem FMono.weak {id : Nat} {ds : List D} {hp : Hm} {ρ ρ1 : List Addr} {H H1 : LHp} {Q : L2.VK} (h : F id ds hp (PVX X ρ H Q) EN) (p : ρ <+: ρ1) (t : TK H H1) : F id ds hp (PVX X ρ1 H1 Q) EN :=
  hF id ds hp _ _ EN h fun d h' q => PV.weak p t q
theorem pe_fnM (g : Good Γ F X) {x : Str} {fi : FI} (hx : Γ.G.fns.lookup x = some fi) (hgl : isGl Γ x = true) {es : List Expr} {cs : List CE} {dv : List D} {p pos : PySem.Pos} (hs : shape fi es.length [] = some dv) (hp : es.all plainE = true) (ha : L2.PA X es (RA X F EN cs)) (hl : es.length = cs.length) :
    L2.PE X (.Call (.Name x p) es [] pos) (RE X F EN (.call fi.id cs dv (List.range fi.ps.length))) := peI fun pins s σ H Q ρ env hp0 N w => by
  obtain ⟨hg, hdb, hn⟩ := gl_of g hgl
  obtain ⟨f, hm, hk, run⟩ := run_fnM hF g hx hs
  unfold wpE at w
  have hlen := (shape_len hs).1
  have w1 := wpEs_len hF cs env hp0 _ w
  refine PySem.wpAny_Call_Name_kw (L2.ld_glob N.I hg hm ?_ hdb)
  cases es with
  | nil =>
    have hc : cs = [] := List.length_eq_zero_iff.mp hl.symm
    subst hc
    refine PySem.W.callWith_K0 N.I.kIn hk ?_
    unfold wpEs at w1
    obtain ⟨zs, e, q⟩ := ws_iff.mp w1.2
    rw [perm_id _ (by simpa using hlen.symm)] at e
    cases e
    exact run (us := []) (ws := []) (vs := []) (zs := []) (ds := []) N.I .nil .nil rfl rfl N.hr .nil q
  | cons e es =>
    have h1 : plainE e = true ∧ es.all plainE = true := by rw [List.all_cons, Bool.and_eq_true] at hp; exact hp
    refine PySem.W.callWith_K (h₀ := X.base) N.I.ok.mod.kin hk (evA hF ha N w1 fun us s1 ds xs ρ1 hp1 H1 N1 p1 t1 rv ru q => ⟨N1.I.kIn, ?_⟩) (star_plain h1.1) (any_plain h1.2)
    obtain ⟨zs, e2, q2⟩ := ws_iff.mp q.2
    rw [perm_id _ (by rw [List.length_append, q.1, ← hl]; simpa using hlen.symm)] at e2
    cases e2
    refine run (us := us) (ws := []) (vs := xs) (zs := []) (ds := ds) N1.I ru .nil ?_ rfl N1.hr (by rw [List.append_nil]; exact rv) (FMono.weak hF q2 p1 t1)
    rw [← ru.length, ← rv.length, q.1, hl]
/-! ### keywords -/
omit hF in
theorem wpEs_app (E : XP) : ∀ (cs ks : List CE) (env : Env) (h : Hm) (Q : List D → Hm → Prop), FMono F → wpEs F E (cs ++ ks) env h Q → wpEs F E cs env h fun ds h1 => wpEs F E ks env h1 fun es h2 => Q (ds ++ es) h2
  | [], ks, env, h, Q, hF, w => by
    unfold wpEs
    exact w
  | c :: cs, ks, env, h, Q, hF, w => by
    rw [List.cons_append] at w
    unfold wpEs at w ⊢
    exact wpE_mono hF c E env h _ _ w fun d h1 q => wpEs_app E cs ks env h1 _ hF q
omit hF in
theorem PK.imp {kws : List PySem.Keyword} {t t' : L2.TA} (h : L2.PK X kws t) (k : ∀ σ H Q, t' σ H Q → t σ H Q) : L2.PK X kws t' := ⟨fun pos pins s σ H Q I q => h.run pos pins s σ H Q I (k σ H Q q)⟩
omit hF in
theorem pk_nilM : L2.PK X [] (RA X F EN []) := PK.imp L2.pk_nil fun σ H Q ⟨ρ, env, hp, hr, he, h⟩ => by
  unfold wpEs at h
  exact h ρ H [] (List.prefix_refl _) (TK.refl _) hr .nil
theorem pk_consM {e : Expr} {nm : Option Str} {kpos : PySem.Pos} {kws : List PySem.Keyword} {c : CE} {cs : List CE} (ha : L2.PE X e (RE X F EN c)) (hr : L2.PK X kws (RA X F EN cs)) : L2.PK X (⟨nm, e, kpos⟩ :: kws) (RA X F EN (c :: cs)) :=
  PK.imp (L2.pk_cons ha hr) fun _ _ _ h => rd_cons hF h
omit hF in
theorem kw_names {pos : PySem.Pos} {env : PySem.Env} : ∀ {kws : List PySem.Keyword}, kws.all (fun k => k.arg.isSome) = true → (PySem.backToKw pos (PySem.keywordEach kws env)).all (·.1.isSome) = true ∧ (PySem.backToKw pos (PySem.keywordEach kws env)).any (·.1.isNone) = false ∧ (PySem.backToKw pos (PySem.keywordEach kws env)).filterMap (·.1) = kws.filterMap (·.arg) ∧ (kws.filterMap (·.arg)).length = kws.length
  | [], _ => ⟨rfl, rfl, rfl, rfl⟩
  | ⟨nm, e, p⟩ :: kws, h => by
    rw [List.all_cons, Bool.and_eq_true] at h
    obtain ⟨h1, h2, h3, h4⟩ := kw_names (pos := pos) (env := env) h.2
    obtain ⟨n, hn⟩ := Option.isSome_iff_exists.mp h.1
    have hn : nm = some n := hn
    subst hn
    refine ⟨?_, ?_, ?_, ?_⟩
    · show (true && _) = true
      rw [Bool.true_and]; exact h1
    · show (false || _) = false
      rw [Bool.false_or]; exact h2
    · show n :: List.filterMap (·.1) (PySem.backToKw pos (PySem.keywordEach kws env)) = n :: kws.filterMap (·.arg)
      rw [h3]
    · show (n :: kws.filterMap (·.arg)).length = kws.length + 1
      rw [List.length_cons, h4]
theorem pe_fnkM (g : Good Γ F X) {x : Str} {fi : FI} (hx : Γ.G.fns.lookup x = some fi) (hgl : isGl Γ x = true) {es : List Expr} {kws : List PySem.Keyword} {cs ks : List CE} {dv : List D} {p pos : PySem.Pos} (hs : shape fi es.length (kws.filterMap (·.arg)) = some dv) (hp : es.all plainE = true) (hkw : kws.all (fun k => k.arg.isSome) = true) (ha : L2.PA X es (RA X F EN cs)) (hl : es.length = cs.length) (hk : L2.PK X kws (RA X F EN ks)) (hlk : kws.length = ks.length) :
    L2.PE X (.Call (.Name x p) es kws pos) (RE X F EN (.call fi.id (cs ++ ks) dv (List.range fi.ps.length))) := peI fun pins s σ H Q ρ env hp0 N w => by
  obtain ⟨hg, hdb, hn⟩ := gl_of g hgl
  obtain ⟨f, hm, hkp, run⟩ := run_fnM hF g hx hs
  obtain ⟨k1, k2, k3, k4⟩ := kw_names (pos := pos) (env := X.env) hkw
  unfold wpE at w
  have hlen := (shape_len hs).1
  have w1 := wpEs_len hF cs env hp0 _ (wpEs_app EN cs ks env hp0 _ hF w)
  -- the keywords behind the positional ones
  have kwrun : ∀ (us : List Value) (xs : List LV) (ds : List D) (s1 : PySem.Shared) (ρ1 : List Addr) (hp1 : Hm) (H1 : LHp), Now X pins σ env ρ1 hp1 H1 s1 → ρ <+: ρ1 → TK H H1 → RVs X.K ρ1 H1 ds xs → L2.Vals xs us → ds.length = cs.length → wpEs F EN ks env hp1 (fun es h2 => ws (permD (ds ++ es ++ dv) (List.range fi.ps.length)) fun zs => F fi.id zs h2 (PVX X ρ H Q) EN) →
      PySem.wpAny (PySem.model X.prog X.w) X.A (PySem.evalAll ((PySem.backToKw pos (PySem.keywordEach kws X.env)).map (·.2))) (fun zs s2 => X.K.In s2.heap ∧ PySem.wpAny (PySem.model X.prog X.w) X.A (PySem.call (.ref f) us (((PySem.backToKw pos (PySem.keywordEach kws X.env)).filterMap (·.1)).zip zs)) (L2.EP X pins σ Q) X.xe s2) X.xe s1 := by
    intro us xs ds s1 ρ1 hp1 H1 N1 p1 t1 rv ru hds w2
    refine L2.thn (hk.run pos pins s1 σ H1 (fun zs H' => ∃ ρ' hp' es, ρ1 <+: ρ' ∧ TK H1 H' ∧ HRX X ρ' hp' H' ∧ RVs X.K ρ' H' es zs ∧ es.length = ks.length ∧ ws (permD (ds ++ es ++ dv) (List.range fi.ps.length)) fun zs => F fi.id zs hp' (PVX X ρ H Q) EN) N1.I ⟨ρ1, env, hp1, N1.hr, N1.he, wpEs_mono hF ks EN env hp1 _ _ (wpEs_len hF ks env hp1 _ w2) fun es h2 q ρ' H' zs p t hr rv => ⟨ρ', h2, es, p, t, hr, rv, q.1, q.2⟩⟩) ?_
    intro zs s2 ⟨zv, H2, I2, rz, ρ2, hp2, es, p2, t2, hr2, rv2, hes, q2⟩
    refine ⟨I2.kIn, ?_⟩
    rw [k3]
    obtain ⟨ys, e2, q3⟩ := ws_iff.mp q2
    rw [perm_id _ (by rw [List.length_append, List.length_append, hds, hes, ← hl, ← hlk, ← k4]; omega)] at e2
    cases e2
    refine run (us := us) (ws := zs) (vs := xs) (zs := zv) (ds := ds ++ es) I2 ru rz ?_ ?_ hr2 ((rv.mono p2 t2).append rv2) (FMono.weak hF q3 (p1.trans p2) (t1.trans t2))
    · rw [← ru.length, ← rv.length, hds, hl]
    · rw [← rz.length, ← rv2.length, hes, ← hlk, ← k4]
  refine PySem.wpAny_Call_Name_kw (L2.ld_glob N.I hg hm ?_ hdb)
  cases es with
  | nil =>
    have hc : cs = [] := List.length_eq_zero_iff.mp hl.symm
    subst hc
    unfold wpEs at w1
    refine PySem.W.callWith_KW0 (h₀ := X.base) N.I.ok.mod.kin hkp k1 ?_ (by rw [k2]; rfl)
    exact kwrun [] [] [] s ρ hp0 H N (List.prefix_refl _) (TK.refl _) .nil .nil rfl w1.2
  | cons e es =>
    have h1 : plainE e = true ∧ es.all plainE = true := by rw [List.all_cons, Bool.and_eq_true] at hp; exact hp
    refine PySem.W.callWith_KW (h₀ := X.base) N.I.ok.mod.kin hkp k1 (evA hF ha N w1 fun us s1 ds xs ρ1 hp1 H1 N1 p1 t1 rv ru q => ?_) (by rw [any_plain hp, k2]; rfl) (star_plain h1.1)
    exact kwrun us xs ds s1 ρ1 hp1 H1 N1 p1 t1 rv ru q.1 q.2
end
/-! ### the tables -/
theorem free_in {x : String} (h : x ∈ freeNames) {Γ : Ctx} {F : FnS} {X : L2.Cx} (g : Good Γ F X) : X.mg (S x) = none := g.free x h
theorem boot_tab : (bltTab.all fun r => decide (PySem.bootBuiltins (S r.1) = some r.2.2.2) && freeNames.contains r.1 && decide (r.2.1 ≠ 0)) = true := by decide +kernel
theorem boot_ty : (tyTab.all fun t => decide (PySem.bootBuiltins (S (tyName t)) = some (.type (tyName t))) && freeNames.contains (tyName t)) = true := by decide +kernel
section
variable {X : L2.Cx} {Γ : Ctx} {F : FnS}
theorem blt_call (g : Good Γ F X) : ∀ r ∈ bltTab, ((∃ id, r.2.2.2 = Value.builtin id) ∨ ∃ T, r.2.2.2 = .type T) ∧ L2.CallR X r.2.2.2 (liftA X (bltS r.2.2.1)) := by
  intro r hr
  have hu := g.hu
  have hc := g.calm
  simp only [bltTab, List.mem_cons, List.mem_nil_iff, or_false] at hr
  rcases hr with rfl | rfl | rfl | rfl | rfl | rfl | rfl | rfl | rfl | rfl | rfl | rfl | rfl | rfl
  · exact ⟨.inl ⟨_, rfl⟩, call_lenM⟩
  · exact ⟨.inl ⟨_, rfl⟩, call_absM⟩
  · exact ⟨.inr ⟨_, rfl⟩, call_intM⟩
  · exact ⟨.inl ⟨_, rfl⟩, call_max2M hc⟩
  · exact ⟨.inl ⟨_, rfl⟩, call_max1M hc⟩
  · exact ⟨.inl ⟨_, rfl⟩, call_min2M hc⟩
  · exact ⟨.inl ⟨_, rfl⟩, call_min1M hc⟩
  · exact ⟨.inl ⟨_, rfl⟩, call_sumM hc⟩
  · exact ⟨.inl ⟨_, rfl⟩, call_allM hc⟩
  · exact ⟨.inl ⟨_, rfl⟩, call_anyM hc⟩
  · exact ⟨.inl ⟨_, rfl⟩, call_sortedM hc hu⟩
  · exact ⟨.inr ⟨_, rfl⟩, call_tupleM⟩
  · exact ⟨.inr ⟨_, rfl⟩, call_listM hc⟩
  · exact ⟨.inr ⟨_, rfl⟩, call_dictM hc⟩
theorem meth_call (g : Good Γ F X) : ∀ r ∈ methTab, (∃ T, T = (if isDM r.2.2.1 = true then "dict" else "list") ∧ PySem.PlainAttrs T ∧ PySem.Slot T (S r.1) r.2.2.2 ∧ PySem.typeOf (.builtin r.2.2.2) = pure (.type "method_descriptor")) ∧ L2.MtR X r.2.2.2 (liftM X r.2.2.1) := by
  intro r hr
  have hu := g.hu
  simp only [methTab, List.mem_cons, List.mem_nil_iff, or_false] at hr
  rcases hr with rfl | rfl | rfl | rfl | rfl | rfl | rfl | rfl
  · exact ⟨⟨_, rfl, PySem.F.plainAttrs_list, PySem.F.slot_list_append, PySem.F.type_list_append⟩, mt_appendM⟩
  · exact ⟨⟨_, rfl, PySem.F.plainAttrs_list, PySem.F.slot_list_extend, PySem.F.type_list_extend⟩, mt_extendM⟩
  · exact ⟨⟨_, rfl, PySem.F.plainAttrs_list, PySem.F.slot_list_pop, PySem.F.type_list_pop⟩, mt_pop0M⟩
  · exact ⟨⟨_, rfl, PySem.F.plainAttrs_list, PySem.F.slot_list_pop, PySem.F.type_list_pop⟩, mt_popIM⟩
  · exact ⟨⟨_, rfl, PySem.F.plainAttrs_list, PySem.F.slot_list_index, PySem.F.type_list_index⟩, mt_indexM (by omega)⟩
  · exact ⟨⟨_, rfl, PySem.F.plainAttrs_list, PySem.F.slot_list_insert, PySem.F.type_list_insert⟩, mt_insertM⟩
  · exact ⟨⟨_, rfl, PySem.F.plainAttrs_dict, PySem.F.slot_dict_setdefault, PySem.F.type_dict_setdefault⟩, mt_setdM hu⟩
  · exact ⟨⟨_, rfl, PySem.F.plainAttrs_dict, PySem.F.slot_dict_get, PySem.F.type_dict_get⟩, mt_getM hu⟩
end
end M

end
section
set_option Elab.async false
set_option linter.all false
set_option autoImplicit false
set_option maxRecDepth 100000
set_option maxHeartbeats 4000000
/-! expressions: soundness -/
namespace M
open PySem (Addr Obj Value Str Expr Stmt FuncData)
section
variable {F : FnS} (hF : FMono F)
theorem two_of {α : Type} {l : List α} (h : l.length = 2) : ∃ a b, l = [a, b] := by
  rcases l with _ | ⟨a, _ | ⟨b, _ | ⟨c, l⟩⟩⟩ <;> first | exact ⟨a, b, rfl⟩ | simp at h
structure SndE (F : FnS) (n : Nat) (Γ : Ctx) (X : L2.Cx) : Prop where
  e : ∀ e c, cE n Γ e = some c → L2.PE X e (RE X F EN c) ∧ L2.PT X e (RT X F EN c)
  es : ∀ es cs, cEs n Γ es = some cs → es.all plainE = true → L2.PA X es (RA X F EN cs) ∧ es.length = cs.length
  ks : ∀ kws cs, cEs n Γ (kws.map (fun k : PySem.Keyword => k.value)) = some cs → L2.PK X kws (RA X F EN cs) ∧ kws.length = cs.length
  ts : ∀ es cs, cEs n Γ es = some cs → es.length ≤ 1 → L2.PTs X es (tsM X F cs)
  b : ∀ op es c pos, cB n Γ op es = some c → L2.PE X (.BoolOp op es pos) (RE X F EN c) ∧ L2.PW X (.BoolOp op es pos) (RT X F EN c)
  o : ∀ o c, cO n Γ o = some c → PoM X F EN o c
  pe : ∀ es cs, cEs n Γ es = some cs → PEL X F EN es cs
  i : ∀ tg iter I, cI n Γ tg iter = some I → L2.PI X tg iter (iM X F EN I.1 I.2)
theorem op_of {X : L2.Cx} {op : PySem.Operator} {o : Bop} (h : bopOf op = some o) : L2.OpR X (PySem.binaryOp op) (liftR X (binS o)) := by
  cases op <;> simp only [bopOf] at h <;> first | (cases h; done) | (cases h; first | exact op_addM | exact op_subM | exact op_mulM | exact op_fdivM | exact op_modM | exact op_powM)
theorem cop_ok {X : L2.Cx} (hu : X.A.units + 80 < PySem.cLine) (op : PySem.CmpOp) : L2.OpR X (PySem.compareOp op) (liftC X fun x y h => cmpS (copOf op) x y h) := by
  cases op
  · exact op_eqM (by omega)
  · exact op_neM (by omega)
  · exact op_ltM
  · exact op_leM
  · exact op_gtM
  · exact op_geM
  · exact op_isM.1
  · exact op_isM.2
  · exact (op_inM hu).1
  · exact (op_inM hu).2
theorem lit_ok {X : L2.Cx} {c : PySem.Const} {d : D} {j : Nat} {pos : PySem.Pos} (h : litOf c = some d) : L2.PE X (.Constant c j pos) (RE X F EN (.lit d)) := by
  cases c <;> simp only [litOf] at h <;> first | (cases h; done) | skip
  · cases h; exact pe_nonM
  · cases h; exact pe_blM
  · cases h; exact pe_intM
  · split at h
    · rename_i hs
      cases h
      exact pe_strM hs
    · cases h
include hF
theorem tgl {es : List Expr} {cs : List CE} {X : L2.Cx} (h : es.length = cs.length) : es = [] → cs = [] := fun e => by
  subst e
  exact List.length_eq_zero_iff.mp h.symm
omit hF in
theorem tup_is {tg : Expr} (h : isTupE tg = true) : ∃ elts kk pos, tg = .Tuple elts kk pos := by
  cases tg <;> first | exact ⟨_, _, _, rfl⟩ | exact Bool.noConfusion h
omit hF in
theorem fold_no {e : Expr} {env : PySem.Env} (h : notSet e = true) : ∀ x, PySem.foldedSetIterable e env x = pure x := by
  intro x
  cases e <;> first | rfl | exact Bool.noConfusion h
theorem snd_i (n : Nat) (ih : ∀ Γ X, Good Γ F X → SndE F n Γ X) (Γ : Ctx) (X : L2.Cx) (g : Good Γ F X) (tg iter : Expr) (I : IK × List CE) (h : cI (n + 1) Γ tg iter = some I) : L2.PI X tg iter (iM X F EN I.1 I.2) := by
  have val : ∀ (e : Expr), ((cE n Γ e).map fun c => (IK.val, [c])) = some I → L2.PI X tg e (iM X F EN I.1 I.2) := fun e h => by
    obtain ⟨c, hc, rfl⟩ := Option.map_eq_some_iff.mp h
    exact pi_valM hF ((ih Γ X g).e e c hc).1
  unfold cI at h
  split at h
  · rename_i x p es pos
    have free : ∀ s, s ∈ freeNames → x = S s → X.mg x = none := fun s hs e => by rw [e]; exact g.free s hs
    split at h
    · rename_i hc
      obtain ⟨h1, h2, h3, h4, h5⟩ := hc
      obtain ⟨cs, hcs, rfl⟩ := Option.map_eq_some_iff.mp h
      obtain ⟨ha, hl⟩ := (ih Γ X g).es es cs hcs h2
      have hm := free "range" (by decide) h4
      have hg := (gl_of g h1).1
      rcases h5 with h5 | h5
      · obtain ⟨a, rfl⟩ := List.length_eq_one_iff.mp h5
        obtain ⟨c, rfl⟩ := List.length_eq_one_iff.mp (hl.symm.trans h5)
        exact pi_rng1M hF h4 hg hm ha (by simpa using h2)
      · obtain ⟨a, b, rfl⟩ := two_of h5
        obtain ⟨c, d, rfl⟩ := two_of (hl.symm.trans h5)
        rw [List.all_cons, List.all_cons, Bool.and_eq_true, Bool.and_eq_true] at h2
        exact pi_rng2M hF h4 hg hm ha h2.1 h2.2.1
    · split at h
      · rename_i hc
        obtain ⟨h1, h2, h3, h4, h5, h6⟩ := hc
        obtain ⟨cs, hcs, rfl⟩ := Option.map_eq_some_iff.mp h
        obtain ⟨ha, hl⟩ := (ih Γ X g).es es cs hcs h2
        have hm := free "zip" (by decide) h4
        have hg := (gl_of g h1).1
        obtain ⟨elts, kk, tpos, rfl⟩ := tup_is h6
        obtain ⟨a, b, rfl⟩ := two_of h5
        obtain ⟨c, d, rfl⟩ := two_of (hl.symm.trans h5)
        rw [List.all_cons, List.all_cons, Bool.and_eq_true, Bool.and_eq_true] at h2
        exact pi_zipM hF h4 hg hm ha h2.1 h2.2.1
      · split at h
        · rename_i hc
          obtain ⟨h1, h2, h3, h4, h5, h6⟩ := hc
          obtain ⟨cs, hcs, rfl⟩ := Option.map_eq_some_iff.mp h
          obtain ⟨ha, hl⟩ := (ih Γ X g).es es cs hcs h2
          have hm := free "enumerate" (by decide) h4
          have hg := (gl_of g h1).1
          obtain ⟨elts, kk, tpos, rfl⟩ := tup_is h6
          obtain ⟨a, rfl⟩ := List.length_eq_one_iff.mp h5
          obtain ⟨c, rfl⟩ := List.length_eq_one_iff.mp (hl.symm.trans h5)
          exact pi_enumM hF h4 hg hm ha (by simpa using h2)
        · exact val _ h
  · exact val _ h
theorem snd_es (n : Nat) (ih : ∀ Γ X, Good Γ F X → SndE F n Γ X) (Γ : Ctx) (X : L2.Cx) (g : Good Γ F X) (es : List Expr) (cs : List CE) (h : cEs (n + 1) Γ es = some cs) :
    (es.all plainE = true → L2.PA X es (RA X F EN cs) ∧ es.length = cs.length) ∧ (es.length ≤ 1 → L2.PTs X es (tsM X F cs)) := by
  unfold cEs at h
  cases es with
  | nil => cases h; exact ⟨fun _ => ⟨pa_nilM, rfl⟩, fun _ => pts_nilM⟩
  | cons e es =>
    simp only at h
    split at h
    · rename_i c cs' h1 h2
      cases h
      refine ⟨fun hp => ?_, fun hl => ?_⟩
      · rw [List.all_cons, Bool.and_eq_true] at hp
        obtain ⟨a, b⟩ := (ih Γ X g).es es cs' h2 hp.2
        exact ⟨pa_consM hF ((ih Γ X g).e e c h1).1 a (star_plain hp.1), by rw [List.length_cons, List.length_cons, b]⟩
      · have hz : es = [] := List.length_eq_zero_iff.mp (by simpa using hl)
        subst hz
        obtain ⟨_, b⟩ := (ih Γ X g).es [] cs' h2 rfl
        have : cs' = [] := List.length_eq_zero_iff.mp b.symm
        subst this
        exact pts_oneM hF ((ih Γ X g).e e c h1).2
    · cases h
theorem snd_pe (n : Nat) (ih : ∀ Γ X, Good Γ F X → SndE F n Γ X) (Γ : Ctx) (X : L2.Cx) (g : Good Γ F X) (es : List Expr) (cs : List CE) (h : cEs (n + 1) Γ es = some cs) : PEL X F EN es cs := by
  unfold cEs at h
  cases es with
  | nil => cases h; exact trivial
  | cons e es =>
    simp only at h
    split at h
    · rename_i c cs' h1 h2
      cases h
      exact ⟨((ih Γ X g).e e c h1).1, (ih Γ X g).pe es cs' h2⟩
    · cases h
theorem snd_ks (n : Nat) (ih : ∀ Γ X, Good Γ F X → SndE F n Γ X) (Γ : Ctx) (X : L2.Cx) (g : Good Γ F X) (kws : List PySem.Keyword) (cs : List CE) (h : cEs (n + 1) Γ (kws.map (fun k : PySem.Keyword => k.value)) = some cs) : L2.PK X kws (RA X F EN cs) ∧ kws.length = cs.length := by
  unfold cEs at h
  cases kws with
  | nil => cases h; exact ⟨pk_nilM, rfl⟩
  | cons k ks =>
    rw [List.map_cons] at h
    simp only at h
    split at h
    · rename_i c cs' h1 h2
      cases h
      obtain ⟨a, b⟩ := (ih Γ X g).ks ks cs' h2
      obtain ⟨nm, e, p⟩ := k
      exact ⟨pk_consM hF ((ih Γ X g).e e c h1).1 a, by rw [List.length_cons, List.length_cons, b]⟩
    · cases h
theorem snd_b (n : Nat) (ih : ∀ Γ X, Good Γ F X → SndE F n Γ X) (Γ : Ctx) (X : L2.Cx) (g : Good Γ F X) (op : PySem.BoolOp) (es : List Expr) (c : CE) (pos : PySem.Pos) (h : cB (n + 1) Γ op es = some c) :
    L2.PE X (.BoolOp op es pos) (RE X F EN c) ∧ L2.PW X (.BoolOp op es pos) (RT X F EN c) := by
  unfold cB at h
  split at h
  · cases h
  · rename_i e
    obtain ⟨a, b⟩ := (ih Γ X g).e e c h
    cases op
    · exact ⟨L2.pe_one a, pw_and1M b⟩
    · exact ⟨L2.pe_one a, pw_or1M b⟩
  · rename_i e r hne
    split at h
    · rename_i x y h1 h2
      cases h
      obtain ⟨a, b⟩ := (ih Γ X g).e e x h1
      obtain ⟨a', b'⟩ := (ih Γ X g).b op r y pos h2
      rcases r with _ | ⟨e2, r⟩
      · exact absurd rfl hne
      · cases op
        · exact ⟨pe_andM hF a a', pw_andM hF b b'⟩
        · exact ⟨pe_orM hF a a', pw_orM hF b b'⟩
    · cases h
theorem snd_o (n : Nat) (ih : ∀ Γ X, Good Γ F X → SndE F n Γ X) (Γ : Ctx) (X : L2.Cx) (g : Good Γ F X) (o : Option Expr) (c : CE) (h : cO (n + 1) Γ o = some c) : PoM X F EN o c := by
  unfold cO at h
  cases o with
  | none => cases h; exact .inl ⟨rfl, rfl⟩
  | some e => exact .inr ⟨e, rfl, ((ih Γ X g).e e c h).1⟩
theorem snd_call (n : Nat) (ih : ∀ Γ X, Good Γ F X → SndE F n Γ X) (Γ : Ctx) (X : L2.Cx) (g : Good Γ F X) (f : Expr) (es : List Expr) (kws : List PySem.Keyword) (pos : PySem.Pos) (c : CE) (h : cE (n + 1) Γ (.Call f es kws pos) = some c) : L2.PE X (.Call f es kws pos) (RE X F EN c) := by
  unfold cE at h
  simp only at h
  cases f <;> simp only at h <;> first | (cases h; done) | skip
  · -- a method
    rename_i o m apos
    split at h
    · rename_i hc
      obtain ⟨hb, hl, hp⟩ := hc
      cases kws with
      | cons _ _ => cases h
      | nil =>
        simp only at h
        split at h
        · rename_i r co cs h1 h2 h3
          cases h
          unfold methOf at h1
          have hr := List.mem_of_find?_eq_some h1
          have hq := List.find?_some h1
          rw [Bool.and_eq_true, decide_eq_true_eq] at hq
          obtain ⟨⟨T, hT, pa, slot, hty⟩, hm⟩ := meth_call g r hr
          obtain ⟨ha, hlen⟩ := (ih Γ X g).es es cs h3 hp
          rw [hq.1] at slot
          have hn : es.length < 30 := by
            have e1 : r.2.1 = es.length := by simpa using hq.2
            have : ∀ r ∈ methTab, r.2.1 < 30 := by decide
            have := this r hr
            omega
          exact pe_methM hF hT pa slot hty hm ((ih Γ X g).e o co h2).1 ha hb hl hp hn (tgl hF (X := X) hlen)
        · cases h
    · cases h
  · -- a name
    rename_i x p
    split at h
    · rename_i hc
      obtain ⟨hgl, hp⟩ := hc
      obtain ⟨hg, hdb, hn⟩ := gl_of g hgl
      split at h
      · rename_i fi hx
        cases kws with
        | cons k ks =>
          simp only at h
          split at h
          · rename_i hkw
            split at h
            · rename_i cs cs' dv h1 h2 h3
              cases h
              obtain ⟨ha, hlen⟩ := (ih Γ X g).es es cs h1 hp
              obtain ⟨hk, hlk⟩ := (ih Γ X g).ks (k :: ks) cs' h2
              exact pe_fnkM hF g hx hgl h3 hp hkw ha hlen hk hlk
            · cases h
          · cases h
        | nil =>
          simp only at h
          split at h
          · rename_i cs dv h1 h2
            cases h
            obtain ⟨ha, hlen⟩ := (ih Γ X g).es es cs h1 hp
            exact pe_fnM hF g hx hgl h2 hp ha hlen
          · cases h
      · cases kws with
        | cons _ _ => cases h
        | nil =>
          simp only at h
          split at h
          · rename_i r h1
            unfold bltOf at h1
            have hr := List.mem_of_find?_eq_some h1
            have hq := List.find?_some h1
            rw [Bool.and_eq_true, decide_eq_true_eq] at hq
            obtain ⟨hu, hcall⟩ := blt_call g r hr
            have ht := List.all_eq_true.mp boot_tab r hr
            rw [Bool.and_eq_true, Bool.and_eq_true, decide_eq_true_eq, decide_eq_true_eq] at ht
            have hm : X.mg x = none := by rw [← hq.1]; exact g.free r.1 (by simpa using ht.1.2)
            have hv : PySem.bootBuiltins x = some r.2.2.2 := by rw [← hq.1]; exact ht.1.1
            have e1 : r.2.1 = es.length := by simpa using hq.2
            have old : ∀ cs, cEs n Γ es = some cs → L2.PE X (.Call (.Name x p) es [] pos) (RE X F EN (.blt r.2.2.1 cs)) := fun cs hcs => by
              obtain ⟨ha, hlen⟩ := (ih Γ X g).es es cs hcs hp
              cases es with
              | nil => exact absurd e1 ht.2
              | cons e es => exact pe_bltM hF hu hcall hg hm hv hn hdb ha hp
            split at h
            · rename_i as has
              have hes : ∃ y p2 pos2, es = [.Call (.Name y p2) as [] pos2] ∧ isGl Γ y = true ∧ y = S "range" := by
                unfold rngOf at has
                split at has
                · split at has
                  · rename_i hc
                    cases has
                    exact ⟨_, _, _, rfl, hc.1, hc.2⟩
                  · cases has
                · cases has
              obtain ⟨y, p2, pos2, rfl, hy1, hy2⟩ := hes
              have hgy := (gl_of g hy1).1
              have hmy : X.mg y = none := by rw [hy2]; exact g.free "range" (by decide)
              split at h
              · rename_i hb
                have hx : x = S "tuple" := by
                  have : ∀ r ∈ bltTab, r.2.2.1 = .tuple → r.1 = "tuple" := by decide
                  rw [← hq.1, this r hr hb]
                split at h
                · rename_i hc
                  obtain ⟨cs, hcs, rfl⟩ := Option.map_eq_some_iff.mp h
                  obtain ⟨ha, hlen⟩ := (ih Γ X g).es as cs hcs hc.1
                  have hpe := (ih Γ X g).pe as cs hcs
                  obtain ⟨a, rfl⟩ := List.length_eq_one_iff.mp hc.2
                  obtain ⟨c, rfl⟩ := List.length_eq_one_iff.mp (hlen.symm.trans hc.2)
                  have hpl := hc.1
                  rw [List.all_cons, Bool.and_eq_true] at hpl
                  exact pe_tupRgM hF hx hy2 g.calm hg hm hgy hmy (star_plain hpl.1) hpe.1
                · cases h
              · rename_i hb
                have hx : x = S "list" := by
                  have : ∀ r ∈ bltTab, r.2.2.1 = .list → r.1 = "list" := by decide
                  rw [← hq.1, this r hr hb]
                split at h
                · rename_i hc
                  obtain ⟨cs, hcs, rfl⟩ := Option.map_eq_some_iff.mp h
                  obtain ⟨ha, hlen⟩ := (ih Γ X g).es as cs hcs hc.1
                  have hpe := (ih Γ X g).pe as cs hcs
                  rcases hc.2 with h5 | h5
                  · obtain ⟨a, rfl⟩ := List.length_eq_one_iff.mp h5
                    obtain ⟨c, rfl⟩ := List.length_eq_one_iff.mp (hlen.symm.trans h5)
                    have hpl := hc.1
                    rw [List.all_cons, Bool.and_eq_true] at hpl
                    exact pe_lstRgM hF hx hy2 g.calm hg hm hgy hmy (star_plain hpl.1) hpe.1
                  · obtain ⟨a, b, rfl⟩ := two_of h5
                    obtain ⟨c, d, rfl⟩ := two_of (hlen.symm.trans h5)
                    have hpl := hc.1
                    rw [List.all_cons, List.all_cons, Bool.and_eq_true, Bool.and_eq_true] at hpl
                    exact pe_lstRg2M hF hx hy2 g.calm hg hm hgy hmy (star_plain hpl.1) (star_plain hpl.2.1) hpe.1 hpe.2.1
                · cases h
              · obtain ⟨cs, hcs, rfl⟩ := Option.map_eq_some_iff.mp h
                exact old cs hcs
            · obtain ⟨cs, hcs, rfl⟩ := Option.map_eq_some_iff.mp h
              exact old cs hcs
          · split at h
            · rename_i hx
              split at h
              · rename_i a y p2 _
                split at h
                · rename_i hy
                  split at h
                  · rename_i t ca h1 h2
                    cases h
                    unfold tyOf at h1
                    have hr := List.mem_of_find?_eq_some h1
                    have hq := List.find?_some h1
                    rw [decide_eq_true_eq] at hq
                    have ht := List.all_eq_true.mp boot_ty t hr
                    rw [Bool.and_eq_true, decide_eq_true_eq] at ht
                    obtain ⟨hg2, hdb2, hn2⟩ := gl_of g hy
                    have hm : X.mg x = none := by rw [hx]; exact g.free "isinstance" (by decide)
                    have hm2 : X.mg y = none := by rw [← hq]; exact g.free (tyName t) (by simpa using ht.2)
                    have hv2 : PySem.bootBuiltins y = some (.type (tyName t)) := by rw [← hq]; exact ht.1
                    have hv : PySem.bootBuiltins x = some (.builtin "isinstance") := by rw [hx]; exact PyProof.Rows.boot_isinstance
                    rw [List.all_cons, Bool.and_eq_true] at hp
                    exact pe_isiM hF hx hg hm hv hg2 hm2 hv2 hn2 hdb2 ((ih Γ X g).e a ca h2).1 hp.1
                  · cases h
                · cases h
              · cases h
            · cases h
    · cases h
end
end M

end
section
set_option Elab.async false
set_option linter.all false
set_option autoImplicit false
set_option maxRecDepth 100000
set_option maxHeartbeats 4000000
/-! expressions: soundness, the induction -/
namespace M
open PySem (Addr Obj Value Str Expr Stmt FuncData)
theorem plainIx_ok {s : Expr} (h : plainIx s = true) : L2.PlainIx s := fun o i => by
  cases s <;> first | rfl | exact Bool.noConfusion h
section
variable {F : FnS} (hF : FMono F)
include hF
theorem snd_comp (n : Nat) (ih : ∀ Γ X, Good Γ F X → SndE F n Γ X) (Γ : Ctx) (X : L2.Cx) (g : Good Γ F X) (elt tg iter : Expr) (ifs : List Expr) (scope : PySem.Scope) (pos : PySem.Pos) (c : CE) (h : cE (n + 1) Γ (.ListComp elt [⟨tg, iter, ifs, 0⟩] scope pos) = some c) :
    ∃ own p k it cs ce, c = .comp (own.map (·.2)) p k it cs ce ∧ (∀ i ∈ slotsP p, i ∈ own.map (·.2)) ∧ L2.PI X tg iter (iM X F EN k it) ∧ L2.BlkOk X.N X.env.scope scope own ∧
      (∀ (s : PySem.Shared) (H : LHp) (C : Addr) (cl : List (Str × Addr)) (fp : List Addr), L2.PG (X.blk s H scope (PySem.compEnvC scope cl C X.env) fp) tg (gM X p)) ∧ (∀ (s : PySem.Shared) (H : LHp) (C : Addr) (cl : List (Str × Addr)) (fp : List Addr), L2.PTs (X.blk s H scope (PySem.compEnvC scope cl C X.env) fp) ifs (tsM X F cs)) ∧
      (∀ (s : PySem.Shared) (H : LHp) (C : Addr) (cl : List (Str × Addr)) (fp : List Addr), L2.PE (X.blk s H scope (PySem.compEnvC scope cl C X.env) fp) elt (RE X F EN ce)) ∧ ∀ x, PySem.foldedSetIterable iter X.env x = pure x := by
  unfold cE at h
  simp only at h
  split at h
  · rename_i hc
    obtain ⟨_, hb, hs, hl⟩ := hc
    split at h
    · rename_i I p cs ce h1 h2 h3 h4
      split at h
      · rename_i ho
        cases h
        have ok := L2.blkOk_by hb
        have gb := fun s H C cl fp => g.blk scope ok.kind s H C cl fp
        refine ⟨ownOf Γ.N scope, p, I.1, I.2, cs, ce, rfl, fun i hi => ?_, (ih Γ X g).i tg iter I h1, by rw [g.N, g.sc]; exact ok, fun s H C cl fp => ?_, fun s H C cl fp => ?_, fun s H C cl fp => ?_, fold_no hs⟩
        · have := List.all_eq_true.mp ho i hi
          simpa using this
        · exact ((cP_ok n _ _ (gb s H C cl fp)).1 tg p h2).1
        · exact (ih _ _ (gb s H C cl fp)).ts ifs cs h3 hl
        · exact ((ih _ _ (gb s H C cl fp)).e elt ce h4).1
      · cases h
    · cases h
  · cases h
theorem snd_dcomp (n : Nat) (ih : ∀ Γ X, Good Γ F X → SndE F n Γ X) (Γ : Ctx) (X : L2.Cx) (g : Good Γ F X) (ke va : Expr) (gs : List PySem.Comprehension) (scope : PySem.Scope) (pos : PySem.Pos) (c : CE) (h : cE (n + 1) Γ (.DictComp ke va gs scope pos) = some c) : L2.PE X (.DictComp ke va gs scope pos) (RE X F EN c) := by
  unfold cE at h
  simp only at h
  split at h
  · rename_i tg iter ifs a
    split at h
    · rename_i hc
      obtain ⟨rfl, hb, hs, hl⟩ := hc
      split at h
      · rename_i I p cs ck cv h1 h2 h3 h4 h5
        split at h
        · rename_i ho
          cases h
          have ok := L2.blkOk_by hb
          have gb := fun s H C cl fp => g.blk scope ok.kind s H C cl fp
          refine pe_dcompM hF (fun i hi => ?_) g.calm g.nd ((ih Γ X g).i tg iter I h1) (by rw [g.N, g.sc]; exact ok) (fun s H C cl fp => ?_) (fun s H C cl fp => ?_) (fun s H C cl fp => ?_) (fun s H C cl fp => ?_) (fold_no hs)
          · have := List.all_eq_true.mp ho i hi
            simpa using this
          · exact ((cP_ok n _ _ (gb s H C cl fp)).1 tg p h2).1
          · exact (ih _ _ (gb s H C cl fp)).ts ifs cs h3 hl
          · exact ((ih _ _ (gb s H C cl fp)).e ke ck h4).1
          · exact ((ih _ _ (gb s H C cl fp)).e va cv h5).1
        · cases h
      · cases h
    · cases h
  · cases h
theorem snd_e (n : Nat) (ih : ∀ Γ X, Good Γ F X → SndE F n Γ X) (Γ : Ctx) (X : L2.Cx) (g : Good Γ F X) (e : Expr) (c : CE) (h : cE (n + 1) Γ e = some c) : L2.PE X e (RE X F EN c) ∧ L2.PT X e (RT X F EN c) := by
  have hu := g.hu
  cases e with
  | Call f es kws pos => exact ⟨snd_call hF n ih Γ X g f es kws pos c h, pt_valM hF (snd_call hF n ih Γ X g f es kws pos c h) fun _ => rfl⟩
  | Name x pos =>
    unfold cE at h
    simp only at h
    have k : L2.PE X (.Name x pos) (RE X F EN c) := by
      split at h
      · rename_i hv
        obtain ⟨i, hi, rfl⟩ := Option.map_eq_some_iff.mp h
        obtain ⟨a, b, d⟩ := vis_of g hv
        exact pe_locM (by rw [g.N]; exact ix_of hi) a b d
      · split at h
        · rename_i hg
          obtain ⟨d, hd, rfl⟩ := Option.map_eq_some_iff.mp h
          obtain ⟨a, b, _⟩ := gl_of g hg
          obtain ⟨u, v, h1, h2, h3⟩ := g.csts x d hd
          exact pe_globM a h1 h2 h3 b
        · cases h
    exact ⟨k, pt_valM hF k fun _ => rfl⟩
  | Constant k j pos =>
    unfold cE at h
    obtain ⟨d, hd, rfl⟩ := Option.map_eq_some_iff.mp h
    exact ⟨lit_ok hd, pt_valM hF (lit_ok hd) fun _ => rfl⟩
  | Tuple es j pos =>
    unfold cE at h
    simp only at h
    split at h
    · rename_i hp
      obtain ⟨cs, hcs, rfl⟩ := Option.map_eq_some_iff.mp h
      obtain ⟨a, b⟩ := (ih Γ X g).es es cs hcs hp.1
      have k : L2.PE X (.Tuple es j pos) (RE X F EN (.tup cs)) := pe_tupM hF a (by have := hp.2; show cs.length ≤ 16777216; omega)
      exact ⟨k, pt_valM hF k fun _ => rfl⟩
    · cases h
  | List es pos =>
    unfold cE at h
    simp only at h
    split at h
    · rename_i hp
      obtain ⟨cs, hcs, rfl⟩ := Option.map_eq_some_iff.mp h
      obtain ⟨a, b⟩ := (ih Γ X g).es es cs hcs hp.1
      have k : L2.PE X (.List es pos) (RE X F EN (.lst cs)) := pe_lstM hF a (by have := hp.2; show cs.length ≤ 16777216; omega)
      exact ⟨k, pt_valM hF k fun _ => rfl⟩
    · cases h
  | Dict ks vs pos =>
    unfold cE at h
    simp only at h
    split at h
    · cases h
      exact ⟨pe_dnewM, pt_valM hF pe_dnewM fun _ => rfl⟩
    · split at h
      · rename_i hc
        split at h
        · rename_i cs hcs
          split at h
          · rename_i hev
            cases h
            have k := pe_dispM (pos := pos) hF hc.1 hc.2.1 hc.2.2.1 hc.2.2.2 hev ((ih Γ X g).pe _ _ hcs)
            exact ⟨k, pt_valM hF k fun _ => rfl⟩
          · cases h
        · cases h
      · cases h
  | BinOp a op b pos =>
    unfold cE at h
    simp only at h
    split at h
    · rename_i o x y h1 h2 h3
      cases h
      have k := pe_binM (pos := pos) hF (op_of h1) ((ih Γ X g).e a x h2).1 ((ih Γ X g).e b y h3).1
      exact ⟨k, pt_valM hF k fun _ => rfl⟩
    · cases h
  | UnaryOp op a pos =>
    unfold cE at h
    simp only at h
    cases op <;> simp only at h <;> first | (cases h; done) | skip
    · obtain ⟨x, hx, rfl⟩ := Option.map_eq_some_iff.mp h
      obtain ⟨p, q⟩ := (ih Γ X g).e a x hx
      exact ⟨pe_notM hF p, pt_notM hF q⟩
    · obtain ⟨x, hx, rfl⟩ := Option.map_eq_some_iff.mp h
      have k := pe_negM (pos := pos) hF ((ih Γ X g).e a x hx).1
      exact ⟨k, pt_valM hF k fun _ => rfl⟩
  | BoolOp op es pos =>
    unfold cE at h
    obtain ⟨p, q⟩ := (ih Γ X g).b op es c pos h
    exact ⟨p, q.pt⟩
  | Compare a ops bs pos =>
    unfold cE at h
    simp only at h
    split at h
    · rename_i op b
      split at h
      · rename_i hm
        split at h
        · rename_i x y h1 h2
          cases h
          have ha := ((ih Γ X g).e a x h1).1
          have hb := ((ih Γ X g).e b y h2).1
          exact ⟨pe_cmpM hF (cop_ok hu op) hm ha hb, pt_cmpM hF (cop_ok hu op) hm ha hb⟩
        · cases h
      · cases h
    · rename_i op op' b d
      split at h
      · rename_i hm
        split at h
        · rename_i x y z h1 h2 h3
          cases h
          have ha := ((ih Γ X g).e a x h1).1
          have hb := ((ih Γ X g).e b y h2).1
          have hd := ((ih Γ X g).e d z h3).1
          exact ⟨pe_chnM hF (cop_ok hu op) (cop_ok hu op') hm ha hb hd, pt_chnM hF (cop_ok hu op) (cop_ok hu op') hm ha hb hd⟩
        · cases h
      · cases h
    · cases h
  | IfExp t a b pos =>
    unfold cE at h
    simp only at h
    split at h
    · rename_i x y z h1 h2 h3
      cases h
      have k := pe_ifM (pos := pos) hF ((ih Γ X g).e t x h1).2 ((ih Γ X g).e a y h2).1 ((ih Γ X g).e b z h3).1
      exact ⟨k, pt_ifM (pos := pos) hF ((ih Γ X g).e t x h1).2 ((ih Γ X g).e a y h2).2 ((ih Γ X g).e b z h3).2⟩
    · cases h
  | Subscript a s pos =>
    have k : L2.PE X (.Subscript a s pos) (RE X F EN c) := by
      unfold cE at h
      simp only at h
      split at h
      · rename_i lo hi st p2
        split at h
        · split at h
          · rename_i x y z h1 h2 h3
            cases h
            exact pe_slcM hF ((ih Γ X g).e a x h1).1 ((ih Γ X g).o lo y h2) ((ih Γ X g).o hi z h3)
          · cases h
        · split at h
          · split at h
            · rename_i x y h1 h2
              split at h
              · rename_i hm1
                cases h
                exact pe_revM hF ((ih Γ X g).e a x h1).1 ((ih Γ X g).e _ y h2).1 hm1
              · cases h
            · cases h
          · cases h
      · rename_i hs
        split at h
        · rename_i x y h1 h2
          cases h
          refine pe_idxM hF hu (plainIx_ok ?_) ((ih Γ X g).e a x h1).1 ((ih Γ X g).e s y h2).1
          cases s <;> first | rfl | exact absurd rfl (hs _ _ _ _)
        · cases h
    exact ⟨k, pt_valM hF k fun _ => rfl⟩
  | ListComp elt gs scope pos =>
    have hg : ∃ tg iter ifs, gs = [⟨tg, iter, ifs, 0⟩] := by
      unfold cE at h
      simp only at h
      split at h
      · rename_i tg iter ifs a
        split at h
        · rename_i hc
          obtain ⟨rfl, _⟩ := hc
          exact ⟨tg, iter, ifs, rfl⟩
        · cases h
      · cases h
    obtain ⟨tg, iter, ifs, rfl⟩ := hg
    obtain ⟨own, p, k, it, cs, ce, rfl, h1, h2, h3, h4, h5, h6, h7⟩ := snd_comp hF n ih Γ X g elt tg iter ifs scope pos c h
    have q := pe_compM hF (pos := pos) h1 g.calm g.nd h2 h3 h4 h5 h6 h7
    exact ⟨q, pt_valM hF q fun _ => rfl⟩
  | DictComp ke va gs scope pos => exact ⟨snd_dcomp hF n ih Γ X g ke va gs scope pos c h, pt_valM hF (snd_dcomp hF n ih Γ X g ke va gs scope pos c h) fun _ => rfl⟩
  | _ => unfold cE at h; cases h
theorem snd_all : ∀ (n : Nat) (Γ : Ctx) (X : L2.Cx), Good Γ F X → SndE F n Γ X
  | 0, Γ, X, g => ⟨fun _ _ h => by simp [cE] at h, fun _ _ h => by simp [cEs] at h, fun _ _ h => by simp [cEs] at h, fun _ _ h => by simp [cEs] at h, fun _ _ _ _ h => by simp [cB] at h, fun _ _ h => by simp [cO] at h, fun _ _ h => by simp [cEs] at h, fun _ _ _ h => by simp [cI] at h⟩
  | n + 1, Γ, X, g => ⟨snd_e hF n (snd_all n) Γ X g, fun es cs h hp => (snd_es hF n (snd_all n) Γ X g es cs h).1 hp, snd_ks hF n (snd_all n) Γ X g, fun es cs h hl => (snd_es hF n (snd_all n) Γ X g es cs h).2 hl, snd_b hF n (snd_all n) Γ X g, snd_o hF n (snd_all n) Γ X g, snd_pe hF n (snd_all n) Γ X g, snd_i hF n (snd_all n) Γ X g⟩
end
end M

end
section
set_option Elab.async false
set_option linter.all false
set_option autoImplicit false
set_option maxRecDepth 100000
set_option maxHeartbeats 4000000
/-! statements: compile, soundness -/
namespace M
open PySem (Addr Obj Value Str Expr Stmt FuncData)
/-- the names of a swapped store: none, it is no such store; some none: not swapped -/
def locName (Γ : Ctx) (line : Nat) : Expr → Option Str
  | .Name id pos => if Γ.sc.names.lookup id == some .local && pos.line == line then some id else none
  | _ => none
def swR (Γ : Ctx) (ts vs : List Expr) : Option (Option (List Str)) :=
  if (!(ts.length == 2 || ts.length == 3) || vs.length != ts.length) = true then some none
  else if vs.all plainE = false then none
  else if ((ts.filterMap (locName Γ ((ts.head?.map (·.pos.line)).getD 0))).length != ts.length || (ts.filterMap (locName Γ ((ts.head?.map (·.pos.line)).getD 0))).eraseDups.length != (ts.filterMap (locName Γ ((ts.head?.map (·.pos.line)).getD 0))).length) = true then some none
  else if vs.all (PySem.foldedForSure 8) = true then some none
  else if vs.all (PySem.constantsAlone 8) = true then none
  else some (some (ts.filterMap (locName Γ ((ts.head?.map (·.pos.line)).getD 0))))
theorem swR_ok {Γ : Ctx} {env : PySem.Env} (hs : env.scope = Γ.sc) (hk : env.scope.kind = .function) {ts vs : List Expr} {r : Option (List Str)} (h : swR Γ ts vs = some r) {k k2 : Nat} {p p2 : PySem.Pos} : PySem.swappedStores [.Tuple ts k p] (.Tuple vs k2 p2) env = pure r := by
  have hb : env.blockKind = .function := by unfold PySem.Env.blockKind; rw [hk]; rfl
  have hn : ∀ f : Expr → Option Str, (∀ e, f e = locName Γ ((ts.head?.map (·.pos.line)).getD 0) e) → ts.filterMap f = ts.filterMap (locName Γ ((ts.head?.map (·.pos.line)).getD 0)) := fun f hf => by
    congr 1
    funext e
    exact hf e
  have hst : vs.all plainE = true → ∀ f : Expr → Bool, (∀ e, f e = !plainE e) → vs.any f = false := fun c f hf => by
    rw [List.any_eq_false]
    intro e he
    rw [hf e, List.all_eq_true.mp c e he]
    decide
  unfold swR at h
  unfold PySem.swappedStores
  simp only [pure_bind]
  rw [hb]
  by_cases c1 : (!(ts.length == 2 || ts.length == 3) || vs.length != ts.length) = true
  · rw [if_pos c1] at h
    cases h
    rw [if_pos (by rw [c1]; rfl)]
  · rw [if_neg c1] at h
    have c1' : (!(ts.length == 2 || ts.length == 3) || vs.length != ts.length || (PySem.ScopeKind.function != PySem.ScopeKind.function)) = false := by
      have : (!(ts.length == 2 || ts.length == 3) || vs.length != ts.length) = false := by simpa using c1
      rw [this]; rfl
    rw [c1', if_neg Bool.false_ne_true]
    by_cases c2 : vs.all plainE = false
    · rw [if_pos c2] at h; cases h
    · rw [if_neg c2] at h
      have c2' : vs.all plainE = true := by simpa using c2
      rw [hst c2' _ ?g1, if_neg Bool.false_ne_true, hn _ ?g2]
      case g1 => intro e; cases e <;> rfl
      case g2 => intro e; cases e <;> first | rfl | (unfold locName; rw [← hs]; rfl)
      by_cases c3 : ((ts.filterMap (locName Γ ((ts.head?.map (·.pos.line)).getD 0))).length != ts.length || (ts.filterMap (locName Γ ((ts.head?.map (·.pos.line)).getD 0))).eraseDups.length != (ts.filterMap (locName Γ ((ts.head?.map (·.pos.line)).getD 0))).length) = true
      · rw [if_pos c3] at h ⊢
        cases h
        rfl
      · rw [if_neg c3] at h ⊢
        by_cases c4 : vs.all (PySem.foldedForSure 8) = true
        · rw [if_pos c4] at h ⊢
          cases h
          rfl
        · rw [if_neg c4] at h ⊢
          by_cases c5 : vs.all (PySem.constantsAlone 8) = true
          · rw [if_pos c5] at h; cases h
          · rw [if_neg c5] at h ⊢
            cases h
            rfl

def noCompB (e : Expr) : Bool := noComp e
/-- whether a comprehension's value goes into the name within the comprehension: as the model says -/
def swC (Γ : Ctx) (e : Expr) (y : Str) (py : PySem.Pos) : Option Bool := match e with
  | .ListComp _ _ scope pos => if (py.line == pos.line) = true ∧ Γ.sc.names.lookup y = some .local then (if (scope.names.any fun (n, k) => n == y && (k == .local || k == .cell)) = false then some true else none) else if (py.line == pos.line) = false ∨ Γ.sc.names.lookup y = some .cell then some false else none
  | _ => if noComp e = true then some false else none
mutual
def cS : Nat → Ctx → Stmt → Option (List CS)
  | 0, _, _ => none
  | n + 1, Γ, st => match st with
    | .Expr e _ => match e with
      | .Constant (.str _) _ _ => some []
      | e => if noComp e = true then (cE n Γ e).map fun c => [.expr c] else none
    | .Return o _ => match o with
      | some e => (cE n Γ e).map fun c => [.ret c]
      | none => some [.ret (.lit .non)]
    | .Pass _ => some [.pass]
    | .Break _ => some [.brk]
    | .Continue _ => some [.cont]
    | .If c a b _ => match cE n Γ c, cSs n Γ a, cSs n Γ b with
      | some x, some y, some z => some [.ite x y z]
      | _, _, _ => none
    | .While c a b _ => match b with
      | [] => match cE n Γ c, cSs n Γ a with
        | some x, some y => some [.whil x y]
        | _, _ => none
      | _ => none
    | .For tg it a b _ => match b with
      | [] => if notSet it = true then (match cI n Γ tg it, cP n Γ tg, cSs n Γ a with
        | some I, some p, some y => some [.for_ p I.1 I.2 y]
        | _, _, _ => none) else none
      | _ => none
    | .AugAssign tg op e _ => match tg with
      | .Name x _ => if isLoc Γ x = true then (match ixOf Γ.N x, augOf op, cE n Γ e with
        | some i, some o, some c => some [.aug i o c]
        | _, _, _ => none) else none
      | .Subscript o i _ => if plainIx i = true then (match augOf op, cE n Γ o, cE n Γ i, cE n Γ e with
        | some b, some co, some ci, some c => some [.augs co ci b c]
        | _, _, _, _ => none) else none
      | _ => none
    | .Assign tgs e _ => match tgs with
      | [tg] => match tg with
        | .Name y py => if isLoc Γ y = true then (match ixOf Γ.N y, cE n Γ e, swC Γ e y py with
          | some i, some c, some _ => some [.asg (.slot i) c]
          | _, _, _ => none) else none
        | .Tuple ts _ _ => match e with
          | .Tuple vs _ _ => match swR Γ ts vs with
            | some none => match cP n Γ tg, cE n Γ e with
              | some p, some c => some [.asg p c]
              | _, _ => none
            | some (some _) => match ts, vs with
              | [.Name x _, .Name y _], [a, b] => if plainE a = true ∧ plainE b = true ∧ Γ.sc.names.lookup x = some .local ∧ Γ.sc.names.lookup y = some .local ∧ swR Γ ts vs = some (some [x, y]) then (match ixOf Γ.N x, ixOf Γ.N y, cE n Γ a, cE n Γ b with
                | some i, some j, some ca, some cb => if i ≠ j then some [.asg (.tup [.slot i, .slot j]) (.tup [ca, cb])] else none
                | _, _, _, _ => none) else none
              | [.Name x _, .Name y _, .Name z _], [a, b, d] => if plainE a = true ∧ plainE b = true ∧ plainE d = true ∧ Γ.sc.names.lookup x = some .local ∧ Γ.sc.names.lookup y = some .local ∧ Γ.sc.names.lookup z = some .local ∧ swR Γ ts vs = some (some [x, y, z]) then (match ixOf Γ.N x, ixOf Γ.N y, ixOf Γ.N z, cE n Γ a, cE n Γ b, cE n Γ d with
                | some i, some j, some l, some ca, some cb, some cd => if i ≠ j ∧ i ≠ l ∧ j ≠ l then some [.asg (.tup [.slot i, .slot j, .slot l]) (.tup [ca, cb, cd])] else none
                | _, _, _, _, _, _ => none) else none
              | _, _ => none
            | none => none
          | e => if noComp e = true then (match cP n Γ tg, cE n Γ e with
            | some p, some c => some [.asg p c]
            | _, _ => none) else none
        | .Subscript o i _ => if plainIx i = true ∧ noComp e = true then (match cE n Γ o, cE n Γ i, cE n Γ e with
          | some co, some ci, some c => some [.set co ci c]
          | _, _, _ => none) else none
        | _ => none
      | _ => none
    | _ => none
def cSs : Nat → Ctx → List Stmt → Option (List CS)
  | 0, _, _ => none
  | n + 1, Γ, sts => match sts with
    | [] => some []
    | st :: r => match cS n Γ st, cSs n Γ r with
      | some a, some b => some (a ++ b)
      | _, _ => none
end
theorem swC_ok {Γ : Ctx} {env : PySem.Env} (hs : env.scope = Γ.sc) (hk : env.scope.kind = .function) {e : Expr} {y : Str} {py : PySem.Pos} {l : Nat} {b : Bool} (h : swC Γ e y py = some b) : PySem.swapsWith e (some (.Name y py)) l env = pure b := by
  have hb : env.blockKind = .function := by unfold PySem.Env.blockKind; rw [hk]; rfl
  unfold swC at h
  split at h
  · rename_i elt gs scope pos
    split at h
    · rename_i c
      split at h
      · rename_i ha
        cases h
        exact L2.sw_true hk (by rw [hs]; exact c.2) c.1 ha
      · cases h
    · split at h
      · rename_i c
        cases h
        unfold PySem.swapsWith
        simp only [pure_bind]
        rw [hb]
        have : (env.kindOf y == some PySem.NameKind.local && py.line == (Expr.ListComp elt gs scope pos).pos.line) = false := by
          rcases c with c | c
          · rw [show (Expr.ListComp elt gs scope pos).pos.line = pos.line from rfl, c, Bool.and_false]
          · have : env.kindOf y = some .cell := by show env.scope.names.lookup y = _; rw [hs]; exact c
            rw [this]; rfl
        show (pure (PySem.ScopeKind.function == PySem.ScopeKind.function && env.kindOf y == some PySem.NameKind.local && py.line == (Expr.ListComp elt gs scope pos).pos.line && _) : PySem.Sem Bool) = pure false
        rw [Bool.and_assoc (PySem.ScopeKind.function == PySem.ScopeKind.function), this, Bool.and_false, Bool.false_and]
      · cases h
  · split at h
    · rename_i hn
      cases h
      exact swap_no hn
    · cases h
end M

end
section
set_option Elab.async false
set_option linter.all false
set_option autoImplicit false
set_option maxRecDepth 100000
set_option maxHeartbeats 4000000
/-! statements: soundness -/
namespace M
open PySem (Addr Obj Value Str Expr Stmt FuncData)
section
variable {X : L2.Cx} {F : FnS} (hF : FMono F)
include hF
theorem ps_par3M {i j l : Nat} {x y z : Str} {a b d : Expr} {ca cb cd : CE} {px py pz pt pos : PySem.Pos} {kt k2 : Nat} {pt2 : PySem.Pos} (hc : X.calm = true) (hN : X.N.Nodup) (hi : X.N[i]? = some x) (hj : X.N[j]? = some y) (hl : X.N[l]? = some z) (hij : i ≠ j) (hil : i ≠ l) (hjl : j ≠ l)
    (hx : X.env.scope.names.lookup x = some .local) (hy : X.env.scope.names.lookup y = some .local) (hz : X.env.scope.names.lookup z = some .local) (ha : L2.PA X [a, b, d] (RA X F EN [ca, cb, cd]))
    (hw : PySem.swappedStores [.Tuple [.Name x px, .Name y py, .Name z pz] kt pt] (.Tuple [a, b, d] k2 pt2) X.env = pure (some [x, y, z])) :
    L2.PS X (.Assign [.Tuple [.Name x px, .Name y py, .Name z pz] kt pt] (.Tuple [a, b, d] k2 pt2) pos) (RS X F EN (.asg (.tup [.slot i, .slot j, .slot l]) (.tup [ca, cb, cd]))) :=
  PS.imp (L2.ps_par3 hc hN hi hj hl hij hil hjl hx hy hz ha hw rfl) fun D σ H ⟨ρ, env, hp, Z, hr, he, w, zz⟩ => by
    unfold wpS wpE at w
    refine ⟨ρ, env, hp, hr, he, wpEs_mono hF [ca, cb, cd] EN env hp _ _ w fun ds h1 q ρ1 H1 vs p t hr1 rv => ?_⟩
    unfold wpP at q
    have hl := wpPs_len _ _ _ _ q
    rcases ds with _ | ⟨d1, _ | ⟨d2, _ | ⟨d3, _ | ⟨d4, ds⟩⟩⟩⟩ <;> try (simp at hl; done)
    cases rv with
    | cons rv rest =>
      obtain ⟨u, v, rfl, ru, rw'⟩ := rest.two_inv
      unfold wpPs wpP wpPs wpP wpPs wpP wpPs at q
      exact ⟨_, u, v, rfl, zz.nx _ _ ρ1 H1 _ q.2.2.2 p t hr1 ((((he.mono p t).set rv).set ru).set rw')⟩
end
section
variable {F : FnS} (hF : FMono F)
include hF
theorem asg_sub {o i : Expr} {env : PySem.Env} {tpos : PySem.Pos} (h : plainIx i = true) : ∀ v, PySem.assign (.Subscript o i tpos) env v = (do
      let ov ← PySem.holding [v] (PySem.eval o env)
      let iv ← PySem.holding [v, ov] (PySem.eval i env)
      PySem.standAt tpos
      PySem.holding [v, ov, iv] (PySem.setItem ov iv v)
      PySem.release [v, ov, iv] []) := fun v => by
  cases i <;> first | rfl | exact Bool.noConfusion h
theorem aug_sub {i : Expr} (h : plainIx i = true) : ∀ ov iv new, PySem.augStore i ov iv new = (do PySem.holding [new, ov, iv] (PySem.setItem ov iv new); PySem.release [new, ov, iv] []; pure .next) := fun ov iv new => by
  cases i <;> first | rfl | exact Bool.noConfusion h
omit hF in
theorem augOf_k {op : PySem.Operator} {b : Bop} (h : augOf op = some b) : bopK b = some op := by
  cases op <;> simp only [augOf] at h <;> first | (cases h; done) | (cases h; rfl)
omit hF in
theorem sw_tup {ts : List Expr} {k : Nat} {p : PySem.Pos} {e : Expr} {env : PySem.Env} (h : ∀ vs k2 p2, e ≠ .Tuple vs k2 p2) : PySem.swappedStores [.Tuple ts k p] e env = pure none := by
  cases e <;> first | rfl | exact absurd rfl (h _ _ _)
omit hF in
theorem sw_name {x : Str} {p : PySem.Pos} {e : Expr} {env : PySem.Env} : PySem.swappedStores [.Name x p] e env = pure none := rfl
omit hF in
theorem sw_sub {o i : Expr} {p : PySem.Pos} {e : Expr} {env : PySem.Env} : PySem.swappedStores [.Subscript o i p] e env = pure none := rfl
structure SndS (F : FnS) (n : Nat) (Γ : Ctx) (X : L2.Cx) : Prop where
  s : ∀ st cs, cS n Γ st = some cs → ∀ rest rs, L2.PSs X rest (RSs X F EN rs) → L2.PSs X (st :: rest) (RSs X F EN (cs ++ rs))
  ss : ∀ sts cs, cSs n Γ sts = some cs → L2.PSs X sts (RSs X F EN cs)
theorem snd_asg (n : Nat) (Γ : Ctx) (X : L2.Cx) (g : Good Γ F X) (tg e : Expr) (pos : PySem.Pos) (cs : List CS) (h : cS (n + 1) Γ (.Assign [tg] e pos) = some cs) : ∃ c, cs = [c] ∧ L2.PS X (.Assign [tg] e pos) (RS X F EN c) := by
  have A := snd_all hF n Γ X g
  have P := cP_ok (F := F) n Γ X g
  unfold cS at h
  simp only at h
  cases tg <;> simp only at h <;> first | (cases h; done) | skip
  · -- a subscript
    rename_i o i tpos
    split at h
    · rename_i hc
      split at h
      · rename_i co ci c h1 h2 h3
        cases h
        exact ⟨_, rfl, ps_subM hF g.hu (A.e o co h1).1 (A.e i ci h2).1 (A.e e c h3).1 hc.2 sw_sub (asg_sub hF hc.1)⟩
      · cases h
    · cases h
  · -- a name
    rename_i y py
    split at h
    · rename_i hl
      split at h
      · rename_i i c b h1 h2 h3
        cases h
        refine ⟨_, rfl, ?_⟩
        have sw := fun l => swC_ok (l := l) g.sc g.kind h3
        cases b with
        | false =>
          exact ps_asgM hF (A.e e c h2).1 (pg_slotM g.nd (by rw [g.N]; exact ix_of h1) (loc_of g hl).1 (loc_of g hl).2) rfl (sw pos.line) sw_name
        | true =>
          -- a comprehension stored within
          have hcomp : ∃ elt gs scope p2, e = .ListComp elt gs scope p2 ∧ Γ.sc.names.lookup y = some .local := by
            unfold swC at h3
            split at h3
            · split at h3
              · rename_i c
                exact ⟨_, _, _, _, rfl, c.2⟩
              · split at h3 <;> cases h3
            · split at h3 <;> cases h3
          obtain ⟨elt, gs, scope, p2, rfl, hyl⟩ := hcomp
          cases n with
          | zero => simp [cE] at h2
          | succ m =>
            have hg : ∃ tg iter ifs, gs = [⟨tg, iter, ifs, 0⟩] := by
              have h := h2
              unfold cE at h
              simp only at h
              split at h
              · rename_i tg iter ifs a
                split at h
                · rename_i hc
                  obtain ⟨rfl, _⟩ := hc
                  exact ⟨tg, iter, ifs, rfl⟩
                · cases h
              · cases h
            obtain ⟨tg, iter, ifs, rfl⟩ := hg
            obtain ⟨own, p, k, it, cs, ce, rfl, q1, q2, q3, q4, q5, q6, q7⟩ := snd_comp hF m (snd_all hF m) Γ X g elt tg iter ifs scope p2 c h2
            exact ps_asgcM hF (ps_compM hF q1 g.calm g.nd (by rw [g.N]; exact ix_of h1) (by rw [g.sc]; exact hyl) (sw pos.line) q2 q3 q4 q5 q6 q7)
      · cases h
    · cases h
  · -- a tuple
    rename_i ts k tpos
    split at h
    · rename_i vs k2 p2
      split at h
      · rename_i hsw
        split at h
        · rename_i p c h1 h2
          cases h
          obtain ⟨a, b⟩ := P.1 _ _ h1
          exact ⟨_, rfl, ps_asgM hF (A.e _ c h2).1 a b (swaps_no rfl) (swR_ok g.sc g.kind hsw)⟩
        · cases h
      · rename_i nm hsw
        split at h
        · rename_i x px y py a b
          split at h
          · rename_i hc
            obtain ⟨pa, pb, hx, hy, hs2⟩ := hc
            split at h
            · rename_i i j ca cb h1 h2 h3 h4
              split at h
              · rename_i hij
                cases h
                refine ⟨_, rfl, ps_parM hF g.calm g.nd (by rw [g.N]; exact ix_of h1) (by rw [g.N]; exact ix_of h2) hij (by rw [g.sc]; exact hx) (by rw [g.sc]; exact hy) ?_ (swR_ok g.sc g.kind hs2)⟩
                exact pa_consM hF (A.e a ca h3).1 (pa_consM hF (A.e b cb h4).1 pa_nilM (star_plain pb)) (star_plain pa)
              · cases h
            · cases h
          · cases h
        · rename_i x px y py z pz a b d
          split at h
          · rename_i hc
            obtain ⟨pa, pb, pd, hx, hy, hz, hs2⟩ := hc
            split at h
            · rename_i i j l ca cb cd h1 h2 h3 h4 h5 h6
              split at h
              · rename_i hij
                cases h
                refine ⟨_, rfl, ps_par3M hF g.calm g.nd (by rw [g.N]; exact ix_of h1) (by rw [g.N]; exact ix_of h2) (by rw [g.N]; exact ix_of h3) hij.1 hij.2.1 hij.2.2 (by rw [g.sc]; exact hx) (by rw [g.sc]; exact hy) (by rw [g.sc]; exact hz) ?_ (swR_ok g.sc g.kind hs2)⟩
                exact pa_consM hF (A.e a ca h4).1 (pa_consM hF (A.e b cb h5).1 (pa_consM hF (A.e d cd h6).1 pa_nilM (star_plain pd)) (star_plain pb)) (star_plain pa)
              · cases h
            · cases h
          · cases h
        · cases h
      · cases h
    · rename_i hne
      split at h
      · rename_i hn
        split at h
        · rename_i p c h1 h2
          cases h
          obtain ⟨a, b⟩ := P.1 _ _ h1
          exact ⟨_, rfl, ps_asgM hF (A.e _ c h2).1 a b (swaps_no hn) (sw_tup hne)⟩
        · cases h
      · cases h
theorem snd_s (n : Nat) (Γ : Ctx) (X : L2.Cx) (g : Good Γ F X) (hx : X.xe = fun _ _ => False) (ih : SndS F n Γ X) (st : Stmt) (cs : List CS) (h : cS (n + 1) Γ st = some cs) (rest : List Stmt) (rs : List CS) (hr : L2.PSs X rest (RSs X F EN rs)) : L2.PSs X (st :: rest) (RSs X F EN (cs ++ rs)) := by
  have A := snd_all hF n Γ X g
  have P := cP_ok (F := F) n Γ X g
  have own : PySem.PassesOwn (PySem.model X.prog X.w) X.A X.env X.xe := by rw [hx]; exact .never
  have one : ∀ c, cs = [c] → L2.PS X st (RS X F EN c) → L2.PSs X (st :: rest) (RSs X F EN (cs ++ rs)) := fun c e k => by
    subst e
    exact pss_consM k hr
  cases st with
  | Assign tgs e pos =>
    have ht : ∃ tg, tgs = [tg] := by
      unfold cS at h
      simp only at h
      split at h
      · exact ⟨_, rfl⟩
      · cases h
    obtain ⟨tg, rfl⟩ := ht
    obtain ⟨c, hc, k⟩ := snd_asg hF n Γ X g tg e pos cs h
    exact one c hc k
  | Expr e pos =>
    unfold cS at h
    simp only at h
    split at h
    · cases h
      exact pss_docM hr
    · split at h
      · rename_i hn
        obtain ⟨c, hc, rfl⟩ := Option.map_eq_some_iff.mp h
        exact one _ rfl (ps_exprM hF (A.e _ c hc).1 hn)
      · cases h
  | Return o pos =>
    unfold cS at h
    simp only at h
    cases o with
    | none => cases h; exact one _ rfl ps_retNM
    | some e =>
      obtain ⟨c, hc, rfl⟩ := Option.map_eq_some_iff.mp h
      exact one _ rfl (ps_retM hF (A.e _ c hc).1)
  | Pass pos => unfold cS at h; cases h; exact one _ rfl ps_passM
  | Break pos => unfold cS at h; cases h; exact one _ rfl ps_brkM
  | Continue pos => unfold cS at h; cases h; exact one _ rfl ps_contM
  | If c a b pos =>
    unfold cS at h
    simp only at h
    split at h
    · rename_i x y z h1 h2 h3
      cases h
      exact one _ rfl (ps_ifM hF (A.e c x h1).2 (ih.ss a y h2) (ih.ss b z h3))
    · cases h
  | While c a b pos =>
    unfold cS at h
    simp only at h
    split at h
    · split at h
      · rename_i x y h1 h2
        cases h
        exact one _ rfl (ps_whileM hF own (A.e c x h1).2 (ih.ss a y h2))
      · cases h
    · cases h
  | For tg it a b pos =>
    unfold cS at h
    simp only at h
    split at h
    · split at h
      · rename_i hs
        split at h
        · rename_i I p y h1 h2 h3
          cases h
          exact one _ rfl (ps_forM hF own g.calm (A.i tg it I h1) (P.1 tg p h2).1 (ih.ss a y h3) (fold_no hs))
        · cases h
      · cases h
    · cases h
  | AugAssign tg op e pos =>
    unfold cS at h
    simp only at h
    cases tg <;> simp only at h <;> first | (cases h; done) | skip
    · split at h
      · rename_i hi
        split at h
        · rename_i b co ci c h1 h2 h3 h4
          cases h
          exact one _ rfl (ps_augsM hF g.hu (augOf_k h1) (A.e _ co h2).1 (A.e _ ci h3).1 (A.e _ c h4).1 (aug_sub hF hi))
        · cases h
      · cases h
    · split at h
      · rename_i hl
        split at h
        · rename_i i o c h1 h2 h3
          cases h
          exact one _ rfl (ps_augM hF (augOf_k h2) g.nd (by rw [g.N]; exact ix_of h1) (loc_of g hl).1 (loc_of g hl).2 (A.e _ c h3).1)
        · cases h
      · cases h
  | _ => unfold cS at h; cases h
theorem snd_ss (n : Nat) (Γ : Ctx) (X : L2.Cx) (ih : SndS F n Γ X) (sts : List Stmt) (cs : List CS) (h : cSs (n + 1) Γ sts = some cs) : L2.PSs X sts (RSs X F EN cs) := by
  unfold cSs at h
  cases sts with
  | nil => cases h; exact pss_nilM
  | cons st r =>
    simp only at h
    split at h
    · rename_i a b h1 h2
      cases h
      exact ih.s st a h1 r b (ih.ss r b h2)
    · cases h
theorem snd_st : ∀ (n : Nat) (Γ : Ctx) (X : L2.Cx), Good Γ F X → (X.xe = fun _ _ => False) → SndS F n Γ X
  | 0, Γ, X, g, hx => ⟨fun _ _ h => by simp [cS] at h, fun _ _ h => by simp [cSs] at h⟩
  | n + 1, Γ, X, g, hx => ⟨fun st cs h rest rs hr => snd_s hF n Γ X g hx (snd_st n Γ X g hx) st cs h rest rs hr, fun sts cs h => snd_ss hF n Γ X (snd_st n Γ X g hx) sts cs h⟩
end
end M

end
section
set_option Elab.async false
set_option linter.all false
set_option autoImplicit false
set_option maxRecDepth 100000
set_option maxHeartbeats 4000000
/-! programs -/
namespace M
open PySem (Addr Obj Value Str Expr Stmt FuncData)
/-- a def of the text -/
structure Row where
  x : Str
  fi : FI
  args : PySem.Arguments
  body : List Stmt
  scope : PySem.Scope
  N : List Str
def Row.ok (r : Row) : Bool :=
  (match r.scope.kind with | .function => true | _ => false) && !r.scope.isCoroutine && !r.scope.isGenerator && decide r.N.Nodup && decide (r.N.take r.fi.ps.length = r.fi.ps) && (r.fi.ps.all fun x => decide (r.scope.names.lookup x = some .local) || decide (r.scope.names.lookup x = some .cell)) && r.scope.names.all fun y => decide (y.2 ≠ .free)
theorem Row.sc {r : Row} (h : r.ok = true) : L2.FnScope r.N r.fi.ps r.scope := by
  unfold Row.ok at h
  simp only [Bool.and_eq_true, decide_eq_true_eq, Bool.not_eq_true', List.all_eq_true, Bool.or_eq_true] at h
  obtain ⟨⟨⟨⟨⟨⟨h1, h2⟩, h3⟩, h4⟩, h5⟩, h6⟩, h7⟩ := h
  refine ⟨?_, h2, h3, h4, h5, h6, h7⟩
  split at h1
  · assumption
  · cases h1
def Row.ctx (r : Row) (G : Gm) : Ctx := ⟨r.scope, r.scope.names, r.N, G⟩
def FUEL : Nat := 400
def Row.def_ (r : Row) (G : Gm) : Option Def := if r.ok = true then (cSs FUEL (r.ctx G) r.body).map fun b => ⟨r.fi.ps.length, r.N.length, b⟩ else none
/-- what the head tells -/
structure Facts (G : Gm) (tab : List Row) (K : PySem.W.Frag) (mg : Str → Option Value) : Prop where
  fns : ∀ x fi, G.fns.lookup x = some fi → ∃ r ∈ tab, r.fi = fi ∧ ∃ (qual : Str) (dvs : List LV) (f : Addr) (fd : FuncData), mg x = some (.ref f) ∧ L2.FunD K r.x qual r.args r.body r.scope dvs [] f fd ∧ BindG K fd fi
  csts : ∀ x d, G.csts.lookup x = some d → ∃ u v, mg x = some u ∧ L2.RelV v u ∧ ∀ ρ H, RV K ρ H d v
  free : ∀ x ∈ freeNames, mg (S x) = none
theorem ok_all {P : PySem.Program} {w : PySem.World} {K : PySem.W.Frag} {mg : Str → Option Value} {base : PySem.Heap} {G : Gm} {tab : List Row} {Pm : Prog} (Fc : Facts G tab K mg) (hP : ∀ r ∈ tab, ∃ d, r.def_ G = some d ∧ Pm.lookup r.fi.id = some d) :
    ∀ (n : Nat) (r : Row), r ∈ tab → ∀ (qual : Str) (dvs : List LV) (f : Addr) (fd : FuncData), L2.FunD K r.x qual r.args r.body r.scope dvs [] f fd → L2.FnOk P w K mg base CXN n f fd r.fi.ps (spF P w K (FW Pm n) r.fi.id)
  | 0, r, hr, qual, dvs, f, fd, FD => ⟨fun vs H Q E ⟨_, _, _, _, _, h⟩ => h.elim, fun A outer s H args us vs Q E hr e0 hb r ⟨_, _, _, _, _, h⟩ => h.elim⟩
  | n + 1, r, hr, qual, dvs, f, fd, FD => by
    obtain ⟨d, hd, hl⟩ := hP r hr
    unfold Row.def_ at hd
    split at hd
    · rename_i hok
      obtain ⟨b, hb, rfl⟩ := Option.map_eq_some_iff.mp hd
      have S := Row.sc hok
      have open_ : ∀ {ds : List D} {hp : Hm} {Q : VQ}, FW Pm (n + 1) r.fi.id ds hp Q EN → ds.length = r.fi.ps.length ∧ wpSs (FW Pm n) EN b (ds.map some ++ List.replicate (r.N.length - r.fi.ps.length) none) hp { nx := fun _ h' => Q .non h', rt := Q, bk := fun _ _ => False, ct := fun _ _ => False } := fun {ds hp Q} h => by
        unfold FW at h
        rw [hl] at h
        exact h
      refine FD.ok S (fun vs H Q E ⟨ρ, hp, ds, h1, h2, h3⟩ => by rw [← h2.length]; exact (open_ h3).1) fun cdv A outer s H vs Q E room ⟨ρ, hp, ds, h1, h2, h3⟩ => ?_
      obtain ⟨q1, q2⟩ := open_ h3
      have g : Good (r.ctx G) (FW Pm n) (L2.cxOf CXN P w K mg base r.N qual r.scope f cdv A outer s H E).nox := by
        refine ⟨rfl, rfl, S.nd, S.kind, rfl, ⟨n, room⟩, fun x hx => ⟨hx, .inl rfl⟩, fun x fi hx => ?_, Fc.csts, Fc.free⟩
        obtain ⟨r', hr', rfl, qual', dvs', f', fd', e1, e2, e3⟩ := Fc.fns x fi hx
        exact ⟨f', n, fd', ok_all Fc hP n r' hr' qual' dvs' f' fd' e2, room, e1, e2.kp, e3⟩
      refine ⟨RSs (L2.cxOf CXN P w K mg base r.N qual r.scope f cdv A outer s H E).nox (FW Pm n) EN b, L2.PSs.nox ((snd_st (FW_mono Pm n) FUEL (r.ctx G) _ g rfl).ss r.body b hb), ?_⟩
      refine ⟨ρ, _, hp, _, h1, ?_, q2, ⟨?_, ?_, ?_, ?_⟩⟩
      · have hv : vs.length = r.fi.ps.length := by rw [← h2.length]; exact q1
        refine ⟨?_, fun i d hd => ?_⟩
        · show (vs.map some ++ List.replicate (r.N.length - vs.length) none).length = _
          simp [h2.length, hv]
        · show ∃ v, (vs.map some ++ List.replicate (r.N.length - vs.length) none)[i]? = some (some v) ∧ _
          by_cases hi : i < ds.length
          · rw [List.getElem?_append_left (by simpa using hi), List.getElem?_map] at hd
            obtain ⟨d', e1, e2⟩ := Option.map_eq_some_iff.mp hd
            cases e2
            obtain ⟨v, e3, rv⟩ := h2.get e1
            exact ⟨v, by rw [List.getElem?_append_left (by rw [List.length_map, ← h2.length]; exact hi), List.getElem?_map, e3]; rfl, rv⟩
          · rw [List.getElem?_append_right (by simpa using hi), List.getElem?_replicate] at hd
            split at hd <;> cases hd
      · exact fun e' h' ρ' H' σ' q p t hr' he' => q ρ' H' .non p t hr' .non
      · exact fun d h' q => q
      · exact fun e' h' ρ' H' σ' q => q.elim
      · exact fun e' h' ρ' H' σ' q => q.elim
    · cases hd
end M

end
section
set_option Elab.async false
set_option linter.all false
set_option autoImplicit false
set_option maxRecDepth 100000
set_option maxHeartbeats 4000000
/-! how a call binds -/
namespace M
open PySem (Addr Obj Value Str Expr Stmt FuncData bindArgs seqItems?)
theorem lookup_app {α β : Type} [BEq α] (x : α) (l r : List (α × β)) : (l ++ r).lookup x = (l.lookup x).or (r.lookup x) := List.lookup_append
theorem forIn_kw {β : Type} {body : (Str × Value) → β → PySem.Sem (ForInStep β)} {st : List (Str × Value) → β} {normal : List Str} (hb : ∀ kv slots, kv.1 ∈ normal → slots.lookup kv.1 = none → body kv (st slots) = pure (.yield (st (slots ++ [kv])))) :
    ∀ (l slots : List (Str × Value)), (∀ kv ∈ l, kv.1 ∈ normal) → (∀ kv ∈ l, slots.lookup kv.1 = none) → (l.map (·.1)).Nodup → forIn l (st slots) body = pure (st (slots ++ l))
  | [], slots, _, _, _ => by rw [List.forIn_nil, List.append_nil]
  | kv :: l, slots, h1, h2, h3 => by
    rw [List.forIn_cons, hb kv slots (h1 kv List.mem_cons_self) (h2 kv List.mem_cons_self), pure_bind]
    rw [List.map_cons, List.nodup_cons] at h3
    refine (forIn_kw hb l (slots ++ [kv]) (fun q hq => h1 q (List.mem_cons_of_mem _ hq)) (fun q hq => ?_) h3.2).trans (by rw [List.append_assoc]; rfl)
    rw [lookup_app, h2 q (List.mem_cons_of_mem _ hq)]
    have : q.1 ≠ kv.1 := fun e => h3.1 (by rw [← e]; exact List.mem_map_of_mem hq)
    simp [List.lookup_cons, this]
theorem forIn_dfl {body : (Str × Value) → List (Str × Value) → PySem.Sem (ForInStep (List (Str × Value)))} (hb : ∀ kv slots, body kv slots = pure (.yield (if (slots.lookup kv.1).isNone = true then slots ++ [kv] else slots))) :
    ∀ (l slots : List (Str × Value)), ∃ r, forIn l slots body = pure r ∧ ∀ x, r.lookup x = (slots.lookup x).or (l.lookup x)
  | [], slots => ⟨slots, by rw [List.forIn_nil], fun x => by simp⟩
  | kv :: l, slots => by
    obtain ⟨r, h1, h2⟩ := forIn_dfl hb l (if (slots.lookup kv.1).isNone = true then slots ++ [kv] else slots)
    refine ⟨r, by rw [List.forIn_cons, hb, pure_bind]; exact h1, fun x => ?_⟩
    rw [h2 x, List.lookup_cons]
    by_cases hs : (slots.lookup kv.1).isNone = true
    · rw [if_pos hs, lookup_app, Option.or_assoc]
      congr 1
      rw [List.lookup_cons]
      by_cases hx : (x == kv.1) = true
      · rw [hx]; rfl
      · have hx : (x == kv.1) = false := by simpa using hx
        rw [hx]; rfl
    · rw [if_neg hs]
      by_cases hx : (x == kv.1) = true
      · rw [hx]
        have e : x = kv.1 := eq_of_beq hx
        rw [e]
        cases hq : slots.lookup kv.1 with
        | none => rw [hq] at hs; exact absurd rfl hs
        | some v => rfl
      · have hx : (x == kv.1) = false := by simpa using hx
        rw [hx]
theorem fm_congr {α β : Type} {f g : α → Option β} : ∀ {l : List α}, (∀ x ∈ l, f x = g x) → l.filterMap f = l.filterMap g
  | [], _ => rfl
  | x :: l, h => by
    rw [List.filterMap_cons, List.filterMap_cons, h x List.mem_cons_self, fm_congr fun y hy => h y (List.mem_cons_of_mem _ hy)]
theorem zip_lookup {ps : List Str} (nd : ps.Nodup) : ∀ {us : List Value}, us.length = ps.length → ps.filterMap (fun n => ((ps.zip us).lookup n).map fun v => (n, v)) = ps.zip us := by
  induction ps with
  | nil => intro us h; rfl
  | cons p ps ih =>
    intro us h
    cases us with
    | nil => simp at h
    | cons u us =>
      rw [List.nodup_cons] at nd
      rw [List.zip_cons_cons, List.filterMap_cons, List.lookup_cons, beq_self_eq_true]
      show (p, u) :: _ = _
      congr 1
      refine (fm_congr fun n hn => ?_).trans (ih nd.2 (by simpa using h))
      have hne : (n == p) = false := by
        rw [beq_eq_false_iff_ne]
        rintro rfl
        exact nd.1 hn
      rw [List.lookup_cons, hne]
theorem zip_none {ps : List Str} {us : List Value} {x : Str} (h : x ∉ ps.take us.length) : (ps.zip us).lookup x = none := by
  induction ps generalizing us with
  | nil => simp
  | cons p ps ih =>
    cases us with
    | nil => simp
    | cons u us =>
      rw [List.length_cons, List.take_succ_cons, List.mem_cons, not_or] at h
      rw [List.zip_cons_cons, List.lookup_cons]
      have : (x == p) = false := beq_eq_false_iff_ne.mpr h.1
      rw [this]
      exact ih h.2
theorem zip_at {ps : List Str} (nd : ps.Nodup) : ∀ {us : List Value} {i : Nat} {x : Str} {u : Value}, ps[i]? = some x → us[i]? = some u → (ps.zip us).lookup x = some u := by
  induction ps with
  | nil => intro us i x u h; simp at h
  | cons p ps ih =>
    intro us i x u h1 h2
    rw [List.nodup_cons] at nd
    cases us with
    | nil => simp at h2
    | cons v us =>
      rw [List.zip_cons_cons, List.lookup_cons]
      cases i with
      | zero => simp at h1 h2; subst h1 h2; rw [beq_self_eq_true]
      | succ i =>
        have hne : (x == p) = false := by
          rw [beq_eq_false_iff_ne]
          rintro rfl
          exact nd.1 (List.mem_of_getElem? (by simpa using h1))
        rw [hne]
        exact ih nd.2 (by simpa using h1) (by simpa using h2)
theorem nodup_at {α : Type} : ∀ {l : List α} {i k : Nat} {x : α}, l.Nodup → l[i]? = some x → l[k]? = some x → i = k
  | [], i, k, x, _, h, _ => by simp at h
  | y :: l, 0, 0, x, _, _, _ => rfl
  | y :: l, 0, k + 1, x, nd, h1, h2 => by
    simp at h1 h2
    subst h1
    exact absurd (List.mem_of_getElem? h2) (List.nodup_cons.mp nd).1
  | y :: l, i + 1, 0, x, nd, h1, h2 => by
    simp at h1 h2
    subst h2
    exact absurd (List.mem_of_getElem? h1) (List.nodup_cons.mp nd).1
  | y :: l, i + 1, k + 1, x, nd, h1, h2 => by
    exact congrArg (· + 1) (nodup_at (List.nodup_cons.mp nd).2 (by simpa using h1) (by simpa using h2))
theorem take_not {ps : List Str} (nd : ps.Nodup) {i n : Nat} {x : Str} (h : ps[i]? = some x) (hn : n ≤ i) : x ∉ ps.take n := fun hm => by
  obtain ⟨k, hk⟩ := List.mem_iff_getElem?.mp hm
  rw [List.getElem?_take] at hk
  split at hk
  · rename_i hlt
    have := nodup_at nd hk h
    omega
  · cases hk
theorem bind_gen {fd : FuncData} {ps : List Str} (h0 : fd.params.posonlyargs = []) (h1 : fd.params.args.map (·.arg) = ps) (h2 : fd.params.kwonlyargs = []) (h3 : fd.params.vararg = none) (h4 : fd.params.kwarg = none) (nd : ps.Nodup) {us ws : List Value} {ks : List Str} (hk : (ps.drop us.length).take ks.length = ks) (hw : ws.length = ks.length) (hn : us.length + ks.length ≤ ps.length) :
    ∃ k, bindArgs fd ⟨us, ks.zip ws⟩ = seqItems? fd.defaults >>= k ∧ (∀ its : List Value, ps.length - (us.length + ks.length) ≤ its.length → its.length ≤ ps.length → k (some its.toArray) = pure (ps.zip (us ++ ws ++ its.drop (its.length - (ps.length - (us.length + ks.length)))))) ∧ (us.length + ks.length = ps.length → k none = pure (ps.zip (us ++ ws))) := by
  have hz : (ks.zip ws).map (·.1) = ks := List.map_fst_zip (by omega)
  have hsub : ∀ x ∈ ks, x ∈ ps.drop us.length := fun x hx => List.mem_of_mem_take (by rw [hk]; exact hx)
  have nk : ks.Nodup := by rw [← hk]; exact ((nd.sublist (List.drop_sublist _ _)).sublist (List.take_sublist _ _))
  have hmem : ∀ kv ∈ ks.zip ws, kv.1 ∈ ks := fun kv h => by rw [← hz]; exact List.mem_map_of_mem h
  have hno : ∀ x ∈ ks, (ps.zip us).lookup x = none := fun x hx => zip_none fun h => by
    have := List.nodup_append.mp (by rw [List.take_append_drop]; exact nd : (ps.take us.length ++ ps.drop us.length).Nodup)
    exact this.2.2 x h x (hsub x hx) rfl
  unfold bindArgs
  simp only [h0, h1, h2, h3, h4, List.map_nil, List.nil_append, List.append_nil]
  rw [forIn_kw (st := fun sl => (sl, ([] : List (Str × Value)))) (normal := ps) ?hb (ks.zip ws) (ps.zip us) (fun kv h => List.mem_of_mem_drop (hsub _ (hmem kv h))) (fun kv h => hno _ (hmem kv h)) (by rw [hz]; exact nk)]
  case hb =>
    intro kv slots hm hl
    have c : (ps.contains kv.1 || List.contains [] kv.1) = true := by rw [List.contains_iff_mem.mpr hm]; rfl
    rw [if_pos c, hl]
    rfl
  rw [pure_bind]
  -- what stands at each place
  have at1 : ∀ i x, ps[i]? = some x → i < us.length → ((ps.zip us ++ ks.zip ws).lookup x) = us[i]? := fun i x h hi => by
    rw [lookup_app, zip_at nd h (List.getElem?_eq_getElem hi), List.getElem?_eq_getElem hi]
    rfl
  have ka : ∀ i x, ps[i]? = some x → us.length ≤ i → i < us.length + ks.length → ks[i - us.length]? = some x := fun i x h h1 h2 => by
    rw [← hk, List.getElem?_take, if_pos (by omega), List.getElem?_drop, show us.length + (i - us.length) = i by omega]
    exact h
  have at2 : ∀ i x, ps[i]? = some x → us.length ≤ i → i < us.length + ks.length → ((ps.zip us ++ ks.zip ws).lookup x) = ws[i - us.length]? := fun i x h h1 h2 => by
    have hw' : i - us.length < ws.length := by omega
    rw [lookup_app, zip_none (take_not nd h h1), zip_at nk (ka i x h h1 h2) (List.getElem?_eq_getElem hw'), List.getElem?_eq_getElem hw']
    rfl
  have at3 : ∀ i x, ps[i]? = some x → us.length + ks.length ≤ i → ((ps.zip us ++ ks.zip ws).lookup x) = none := fun i x h h1 => by
    rw [lookup_app, zip_none (take_not nd h (by omega))]
    have hx : x ∉ ks.take ws.length := fun hm => by
      have hm := List.mem_of_mem_take hm
      obtain ⟨q, hq⟩ := List.mem_iff_getElem?.mp hm
      have hq' := (List.getElem?_eq_some_iff.mp hq).1
      have h2 : ps[us.length + q]? = some x := by
        rw [← hk, List.getElem?_take, if_pos hq', List.getElem?_drop] at hq
        exact hq
      exact take_not nd h (n := us.length + q + 1) (by omega) (List.mem_iff_getElem?.mpr ⟨us.length + q, by rw [List.getElem?_take, if_pos (by omega)]; exact h2⟩)
    rw [zip_none hx]
    rfl
  have miss : ∀ L, L ≤ us.length + ks.length → ((ps.take L).filter fun n => ((ps.zip us ++ ks.zip ws).lookup n).isNone) = [] := fun L hL => by
    rw [List.filter_eq_nil_iff]
    intro x hx
    obtain ⟨i, hi⟩ := List.mem_iff_getElem?.mp hx
    rw [List.getElem?_take] at hi
    split at hi
    · rename_i hlt
      by_cases h : i < us.length
      · rw [at1 i x hi h, List.getElem?_eq_getElem h]; simp
      · have hw' : i - us.length < ws.length := by omega
        rw [at2 i x hi (by omega) (by omega), List.getElem?_eq_getElem hw']; simp
    · cases hi
  have fin : ∀ (vs : List Value) (r : List (Str × Value)), us.length + ks.length + vs.length = ps.length → (∀ i x, ps[i]? = some x → r.lookup x = ((ps.zip us ++ ks.zip ws).lookup x).or (if us.length + ks.length ≤ i then vs[i - (us.length + ks.length)]? else none)) →
      List.filterMap (fun n => Option.map (fun x => (n, x)) (List.lookup n r)) ps = ps.zip (us ++ ws ++ vs) := fun vs r hl hr => by
    have hlen : (us ++ ws ++ vs).length = ps.length := by simp; omega
    refine (fm_congr fun n hn => ?_).trans (zip_lookup nd hlen)
    obtain ⟨i, hi⟩ := List.mem_iff_getElem?.mp hn
    have hip := (List.getElem?_eq_some_iff.mp hi).1
    congr 1
    rw [hr i n hi, zip_at nd hi (List.getElem?_eq_getElem (by omega))]
    rw [← List.getElem?_eq_getElem]
    by_cases h : i < us.length
    · rw [at1 i n hi h, List.append_assoc, List.getElem?_append_left h, List.getElem?_eq_getElem h]
      rfl
    · by_cases h2 : i < us.length + ks.length
      · have hw' : i - us.length < ws.length := by omega
        rw [at2 i n hi (by omega) h2, List.append_assoc, List.getElem?_append_right (by omega), List.getElem?_append_left hw', List.getElem?_eq_getElem hw']
        rfl
      · rw [at3 i n hi (by omega), if_pos (by omega), List.getElem?_append_right (by simp; omega)]
        simp [hw]
  refine ⟨_, rfl, fun its l1 l2 => ?_, fun l1 => ?_⟩
  · rw [if_neg (by simp; omega)]
    simp only [Option.getD_some]
    have e0 : its.length - ps.length = 0 := by omega
    rw [e0, List.drop_zero, miss _ (by omega), if_neg (by simp)]
    obtain ⟨r, hr1, hr2⟩ := forIn_dfl (body := fun x __s => if (List.lookup x.fst __s).isNone = true then pure (ForInStep.yield (__s ++ [(x.fst, x.snd)])) else pure (ForInStep.yield __s)) (fun kv slots => by
      split
      · rfl
      · rfl) ((List.drop (ps.length - its.length) ps).zip its) (ps.zip us ++ ks.zip ws)
    rw [hr1, pure_bind, List.forIn_nil, pure_bind, if_neg (by simp)]
    congr 1
    refine fin _ r (by rw [List.length_drop]; omega) fun i x hi => ?_
    rw [hr2 x]
    have hip := (List.getElem?_eq_some_iff.mp hi).1
    by_cases h : us.length + ks.length ≤ i
    · rw [at3 i x hi h, if_pos h]
      have hi2 : i - (ps.length - its.length) < its.length := by omega
      rw [zip_at (nd.sublist (List.drop_sublist _ _)) (i := i - (ps.length - its.length)) (u := its[i - (ps.length - its.length)]) (by rw [List.getElem?_drop, show ps.length - its.length + (i - (ps.length - its.length)) = i by omega]; exact hi) (List.getElem?_eq_getElem hi2)]
      rw [List.getElem?_drop, ← List.getElem?_eq_getElem]
      congr 1
      congr 1
      omega
    · rw [if_neg h]
      have : ∃ v, (ps.zip us ++ ks.zip ws).lookup x = some v := by
        by_cases h1 : i < us.length
        · exact ⟨us[i], by rw [at1 i x hi h1, List.getElem?_eq_getElem h1]⟩
        · have hw' : i - us.length < ws.length := by omega
          exact ⟨ws[i - us.length], by rw [at2 i x hi (by omega) (by omega), List.getElem?_eq_getElem hw']⟩
      obtain ⟨v, hv⟩ := this
      rw [hv]; rfl
  · rw [if_neg (by simp; omega)]
    simp only [Option.getD_none, List.drop_nil, List.length_nil, Nat.sub_zero, List.zip_nil_right, List.forIn_nil, pure_bind]
    rw [miss _ (by omega), if_neg (by simp), if_neg (by simp)]
    congr 1
    have := fin [] (ps.zip us ++ ks.zip ws) (by simp; omega) fun i x hi => by
      have hip := (List.getElem?_eq_some_iff.mp hi).1
      rw [if_neg (by omega)]
      cases (ps.zip us ++ ks.zip ws).lookup x <;> rfl
    rw [List.append_nil] at this
    exact this
/-- parameters of the plain kind -/
def okA (a : PySem.Arguments) (ps : List Str) : Bool := a.posonlyargs.isEmpty && decide (a.args.map (·.arg) = ps) && a.kwonlyargs.isEmpty && a.vararg.isNone && a.kwarg.isNone
theorem bindG_of {K : PySem.W.Frag} {r : Row} {qual : Str} {dvs : List LV} {f : Addr} {fd : FuncData} (FD : L2.FunD K r.x qual r.args r.body r.scope dvs [] f fd) (ha : okA r.args r.fi.ps = true) (nd : r.fi.ps.Nodup) (hd : ∀ ρ H, RVs K ρ H r.fi.dfl dvs) (hl : r.fi.dfl.length ≤ r.fi.ps.length) : BindG K fd r.fi := by
  intro n ks dv hs
  obtain ⟨oc, od, dV, kV, doc, pm, an, cdv, ct, osl, rfl, lk, hcd, hD, hK⟩ := FD.ex
  unfold okA at ha
  simp only [Bool.and_eq_true, decide_eq_true_eq, List.isEmpty_iff, Option.isNone_iff_eq_none] at ha
  obtain ⟨⟨⟨⟨a1, a2⟩, a3⟩, a4⟩, a5⟩ := ha
  have hlen := shape_len hs
  have hdv : dv = r.fi.dfl.drop (r.fi.dfl.length - (r.fi.ps.length - (n + ks.length))) ∧ r.fi.ps.length - (n + ks.length) ≤ r.fi.dfl.length := by
    unfold shape at hs
    split at hs
    · rename_i c
      cases hs
      exact ⟨rfl, c.2.2⟩
    · cases hs
  have hdl : ∀ H, r.fi.dfl.length = dvs.length := fun H => (hd [] H).length
  have hdl := hdl (fun _ => none)
  rcases hD with ⟨rfl, rfl⟩ | ⟨hne, T, o, its, m, rfl, lT, oT, rT⟩
  · have h0 : r.fi.dfl = [] := List.length_eq_zero_iff.mp hdl
    rw [h0] at hdv
    have hdv0 : dv = [] := by rw [hdv.1]; simp
    subst hdv0
    refine ⟨[], [], .nil, fun _ _ => .nil, fun s us ws X l1 l2 => ?_⟩
    subst l1
    obtain ⟨k, e1, _, e3⟩ := bind_gen (fd := PySem.W.fnOf r.x qual r.args r.body r.scope .none kV doc pm an cdv ct) a1 a2 a3 a4 a5 nd (us := us) (ws := ws) hlen.2 l2 (by have := hlen.1; simp at this; omega)
    refine PySem.BindsTo.of_eq ?_
    rw [e1, List.append_nil]
    show (PySem.seqItems? .none >>= k) = _
    rw [show PySem.seqItems? .none = pure none from rfl, pure_bind]
    exact e3 (by have := hlen.1; simpa using this)
  · have h1 : its.length = dvs.length := rT.length.symm
    refine ⟨dvs.drop (r.fi.dfl.length - (r.fi.ps.length - (n + ks.length))), its.drop (its.length - (r.fi.ps.length - (n + ks.length))), by rw [h1, ← hdl]; exact rT.drop _, fun ρ H => by rw [hdv.1]; exact (hd ρ H).drop _, fun s us ws X l1 l2 => ?_⟩
    subst l1
    obtain ⟨k, e1, e2, _⟩ := bind_gen (fd := PySem.W.fnOf r.x qual r.args r.body r.scope (.ref T) kV doc pm an cdv ct) a1 a2 a3 a4 a5 nd (us := us) (ws := ws) hlen.2 l2 (by have := hlen.1; omega)
    refine L2.BindsTo.of_looks fun M => ?_
    rw [e1]
    exact L2.looks_items X lT oT (.of_pure (e2 its (by omega) (by omega)))
end M

end
section
set_option Elab.async false
set_option linter.all false
set_option autoImplicit false
set_option maxRecDepth 100000
set_option maxHeartbeats 4000000
/-! a law's end -/
namespace M
open PySem (Addr Obj Value Str Expr Stmt FuncData mainGlobals)
/-! ### constants -/
mutual
def cstB (K : PySem.W.Frag) : Nat → Value → D → Bool
  | 0, _, _ => false
  | n + 1, v, d => match v, d with
    | .none, .non => true
    | .bool b, .bl c => b == c
    | .int i _, .int j => decide (i = j)
    | .str s _, .str cs => decide (s.cps.toList = cs) && sOK cs
    | .ref a, .tup ds => match K.lookup a with
      | some o => match o.cls, o.data with
        | .type c, .seq its _ => decide (c = "tuple") && decide (its.size ≤ PySem.sizeLine) && cstAll K n its.toList ds
        | _, _ => false
      | none => false
    | _, _ => false
def cstAll (K : PySem.W.Frag) : Nat → List Value → List D → Bool
  | 0, _, _ => false
  | n + 1, vs, ds => match vs, ds with
    | [], [] => true
    | v :: vs, d :: ds => cstB K n v d && cstAll K n vs ds
    | _, _ => false
end
theorem cst_ok {K : PySem.W.Frag} : ∀ n : Nat, (∀ v d, cstB K n v d = true → ∃ x : LV, L2.RelV x v ∧ ∀ ρ H, RV K ρ H d x) ∧ ∀ vs ds, cstAll K n vs ds = true → ∃ xs : List LV, L2.Vals xs vs ∧ ∀ ρ H, RVs K ρ H ds xs
  | 0 => ⟨fun _ _ h => by simp [cstB] at h, fun _ _ h => by simp [cstAll] at h⟩
  | n + 1 => by
    have ih := cst_ok (K := K) n
    refine ⟨fun v d h => ?_, fun vs ds h => ?_⟩
    · unfold cstB at h
      split at h
      · exact ⟨.non, rfl, fun _ _ => .non⟩
      · rename_i b c
        have e : b = c := eq_of_beq h
        subst e
        exact ⟨.bl b, rfl, fun _ _ => .bl b⟩
      · have e := of_decide_eq_true h
        subst e
        exact ⟨.int _, ⟨_, rfl⟩, fun _ _ => .int _⟩
      · rename_i s t cs
        rw [Bool.and_eq_true, decide_eq_true_eq] at h
        obtain ⟨e, hs⟩ := h
        subst e
        refine ⟨.str s, ⟨_, rfl⟩, fun _ _ => ?_⟩
        exact RV.str (s.cps.toList) hs
      · rename_i a ds
        split at h
        · rename_i o ho
          split at h
          · rename_i c its m hc hd
            simp only [Bool.and_eq_true, decide_eq_true_eq] at h
            obtain ⟨⟨h1, h2⟩, h3⟩ := h
            obtain ⟨xs, r1, r2⟩ := ih.2 _ _ h3
            subst h1
            exact ⟨.ref a, rfl, fun ρ H => .tup (.inr ⟨o, its, m, ho, hc, hd, h2, r1⟩) (r2 ρ H)⟩
          · cases h
        · cases h
      · cases h
    · unfold cstAll at h
      split at h
      · exact ⟨[], .nil, fun _ _ => .nil⟩
      · rw [Bool.and_eq_true] at h
        obtain ⟨x, r1, r2⟩ := ih.1 _ _ h.1
        obtain ⟨xs, q1, q2⟩ := ih.2 _ _ h.2
        exact ⟨x :: xs, .cons r1 q1, fun ρ H => .cons (r2 ρ H) (q2 ρ H)⟩
      · cases h
/-! ### the head's facts -/
def cstOk (K : PySem.W.Frag) (c : Str × D) : Bool := match PySem.W.nsIn K mainGlobals c.1 with
  | some (some v) => cstB K 60 v c.2
  | _ => false
def obsM (fa : List He.Fa) (cs : List (Str × D)) (fn : List He.DefD) (K : PySem.W.Frag) : He.AlD := ((He.obsD fa fn K).1 && cs.all (cstOk K), (He.obsD fa fn K).2)
def SaysM (fa : List He.Fa) (cs : List (Str × D)) (fn : List He.DefD) (K : PySem.W.Frag) : Prop := obsM fa cs fn K = He.valD fn
def obsMG (n : Nat) (fa : List He.Fa) (cs : List (Str × D)) (fn : List He.DefD) (g : Addr → Option Obj) : He.AlD := obsM fa cs fn (He.frG g (He.asD g n))
def hookM (n : Nat) (fa : List He.Fa) (cs : List (Str × D)) (fn : List He.DefD) : PySem.W.Hook where
  α := He.AlD
  obs := fun s => obsMG n fa cs fn s.heap.get?
  val := fun _ => He.valD fn
  says := fun _ h => ∃ K : PySem.W.Frag, K.In h ∧ SaysM fa cs fn K
  of := fun _ _ e => ⟨_, He.frG_in, e⟩
  keeps := fun _ _ _ ⟨K, hK, c⟩ k => ⟨K, PySem.W.Frag.In.keeps hK k, c⟩
theorem obsMG_eq {n : Nat} {fa : List He.Fa} {cs : List (Str × D)} {fn : List He.DefD} {g : Addr → Option Obj} {s : PySem.Shared} (h : ∀ a, g a = s.heap.get? a) : obsMG n fa cs fn g = (hookM n fa cs fn).obs s := by
  have e : g = s.heap.get? := funext h
  rw [e] <;> rfl
theorem SaysM.says {fa : List He.Fa} {cs : List (Str × D)} {fn : List He.DefD} {K : PySem.W.Frag} (c : SaysM fa cs fn K) : He.SaysD fa fn K ∧ ∀ q ∈ cs, cstOk K q = true := by
  have h1 : ((He.obsD fa fn K).1 && cs.all (cstOk K)) = true := congrArg (fun z : He.AlD => z.1) c
  have h0 : obsM fa cs fn K = He.valD fn := c
  have h2 : (He.obsD fa fn K).2 = (He.valD fn).2 := by
    have h3 : (obsM fa cs fn K).2 = (He.valD fn).2 := congrArg Prod.snd h0
    exact h3
  rw [Bool.and_eq_true] at h1
  exact ⟨Prod.ext h1.1 h2, List.all_eq_true.mp h1.2⟩
/-! ### the table of a text -/
def dflOf : List Expr → Option (List D)
  | [] => some []
  | .Constant c _ _ :: r => match litOf c, dflOf r with
    | some d, some ds => some (d :: ds)
    | _, _ => none
  | _ :: _ => none
def noRow : Row := ⟨S "", ⟨0, [], []⟩, ⟨[], [], none, [], [], none, []⟩, [], ⟨.function, [], false, false, []⟩, []⟩
def rowOf (ids : List (Str × Nat × List Str)) : Stmt → Option Row
  | .FunctionDef x args body _ _ _ scope _ _ _ => match ids.lookup x, dflOf args.defaults with
    | some (id, N), some dfl => some ⟨x, ⟨id, args.args.map (·.arg), dfl⟩, args, body, scope, N⟩
    | _, _ => none
  | _ => none
def tabOf (ids : List (Str × Nat × List Str)) (body : List Stmt) : List Row := body.filterMap (rowOf ids)
def gmOf (tab : List Row) (cs : List (Str × D)) : Gm := ⟨tab.map fun r => (r.x, r.fi), cs⟩
def dvOf : D → He.Dv
  | .bl b => .bl b
  | .int i => .int i
  | .str s => .str ⟨s.toArray⟩
  | _ => .non
def leafD : D → Bool
  | .non => true
  | .bl _ => true
  | .int _ => true
  | .str s => sOK s
  | _ => false
def defD (r : Row) : He.DefD := ⟨(r.x, none), r.x, r.x, r.args, r.body, r.scope, r.fi.dfl.map dvOf, []⟩
def fnOfTab (tab : List Row) : List He.DefD := tab.map defD
def faOf (tab : List Row) : List He.Fa := tab.map (fun r => He.Fa.glo r.x) ++ freeNames.map fun x => He.Fa.free (S x)
/-- each row can be bound -/
def rowB (r : Row) : Bool := okA r.args r.fi.ps && (decide r.fi.ps.Nodup && (r.fi.dfl.all leafD && decide (r.fi.dfl.length ≤ r.fi.ps.length)))
theorem leaf_ok {K : PySem.W.Frag} : ∀ {ds : List D}, ds.all leafD = true → ∀ ρ H, RVs K ρ H ds ((ds.map dvOf).map (He.Dv.v K))
  | [], _, _, _ => .nil
  | d :: ds, h, ρ, H => by
    rw [List.all_cons, Bool.and_eq_true] at h
    refine .cons ?_ (leaf_ok h.2 ρ H)
    have h1 := h.1
    cases d <;> first | exact .non | exact .bl _ | exact .int _ | exact .str _ h1 | exact Bool.noConfusion h1
theorem facts_of {K : PySem.W.Frag} {h : PySem.Heap} {mg : Str → Option Value} {tab : List Row} {cs : List (Str × D)} (X : K.In h) (G : h.Ns mainGlobals mg) (c : SaysM (faOf tab) cs (fnOfTab tab) K) (hb : tab.all rowB = true) : Facts (gmOf tab cs) tab K mg := by
  obtain ⟨c1, c2⟩ := c.says
  refine ⟨fun x fi hx => ?_, fun x d hx => ?_, fun x hx => ?_⟩
  · have hm : (x, fi) ∈ tab.map fun r => (r.x, r.fi) := PySem.mem_of_lookup hx
    obtain ⟨r, hr, e⟩ := List.mem_map.mp hm
    cases e
    obtain ⟨fd, FD⟩ := c1.defs (d := defD r) (List.mem_map_of_mem hr)
    have hB := List.all_eq_true.mp hb r hr
    unfold rowB at hB
    simp only [Bool.and_eq_true, decide_eq_true_eq] at hB
    refine ⟨r, hr, rfl, r.x, _, _, fd, He.glo_ok X G (c1.facts (List.mem_append_left _ (List.mem_map_of_mem hr))), FD, ?_⟩
    exact bindG_of FD hB.1 hB.2.1 (leaf_ok hB.2.2.1) hB.2.2.2
  · have hm : (x, d) ∈ cs := PySem.mem_of_lookup hx
    have := c2 _ hm
    unfold cstOk at this
    split at this
    · rename_i v hv
      obtain ⟨y, r1, r2⟩ := (cst_ok 60).1 v d this
      exact ⟨v, y, PySem.W.mg_of X G hv, r1, r2⟩
    · cases this
  · exact He.free_ok X G (c1.facts (List.mem_append_right _ (List.mem_map_of_mem hx)))
/-- the promise of the law, by mini's -/
theorem law_ok {P : PySem.Program} {w : PySem.World} {K : PySem.W.Frag} {F : FnS} {id : Nat} (hL : ∀ (c : Cell) (ns : List Int), (c = .lst (ns.map D.int) ∨ c = .ro (ns.map D.int)) → ns.length ≤ 63 → F id [.ref 0] [c] (fun d _ => d = .bl true) EN) (hF : FMono F) (H : LHp) (a : Addr) (ns : List Int) (hl : ns.length ≤ 63) (hS : L2.SqL K H a (ns.map L2.V.int)) :
    spF P w K F id [.ref a] H (fun v _ => v = .bl true) E0 := by
  have rv : ∀ ρ H, RVs K ρ H (ns.map D.int) (ns.map L2.V.int) := fun ρ H => ints_rv ns
  have go : ∀ c, (c = .lst (ns.map D.int) ∨ c = .ro (ns.map D.int)) → CellOk P w K [a] H a c → spF P w K F id [.ref a] H (fun v _ => v = .bl true) E0 := fun c hc ok => by
    refine ⟨[a], [c], [.ref 0], ⟨rfl, fun i b c' h1 h2 => ?_, fun i j b c1 c2 h1 h2 h3 h4 _ _ => ?_⟩, .cons (.ref rfl) .nil, hF _ _ _ _ _ _ (hL c ns hc hl) fun d h' e ρ' H' v p t hr rv => ?_⟩
    · cases i with
      | zero => simp at h1 h2; subst h1 h2; exact ok
      | succ i => simp at h1
    · cases i <;> cases j <;> simp at h1 h2 <;> rfl
    · subst e
      cases rv
      rfl
  rcases hS with (hS | ⟨o, hS⟩) | hS
  · exact go _ (.inl rfl) ⟨_, hS, rv _ _⟩
  · exact go _ (.inr rfl) ⟨_, .inl ⟨o, hS⟩, rv _ _⟩
  · exact go _ (.inr rfl) ⟨_, .inr hS, rv _ _⟩
where
  ints_rv {K : PySem.W.Frag} {ρ : List Addr} {H : LHp} : ∀ ns : List Int, RVs K ρ H (ns.map D.int) (ns.map L2.V.int)
  | [] => .nil
  | n :: ns => .cons (.int n) (ints_rv ns)
/-- mini's program of a table -/
def progOf (tab : List Row) (G : Gm) : Prog := tab.filterMap fun r => (r.def_ G).map fun d => (r.fi.id, d)
theorem prog_ok {tab : List Row} {G : Gm} (h : (tab.all fun r => (r.def_ G).isSome) = true) (nd : (tab.map fun r => r.fi.id).Nodup) : ∀ r ∈ tab, ∃ d, r.def_ G = some d ∧ (progOf tab G).lookup r.fi.id = some d := by
  induction tab with
  | nil => intro r hr; cases hr
  | cons a tab ih =>
    intro r hr
    rw [List.all_cons, Bool.and_eq_true] at h
    rw [List.map_cons, List.nodup_cons] at nd
    obtain ⟨d, hd⟩ := Option.isSome_iff_exists.mp h.1
    have e : progOf (a :: tab) G = (a.fi.id, d) :: progOf tab G := by
      unfold progOf
      rw [List.filterMap_cons, hd]
      rfl
    rcases List.mem_cons.mp hr with rfl | hr
    · exact ⟨d, hd, by rw [e, List.lookup_cons, beq_self_eq_true]⟩
    · obtain ⟨d', h1, h2⟩ := ih h.2 nd.2 r hr
      have hne : (r.fi.id == a.fi.id) = false := by
        rw [beq_eq_false_iff_ne]
        intro z
        exact nd.1 (by rw [← z]; exact List.mem_map_of_mem hr)
      exact ⟨d', h1, by rw [e, List.lookup_cons, hne]; exact h2⟩
/-- the law's end: its row, its number -/
theorem law_end {P : PySem.Program} {w : PySem.World} {h : PySem.Heap} {mg : Str → Option Value} {fa : Addr} {K : PySem.W.Frag} {tab : List Row} {cs : List (Str × D)} {Pm : Prog} {r : Row} {id i : Nat} (n : Nat) (KX : K.In h) (G : h.Ns mainGlobals mg) (hmg : mg (S "law") = some (.ref fa)) (c : SaysM (faOf tab) cs (fnOfTab tab) K) (hb : tab.all rowB = true)
    (hP : ∀ r ∈ tab, ∃ d, r.def_ (gmOf tab cs) = some d ∧ Pm.lookup r.fi.id = some d) (hri : tab[i]? = some r) (hid : r.fi.id = id) (hx : r.x = S "law") (hps : r.fi.ps = [S "script"]) (hd : r.fi.dfl = []) (hL : ∀ (c : Cell) (ns : List Int), (c = .lst (ns.map D.int) ∨ c = .ro (ns.map D.int)) → ns.length ≤ 63 → FW Pm n id [.ref 0] [c] (fun d _ => d = .bl true) EN) :
    ∃ (K : PySem.W.Frag) (fd : FuncData) (sp : L2.Sp), K.In h ∧ (∀ (s : PySem.Shared) (u : Value), PySem.BindsTo s fd ⟨[u], []⟩ [(S "script", u)]) ∧
        (∀ (H : LHp) (a : Addr) (ns : List Int), ns.length ≤ 63 → L2.Only H → L2.SqL K H a (ns.map L2.V.int) → sp [.ref a] H (fun v _ => v = .bl true) fun _ _ _ => False) ∧
        ∀ base : PySem.Heap, K.In base → base.Ns mainGlobals mg → L2.FnOk P w K mg base CXN n fa fd [S "script"] sp := by
  subst hid
  have hr := List.mem_of_getElem? hri
  have Fc := facts_of (tab := tab) KX G c hb
  obtain ⟨c1, c2⟩ := c.says
  obtain ⟨fd, FD⟩ := c1.defs (d := defD r) (List.mem_map_of_mem hr)
  have hg := He.glo_ok KX G (c1.facts (f := .glo r.x) (List.mem_append_left _ (List.mem_map_of_mem hr)))
  rw [hx, hmg] at hg
  have hfa : fa = He.ga K r.x := by
    rw [hx]
    exact Value.ref.inj (Option.some.inj hg)
  have hB := List.all_eq_true.mp hb r hr
  unfold rowB at hB
  simp only [Bool.and_eq_true, decide_eq_true_eq] at hB
  have FD' : L2.FunD K r.x r.x r.args r.body r.scope ((r.fi.dfl.map dvOf).map (He.Dv.v K)) [] fa fd := by rw [hfa]; exact FD
  have B := bindG_of FD' hB.1 hB.2.1 (leaf_ok hB.2.2.1) hB.2.2.2
  refine ⟨K, fd, spF P w K (FW Pm n) r.fi.id, KX, ?_, fun H a ns hl _ hS => law_ok hL (FW_mono Pm n) H a ns hl hS, fun base _ _ => by rw [← hps]; exact ok_all Fc hP n r hr _ _ _ _ FD'⟩
  have FD0 : L2.FunD K r.x r.x r.args r.body r.scope [] [] fa fd := by rw [hd] at FD'; exact FD'
  intro s u
  have a := hB.1
  unfold okA at a
  simp only [Bool.and_eq_true, decide_eq_true_eq, List.isEmpty_iff, Option.isNone_iff_eq_none] at a
  obtain ⟨⟨⟨⟨a1, a2⟩, a3⟩, a4⟩, a5⟩ := a
  refine L2.FunD.bindsA (ps := [S "script"]) FD0 (fun kV doc pm an cdv ct us hl => ?_) s [u] rfl
  obtain ⟨k, e1, _, e3⟩ := bind_gen (fd := PySem.W.fnOf r.x r.x r.args r.body r.scope .none kV doc pm an cdv ct) (ps := [S "script"]) a1 (by rw [← hps]; exact a2) a3 a4 a5 (by simp) (us := us) (ws := []) (ks := []) (by simp) rfl (by simp at hl; simp [hl])
  have e0 : PySem.bindArgs (PySem.W.fnOf r.x r.x r.args r.body r.scope .none kV doc pm an cdv ct) ⟨us, []⟩ = PySem.seqItems? .none >>= k := e1
  rw [e0, show PySem.seqItems? .none = pure none from rfl, pure_bind, e3 (by simpa using hl), List.append_nil]
end M

end
section
set_option Elab.async false
set_option linter.all false
set_option autoImplicit false
/-! tools for laws about mini's meaning -/
namespace M
theorem fw_open {P : Prog} {n f : Nat} {ds : List D} {h : Hm} {Q : VQ} {E : XP} {d : Def} (hl : P.lookup f = some d) (hp : ds.length = d.params) (w : wpSs (FW P n) E d.body (ds.map some ++ List.replicate (d.slots - d.params) none) h { nx := fun _ h' => Q .non h', rt := Q, bk := fun _ _ => False, ct := fun _ _ => False }) : FW P (n + 1) f ds h Q E := by
  unfold FW
  rw [hl]
  exact ⟨hp, w⟩
theorem getM_set {h : Hm} {a : Nat} {xs ys : List D} (e : getM h a = some xs) : getM (h.set a (.lst ys)) a = some ys := by
  have : a < h.length := by
    unfold getM at e
    split at e
    · rename_i z e2; exact (List.getElem?_eq_some_iff.mp e2).1
    · cases e
  unfold getM
  rw [List.getElem?_set_self this]
theorem getM_at' {h : Hm} {a : Nat} {xs : List D} (e : getM h a = some xs) : h[a]? = some (.lst xs) := by
  unfold getM at e
  split at e
  · rename_i z e2; cases e; exact e2
  · cases e
/-! readings of the partial functions -/
section
variable {h : Hm} {a : Nat} {xs ys : List D} {i j k : Int} {x y v : D}
theorem jn {d : D} : (some (some d)).join = some d := rfl
theorem idx_lst (e : h[a]? = some (.lst xs)) : idxS (.ref a) (.int k) h = atI xs k := by simp [idxS, e]
theorem idx_ro (e : h[a]? = some (.ro xs)) : idxS (.ref a) (.int k) h = atI xs k := by simp [idxS, e]
theorem idx_tup : idxS (.tup xs) (.int k) h = atI xs k := rfl
theorem at_nat {n : Nat} (e : xs[n]? = some x) : atI xs (n : Int) = some x := by
  have := (List.getElem?_eq_some_iff.mp e).1
  unfold atI ixN
  rw [if_pos (by omega), if_pos (by omega)]
  show xs[((n : Int)).toNat]? = some x
  rw [Int.toNat_natCast]; exact e
theorem at_pos {n : Int} (h0 : 0 ≤ n) (e : xs[n.toNat]? = some x) : atI xs n = some x := by
  have := at_nat e
  rwa [Int.toNat_of_nonneg h0] at this
theorem at0 : atI (x :: xs) 0 = some x := at_nat (n := 0) rfl
theorem at1 : atI (x :: y :: xs) 1 = some y := at_nat (n := 1) rfl
theorem at2 {z : D} : atI (x :: y :: z :: xs) 2 = some z := at_nat (n := 2) rfl
theorem c_gt : cmpS .gt (.int i) (.int j) h = some (decide (j < i)) := rfl
theorem c_lt : cmpS .lt (.int i) (.int j) h = some (decide (i < j)) := rfl
theorem c_le : cmpS .le (.int i) (.int j) h = some (decide (i ≤ j)) := rfl
theorem c_ge : cmpS .ge (.int i) (.int j) h = some (decide (j ≤ i)) := rfl
theorem c_is : cmpS .is x y h = isS x y := rfl
theorem c_isnt : cmpS .isnt x y h = (isS x y).map not := rfl
theorem c_eqI : cmpS .eq (.int i) (.int j) h = some (decide (i = j)) := by simp [cmpS, eqv, snap, snapD, dep, eqD]
theorem c_neI : cmpS .ne (.int i) (.int j) h = some (!decide (i = j)) := by simp [cmpS, eqv, snap, snapD, dep, eqD]
theorem c_eqS {s t : List Nat} : cmpS .eq (.str s) (.str t) h = some (decide (s = t)) := by simp [cmpS, eqv, snap, snapD, dep, eqD]
theorem c_neS {s t : List Nat} : cmpS .ne (.str s) (.str t) h = some (!decide (s = t)) := by simp [cmpS, eqv, snap, snapD, dep, eqD]
theorem c_eqB {b c : Bool} : cmpS .eq (.bl b) (.bl c) h = some (b == c) := by simp [cmpS, eqv, snap, snapD, dep, eqD]
theorem c_neB {b c : Bool} : cmpS .ne (.bl b) (.bl c) h = some (!(b == c)) := by simp [cmpS, eqv, snap, snapD, dep, eqD]
theorem t_bl {b : Bool} : truth h (.bl b) = some b := rfl
theorem b_int : bltS .int [.int i] h = some (.int i, h) := rfl
theorem b_abs : bltS .abs [.int i] h = some (.int (if i < 0 then -i else i), h) := rfl
theorem b_max2 : bltS .max2 [.int i, .int j] h = some (.int (if j > i then j else i), h) := rfl
theorem b_min2 : bltS .min2 [.int i, .int j] h = some (.int (if j < i then j else i), h) := rfl
theorem b_lenT : bltS .len [.tup xs] h = some (.int xs.length, h) := rfl
theorem b_lenL (e : h[a]? = some (.lst xs)) : bltS .len [.ref a] h = some (.int xs.length, h) := by simp [bltS, lenS, e]
theorem b_lenR (e : h[a]? = some (.ro xs)) : bltS .len [.ref a] h = some (.int xs.length, h) := by simp [bltS, lenS, e]
theorem b_lenD {kvs : List (D × D)} (e : h[a]? = some (.dct kvs)) : bltS .len [.ref a] h = some (.int kvs.length, h) := by simp [bltS, lenS, e]
theorem o_add : binS .add (.int i) (.int j) h = some (.int (i + j), h) := rfl
theorem o_sub : binS .sub (.int i) (.int j) h = some (.int (i - j), h) := rfl
theorem o_mulR (l : -LINT < j ∧ j < LINT) : binS .mul (.int i) (.int j) h = some (.int (i * j), h) := by simp [binS, l]
theorem o_mulL (l : -LINT < i ∧ i < LINT) : binS .mul (.int i) (.int j) h = some (.int (i * j), h) := by simp [binS, l]
theorem o_mod (l : 0 < j) : binS .mod (.int i) (.int j) h = some (.int (i % j), h) := by
  have : j ≠ 0 := by omega
  simp [binS, this, Int.fmod_eq_emod_of_nonneg i (by omega : (0 : Int) ≤ j)]
theorem o_fdiv (l : 0 < j) (l2 : j < 1073741824) : binS .fdiv (.int i) (.int j) h = some (.int (i / j), h) := by
  have h1 : j ≠ 0 := by omega
  have h2 : j.natAbs < 1073741824 := by omega
  simp [binS, h1, h2, Int.fdiv_eq_ediv_of_nonneg i (by omega : (0 : Int) ≤ j)]
theorem s_lst {n : Nat} (e : h[a]? = some (.lst xs)) (l : ixN xs.length k = some n) : setS (.ref a) (.int k) v h = some (h.set a (.lst (xs.set n v))) := by simp [setS, e, l]
theorem ix00 {n : Nat} : ixN (n + 1) 0 = some 0 := by unfold ixN; rw [if_pos (by omega), if_pos (by omega)]; rfl
theorem ix01 {n : Nat} : ixN (n + 2) 1 = some 1 := by unfold ixN; rw [if_pos (by omega), if_pos (by omega)]; rfl
theorem set_at {c c' : Cell} (e : h[a]? = some c) : (h.set a c')[a]? = some c' := by
  rw [List.getElem?_set_self (List.getElem?_eq_some_iff.mp e).1]
theorem idx_cell {c : Cell} (e : h[a]? = some c) (hc : c = .lst xs ∨ c = .ro xs) : idxS (.ref a) (.int k) h = atI xs k := by
  rcases hc with rfl | rfl
  · exact idx_lst e
  · exact idx_ro e
theorem b_lenC {c : Cell} (e : h[a]? = some c) (hc : c = .lst xs ∨ c = .ro xs) : bltS .len [.ref a] h = some (.int xs.length, h) := by
  rcases hc with rfl | rfl
  · exact b_lenL e
  · exact b_lenR e
theorem at_ints {ns : List Int} (h0 : 0 ≤ k) (h1 : k < ns.length) : atI (ns.map D.int) k = some (.int (ns[k.toNat]'(by omega))) :=
  at_pos h0 (by rw [List.getElem?_map, List.getElem?_eq_getElem (by omega)]; rfl)
theorem o_pow10 : binS .pow (.int 10) (.int 18) h = some (.int (10 ^ 18), h) := by simp [binS]
end
/-! kinds -/
/-- a value whose reference, if it is one, is a list's -/
def okR (h : Hm) : D → Prop
  | .ref a => ∃ xs, h[a]? = some (.lst xs) ∨ h[a]? = some (.ro xs)
  | .lst _ => False
  | _ => True
def kindB (t : Ty) : D → Bool
  | .non => false
  | .bl _ => t = .int ∨ t = .bool
  | .int _ => t = .int
  | .str _ => t = .str
  | .tup _ => t = .tuple
  | .ref _ => t = .list
  | .lst _ => false
theorem isi_ok {h : Hm} {d : D} (ok : okR h d) (t : Ty) : bltS (.isi t) [d] h = some (.bl (kindB t d), h) := by
  have e : isiS h t d = some (kindB t d) := by
    cases d <;> first | rfl | skip
    · exact ok.elim
    · obtain ⟨xs, e | e⟩ := ok <;> simp [isiS, e, kindB]
  simp [bltS, e]
def isInt : D → Bool
  | .int _ => true
  | _ => false
def isTupD : D → Bool
  | .tup _ => true
  | _ => false
def isStr : D → Bool
  | .str _ => true
  | _ => false
/-- a whole number from lo, to hi if it is said -/
def numB (lo : Int) (hi : Option Int) : D → Bool
  | .int i => decide (lo ≤ i) && (match hi with
    | none => true
    | some m => decide (i ≤ m))
  | _ => false
def hiD : Option Int → D
  | none => .non
  | some m => .int m
/-! ### comprehensions that only make new cells -/
theorem pre_at {h0 h : Hm} (p : h0 <+: h) {i : Nat} {c : Cell} (e : h0[i]? = some c) : h[i]? = some c := by
  obtain ⟨t, rfl⟩ := p
  rw [List.getElem?_append_left (List.getElem?_eq_some_iff.mp e).1]; exact e
theorem still_pre {g : List (Nat × Cell)} {h0 h : Hm} (s : still g h0) (p : h0 <+: h) : still g h := fun x hx => pre_at p (s x hx)
theorem pre_set {h0 h : Hm} (p : h0 <+: h) {i : Nat} (hi : h0.length ≤ i) (c : Cell) : h0 <+: h.set i c := by
  obtain ⟨t, rfl⟩ := p
  rw [List.set_append_right _ _ hi]
  exact ⟨_, rfl⟩
theorem comp_fm {g : List (Nat × Cell)} {h0 : Hm} {step : D → Hm → (Option D → Hm → Prop) → Prop} {Q : Hm → Prop} (f : D → Option D) (st : still g h0) :
    ∀ (xs acc : List D) (h : Hm), (∀ x ∈ xs, ∀ (h : Hm) (R : Option D → Hm → Prop), h0 <+: h → (∀ h', h <+: h' → R (f x) h') → step x h R) → acc.length + xs.length ≤ LIM → h0 <+: h → h[h0.length]? = some (.lst acc) →
      (∀ h', h0 <+: h' → h'[h0.length]? = some (.lst (acc ++ xs.filterMap f)) → Q h') → compL g h0.length step Q xs h
  | [], acc, h, hs, hl, p, e, q => ⟨still_pre st p, q h p (by rw [List.filterMap_nil, List.append_nil]; exact e)⟩
  | x :: xs, acc, h, hs, hl, p, e, q => by
    refine ⟨still_pre st p, hs x List.mem_cons_self h _ p fun h' p' => ?_⟩
    have e' := pre_at p' e
    rw [List.length_cons] at hl
    cases hf : f x with
    | none =>
      refine comp_fm f st xs acc h' (fun y hy => hs y (List.mem_cons_of_mem _ hy)) (by omega) (p.trans p') e' fun h'' p'' e'' => q h'' p'' ?_
      rw [List.filterMap_cons, hf]; exact e''
    | some y =>
      have em : getM h' h0.length = some acc := by unfold getM; rw [e']
      show ws (getM h' h0.length) _
      rw [em]
      refine ⟨by omega, comp_fm f st xs (acc ++ [y]) _ (fun y hy => hs y (List.mem_cons_of_mem _ hy)) (by rw [List.length_append]; simp; omega) (pre_set (p.trans p') (Nat.le_refl _) _) (set_at e') fun h'' p'' e'' => q h'' p'' ?_⟩
      rw [List.filterMap_cons, hf]
      rw [List.append_assoc] at e''
      exact e''
/-- the whole comprehension -/
theorem comp_new {g : List (Nat × Cell)} {h0 : Hm} {step : D → Hm → (Option D → Hm → Prop) → Prop} {Q : Hm → Prop} (f : D → Option D) (st : still g h0) {xs : List D} (hl : xs.length ≤ LIM)
    (hs : ∀ x ∈ xs, ∀ (h : Hm) (R : Option D → Hm → Prop), h0 <+: h → (∀ h', h <+: h' → R (f x) h') → step x h R) (q : ∀ h', h0 <+: h' → h'[h0.length]? = some (.lst (xs.filterMap f)) → Q h') : compL g h0.length step Q xs (h0 ++ [.lst []]) :=
  comp_fm f st xs [] _ hs (by simpa using hl) ⟨_, rfl⟩ (by simp) fun h' p e => q h' p (by simpa using e)
/-- a for loop by an invariant over the items that are left -/
theorem forL_inv {g : List (Nat × Cell)} {step : D → Env → Hm → (Env → Hm → Prop) → Prop} {nx : Env → Hm → Prop} (I : List D → Env → Hm → Prop) (hg : ∀ l env h, I l env h → still g h) (hs : ∀ x l env h (R : Env → Hm → Prop), I (x :: l) env h → (∀ e h, I l e h → R e h) → step x env h R) (hn : ∀ env h, I [] env h → nx env h) :
    ∀ (xs : List D) (env : Env) (h : Hm), I xs env h → forL g step nx xs env h
  | [], env, h, hi => ⟨hg _ _ _ hi, hn env h hi⟩
  | x :: xs, env, h, hi => ⟨hg _ _ _ hi, hs x xs env h _ hi fun e h' hi' => forL_inv I hg hs hn xs e h' hi'⟩
/-! ### dict comprehensions: the keys, first come -/
def dk (ks : List D) (k : D) : List D := if (ks.any fun p => eqD p k) = true then ks else ks ++ [k]
theorem dput_keys (kvs : List (D × D)) (k v : D) : (dput kvs k v).map (·.1) = dk (kvs.map (·.1)) k := by
  unfold dput dk
  rw [List.any_map]
  by_cases c : (kvs.any ((fun p => eqD p k) ∘ (·.1))) = true
  · have c' : (kvs.any fun p => eqD p.1 k) = true := c
    rw [if_pos c, if_pos c', List.map_map]
    refine List.map_congr_left fun p _ => ?_
    show (if eqD p.1 k = true then (p.1, v) else p).1 = p.1
    split <;> rfl
  · have c' : ¬ (kvs.any fun p => eqD p.1 k) = true := c
    rw [if_neg c, if_neg c', List.map_append]
    rfl
theorem dk_length (ks : List D) (k : D) : (dk ks k).length ≤ ks.length + 1 := by
  unfold dk
  split
  · omega
  · simp
theorem dcomp_fm {g : List (Nat × Cell)} {h0 : Hm} {step : D → Hm → (Option (D × D) → Hm → Prop) → Prop} {Q : Hm → Prop} (f : D → D × D) (st : still g h0) :
    ∀ (xs : List D) (acc : List (D × D)) (h : Hm), (∀ x ∈ xs, ∀ (h : Hm) (R : Option (D × D) → Hm → Prop), h0 <+: h → (∀ h', h <+: h' → R (some (f x)) h') → step x h R) → (∀ x ∈ xs, leafB (f x).1 = true) → (∀ p ∈ acc, leafB p.1 = true) → acc.length + xs.length ≤ LIM → h0 <+: h → h[h0.length]? = some (.dct acc) →
      (∀ h' kvs, h0 <+: h' → kvs.map (·.1) = (xs.map fun x => (f x).1).foldl dk (acc.map (·.1)) → h'[h0.length]? = some (.dct kvs) → Q h') → dcompL g h0.length step Q xs h
  | [], acc, h, hs, hk, ha, hl, p, e, q => ⟨still_pre st p, q h acc p rfl e⟩
  | x :: xs, acc, h, hs, hk, ha, hl, p, e, q => by
    refine ⟨still_pre st p, hs x List.mem_cons_self h _ p fun h' p' => ?_⟩
    have e' := pre_at p' e
    rw [List.length_cons] at hl
    have em : getK h' h0.length = some acc := by unfold getK; rw [e']
    show ws (getK h' h0.length) _
    rw [em]
    have hx := hk x List.mem_cons_self
    have leaf_key : ∀ d : D, leafB d = true → keyOK d = true ∧ isTup d = false := fun d h => by
      cases d <;> first | exact ⟨rfl, rfl⟩ | exact Bool.noConfusion h
    have hin : keyIn acc (f x).1 = true := by
      unfold keyIn
      rw [Bool.and_eq_true]
      refine ⟨(leaf_key _ hx).1, List.all_eq_true.mpr fun q hq => ?_⟩
      rw [(leaf_key _ (ha q hq)).2, (leaf_key _ hx).2]; rfl
    have hlen : (dput acc (f x).1 (f x).2).length ≤ acc.length + 1 := by
      have := dk_length (acc.map (·.1)) (f x).1
      rw [← dput_keys acc (f x).1 (f x).2, List.length_map, List.length_map] at this
      exact this
    refine ⟨⟨hin, (leaf_key _ hx).2⟩, by omega, dcomp_fm f st xs _ _ (fun y hy => hs y (List.mem_cons_of_mem _ hy)) (fun y hy => hk y (List.mem_cons_of_mem _ hy)) (fun q hq => ?_) (by omega) (pre_set (p.trans p') (Nat.le_refl _) _) (set_at e') fun h'' kvs p'' e1 e'' => q h'' kvs p'' ?_ e''⟩
    · have hm : q.1 ∈ (dput acc (f x).1 (f x).2).map (·.1) := List.mem_map_of_mem hq
      rw [dput_keys] at hm
      unfold dk at hm
      split at hm
      · obtain ⟨r, hr, e⟩ := List.mem_map.mp hm
        rw [← e]; exact ha r hr
      · rcases List.mem_append.mp hm with hm | hm
        · obtain ⟨r, hr, e⟩ := List.mem_map.mp hm
          rw [← e]; exact ha r hr
        · rw [List.mem_singleton.mp hm]; exact hx
    · rw [e1, dput_keys, List.map_cons, List.foldl_cons]
theorem dcomp_new {g : List (Nat × Cell)} {h0 : Hm} {step : D → Hm → (Option (D × D) → Hm → Prop) → Prop} {Q : Hm → Prop} (f : D → D × D) (st : still g h0) {xs : List D} (hl : xs.length ≤ LIM) (hk : ∀ x ∈ xs, leafB (f x).1 = true)
    (hs : ∀ x ∈ xs, ∀ (h : Hm) (R : Option (D × D) → Hm → Prop), h0 <+: h → (∀ h', h <+: h' → R (some (f x)) h') → step x h R) (q : ∀ h' kvs, h0 <+: h' → kvs.map (·.1) = (xs.map fun x => (f x).1).foldl dk [] → h'[h0.length]? = some (.dct kvs) → Q h') : dcompL g h0.length step Q xs (h0 ++ [.dct []]) :=
  dcomp_fm f st xs [] _ hs hk (fun _ h => nomatch h) (by simpa using hl) ⟨_, rfl⟩ (by simp) fun h' kvs p e1 e => q h' kvs p e1 e
/-- the keys of pairs put one behind another -/
theorem merge_keys : ∀ (ps kvs : List (D × D)), (∀ p ∈ ps, leafB p.1 = true) → (∀ p ∈ kvs, leafB p.1 = true) → ∃ r, mergeK kvs ps = some r ∧ r.map (·.1) = (ps.map (·.1)).foldl dk (kvs.map (·.1))
  | [], kvs, _, _ => ⟨kvs, rfl, rfl⟩
  | (k, v) :: ps, kvs, hp, hk => by
    have leaf_key : ∀ d : D, leafB d = true → keyOK d = true ∧ isTup d = false := fun d h => by
      cases d <;> first | exact ⟨rfl, rfl⟩ | exact Bool.noConfusion h
    have hx : leafB k = true := hp (k, v) List.mem_cons_self
    have hin : keyIn kvs k = true := by
      unfold keyIn
      rw [Bool.and_eq_true]
      refine ⟨(leaf_key _ hx).1, List.all_eq_true.mpr fun q hq => ?_⟩
      rw [(leaf_key _ (hk q hq)).2, (leaf_key _ hx).2]; rfl
    have hk2 : ∀ q ∈ dput kvs k v, leafB q.1 = true := fun q hq => by
      have hm : q.1 ∈ (dput kvs k v).map (·.1) := List.mem_map_of_mem hq
      rw [dput_keys] at hm
      unfold dk at hm
      split at hm
      · obtain ⟨r, hr, e⟩ := List.mem_map.mp hm
        rw [← e]; exact hk r hr
      · rcases List.mem_append.mp hm with hm | hm
        · obtain ⟨r, hr, e⟩ := List.mem_map.mp hm
          rw [← e]; exact hk r hr
        · rw [List.mem_singleton.mp hm]; exact hx
    obtain ⟨r, h1, h2⟩ := merge_keys ps (dput kvs k v) (fun p hp' => hp p (List.mem_cons_of_mem _ hp')) hk2
    refine ⟨r, ?_, ?_⟩
    · rw [mergeK, if_pos hin]; exact h1
    · rw [h2, dput_keys]; rfl
/-! ### ints: distinct, in order -/
def uq (acc : List Int) (k : Int) : List Int := if k ∈ acc then acc else acc ++ [k]
def insI (x : Int) : List Int → List Int
  | [] => [x]
  | y :: ys => if y < x then y :: insI x ys else x :: y :: ys
def sortI : List Int → List Int
  | [] => []
  | x :: xs => insI x (sortI xs)
/-- the distinct ones, in order -/
def lin (ks : List Int) : List Int := sortI (ks.foldl uq [])
theorem any_int (acc : List Int) (k : Int) : ((acc.map D.int).any fun p => eqD p (.int k)) = decide (k ∈ acc) := by
  induction acc with
  | nil => rfl
  | cons a acc ih =>
    rw [List.map_cons, List.any_cons, ih]
    by_cases h : k = a
    · subst h; simp [eqD]
    · have : a ≠ k := fun e => h e.symm
      simp [eqD, h, this]
theorem dk_int (acc : List Int) (k : Int) : dk (acc.map D.int) (.int k) = (uq acc k).map D.int := by
  unfold dk uq
  rw [any_int]
  by_cases h : k ∈ acc
  · simp [h]
  · simp [h]
theorem dk_ints : ∀ (ks acc : List Int), (ks.map D.int).foldl dk (acc.map D.int) = (ks.foldl uq acc).map D.int
  | [], _ => rfl
  | k :: ks, acc => by rw [List.map_cons, List.foldl_cons, List.foldl_cons, dk_int, dk_ints ks]
theorem ltB_int (a b : Int) : ltB (.int a) (.int b) = decide (a < b) := by
  unfold ltB
  simp [toks, ltT, ltI]
theorem insD_int (x : Int) : ∀ ys : List Int, insD (.int x) (ys.map D.int) = (insI x ys).map D.int
  | [] => rfl
  | y :: ys => by
    rw [List.map_cons, insD, insI, ltB_int]
    by_cases h : y < x
    · simp [h, insD_int x ys]
    · simp [h]
theorem sortD_int : ∀ xs : List Int, sortD (xs.map D.int) = (sortI xs).map D.int
  | [] => rfl
  | x :: xs => by rw [List.map_cons, sortD, sortI, sortD_int xs, insD_int]
theorem pure_ints : ∀ xs : List Int, pureDs (xs.map D.int) = true ∧ deps (xs.map D.int) = 0
  | [] => ⟨rfl, rfl⟩
  | x :: xs => by
    obtain ⟨a, b⟩ := pure_ints xs
    exact ⟨by rw [List.map_cons, pureDs, a]; rfl, by rw [List.map_cons, deps, b]; rfl⟩
theorem sortOK_ints (xs : List Int) : sortOK (xs.map D.int) = true := by
  obtain ⟨a, b⟩ := pure_ints xs
  unfold sortOK
  rw [a, b]
  have h1 : ((xs.map D.int).all fun x => (xs.map D.int).all fun y => alikeD x y) = true := by
    rw [List.all_eq_true]
    intro x hx
    rw [List.all_eq_true]
    intro y hy
    obtain ⟨i, _, rfl⟩ := List.mem_map.mp hx
    obtain ⟨j, _, rfl⟩ := List.mem_map.mp hy
    rfl
  have h2 : (xs.map D.int).all flatD = true := by
    rw [List.all_eq_true]
    intro x hx
    obtain ⟨i, _, rfl⟩ := List.mem_map.mp hx
    rfl
  rw [h1, h2]
  simp
theorem b_sortedD {h : Hm} {a : Nat} {kvs : List (D × D)} {ks : List Int} (e : h[a]? = some (.dct kvs)) (hk : kvs.map (·.1) = ks.map D.int) : bltS .sorted [.ref a] h = some (.ref h.length, h ++ [.lst ((sortI ks).map D.int)]) := by
  simp only [bltS, itemsOf, e, Option.bind_some]
  have : kvs.map (fun p => p.1) = ks.map D.int := hk
  rw [this, if_pos (sortOK_ints ks), sortD_int]
  rfl
theorem b_tupleL {h : Hm} {a : Nat} {xs : List D} (e : h[a]? = some (.lst xs)) : bltS .tuple [.ref a] h = some (.tup xs, h) := by simp [bltS, seqOf, getL, e]
theorem it_tup {h : Hm} {xs : List D} : iterS .val [.tup xs] h = some (xs, []) := rfl
theorem it_lst {h : Hm} {a : Nat} {xs : List D} (e : h[a]? = some (.lst xs)) : iterS .val [.ref a] h = some (xs, [(a, .lst xs)]) := by simp [iterS, seqOf, getL, leanOn, e]
theorem still_nil {h : Hm} : still [] h := fun _ h => nomatch h
theorem still_one {h : Hm} {a : Nat} {c : Cell} (e : h[a]? = some c) : still [(a, c)] h := fun p hp => by rw [List.mem_singleton.mp hp]; exact e
theorem last_at {h : Hm} {c : Cell} : (h ++ [c])[h.length]? = some c := by simp
theorem pre_one {h : Hm} {c : Cell} : h <+: h ++ [c] := ⟨[c], rfl⟩
theorem pairs_ok (ps : List (D × D)) : pairsOf (ps.map fun p => D.tup [p.1, p.2]) = some ps := by
  induction ps with
  | nil => rfl
  | cons p ps ih => rw [List.map_cons, pairsOf, ih]; rfl
theorem b_dictL {h : Hm} {a : Nat} {ps : List (D × D)} (e : h[a]? = some (.lst (ps.map fun p => D.tup [p.1, p.2]))) (hl : ps.length ≤ LIM) (hk : ∀ p ∈ ps, leafB p.1 = true) : ∃ kvs, bltS .dict [.ref a] h = some (.ref h.length, h ++ [.dct kvs]) ∧ kvs.map (·.1) = (ps.map (·.1)).foldl dk [] := by
  obtain ⟨kvs, h1, h2⟩ := merge_keys ps [] hk fun _ h => nomatch h
  refine ⟨kvs, ?_, h2⟩
  have e1 : lstOf h (.ref a) = some (ps.map fun p => D.tup [p.1, p.2]) := by simp [lstOf, getL, e]
  have e2 : (ps.all fun p => leafB p.1) = true := List.all_eq_true.mpr hk
  simp only [bltS, e1, Option.bind_some, pairs_ok]
  rw [if_pos ⟨e2, hl⟩, h1]
  rfl
/-! ### dicts with keys from outside -/
structure Enc (α : Type) [DecidableEq α] where
  e : α → D
  eq : ∀ a b, eqD (e a) (e b) = decide (a = b)
  ok : ∀ a, keyOK (e a) = true
  tup : Bool
  tp : ∀ a, isTup (e a) = tup
section
variable {α β : Type} [DecidableEq α]
def look (ps : List (α × β)) (k : α) : Option β := (ps.find? fun p => decide (p.1 = k)).map (·.2)
def put (ps : List (α × β)) (k : α) (v : β) : List (α × β) := if (ps.any fun p => decide (p.1 = k)) = true then ps.map (fun p => if p.1 = k then (p.1, v) else p) else ps ++ [(k, v)]
def encL (E : Enc α) (f : β → D) (ps : List (α × β)) : List (D × D) := ps.map fun p => (E.e p.1, f p.2)
theorem look_put_same (ps : List (α × β)) (k : α) (v : β) : look (put ps k v) k = some v := by
  unfold put
  split
  · rename_i h
    unfold look
    induction ps with
    | nil => simp at h
    | cons p ps ih =>
      rw [List.map_cons, List.find?_cons]
      by_cases hp : p.1 = k
      · simp [hp]
      · rw [if_neg hp]
        simp only [hp, decide_false]
        refine ih ?_
        simpa [hp] using h
  · rename_i h
    unfold look
    rw [List.find?_append]
    have : ps.find? (fun p => decide (p.1 = k)) = none := by
      rw [List.find?_eq_none]
      intro x hx hk
      exact h (List.any_eq_true.mpr ⟨x, hx, hk⟩)
    rw [this]
    simp
theorem look_put_ne (ps : List (α × β)) {k k' : α} (v : β) (hne : k' ≠ k) : look (put ps k v) k' = look ps k' := by
  unfold put
  split
  · unfold look
    induction ps with
    | nil => rfl
    | cons p ps ih =>
      rename_i h
      rw [List.map_cons, List.find?_cons, List.find?_cons]
      by_cases hp : p.1 = k
      · have h1 : ¬ p.1 = k' := fun z => hne (z.symm.trans hp)
        have h2 : ¬ k = k' := fun z => hne z.symm
        simp only [hp, if_true, h2, decide_false]
        clear ih
        induction ps with
        | nil => rfl
        | cons q ps ih2 =>
          rw [List.map_cons, List.find?_cons, List.find?_cons]
          by_cases hq : q.1 = k
          · simp only [hq, if_true, h2, decide_false]
            exact ih2 (by simp [hp])
          · rw [if_neg hq]
            by_cases hq2 : q.1 = k'
            · simp [hq2]
            · simp only [hq2, decide_false]
              exact ih2 (by simp [hp])
      · rw [if_neg hp]
        by_cases hp2 : p.1 = k'
        · simp [hp2]
        · simp only [hp2, decide_false]
          exact ih (by simpa [hp] using h)
  · unfold look
    rw [List.find?_append]
    cases hq : ps.find? (fun p => decide (p.1 = k')) with
    | some q => rfl
    | none =>
      have h2 : ¬ k = k' := fun z => hne z.symm
      simp [h2]
theorem put_length (ps : List (α × β)) (k : α) (v : β) : (put ps k v).length ≤ ps.length + 1 := by
  unfold put
  split <;> simp
variable (E : Enc α) (f : β → D)
theorem enc_get (ps : List (α × β)) (k : α) : dget (encL E f ps) (E.e k) = (look ps k).map f := by
  unfold dget look encL
  induction ps with
  | nil => rfl
  | cons p ps ih =>
    rw [List.map_cons, List.find?_cons, List.find?_cons, E.eq]
    by_cases h : p.1 = k
    · simp [h]
    · simpa [h] using ih
theorem enc_put (ps : List (α × β)) (k : α) (v : β) : dput (encL E f ps) (E.e k) (f v) = encL E f (put ps k v) := by
  have ha : ((encL E f ps).any fun p => eqD p.1 (E.e k)) = ps.any fun p => decide (p.1 = k) := by
    unfold encL
    rw [List.any_map]
    congr 1
    funext p
    exact E.eq _ _
  unfold dput put
  rw [ha]
  split
  · unfold encL
    rw [List.map_map, List.map_map]
    refine List.map_congr_left fun p _ => ?_
    show (if eqD (E.e p.1) (E.e k) = true then (E.e p.1, f v) else (E.e p.1, f p.2)) = _
    rw [E.eq]
    by_cases h : p.1 = k
    · simp [h]
    · simp [h]
  · unfold encL
    rw [List.map_append]
    rfl
theorem enc_in (ps : List (α × β)) (k : α) : keyIn (encL E f ps) (E.e k) = true := by
  unfold keyIn
  rw [E.ok, Bool.true_and, List.all_eq_true]
  intro p hp
  obtain ⟨q, _, rfl⟩ := List.mem_map.mp hp
  show (isTup (E.e q.1) == isTup (E.e k)) = true
  rw [E.tp, E.tp]
  exact beq_self_eq_true _
end
/-- a comprehension by an invariant over the items that are left and the list so far -/
theorem comp_inv {g : List (Nat × Cell)} {a : Nat} {step : D → Hm → (Option D → Hm → Prop) → Prop} {Q : Hm → Prop} (I : List D → List D → Hm → Prop) (hg : ∀ l acc h, I l acc h → still g h)
    (hs : ∀ x l acc h (R : Option D → Hm → Prop), I (x :: l) acc h → (∀ y h', h'[a]? = some (.lst acc) → acc.length < LIM → I l (acc ++ [y]) (h'.set a (.lst (acc ++ [y]))) → R (some y) h') → (∀ h', I l acc h' → R none h') → step x h R) (hQ : ∀ acc h, I [] acc h → Q h) :
    ∀ (xs acc : List D) (h : Hm), I xs acc h → compL g a step Q xs h
  | [], acc, h, hi => ⟨hg _ _ _ hi, hQ _ _ hi⟩
  | x :: xs, acc, h, hi => ⟨hg _ _ _ hi, hs x xs acc h _ hi (fun y h' e l hi' => by
      have em : getM h' a = some acc := by unfold getM; rw [e]
      show ws (getM h' a) _
      rw [em]
      exact ⟨l, comp_inv I hg hs hQ xs _ _ hi'⟩) fun h' hi' => comp_inv I hg hs hQ xs acc h' hi'⟩
/-! ### heaps that grow, one cell changing -/
structure MX (m : Nat) (h h' : Hm) : Prop where
  len : h.length ≤ h'.length
  at_ : ∀ i, i < h.length → i ≠ m → h'[i]? = h[i]?
theorem MX.refl (m : Nat) (h : Hm) : MX m h h := ⟨Nat.le_refl _, fun _ _ _ => rfl⟩
theorem MX.trans {m : Nat} {h h1 h2 : Hm} (a : MX m h h1) (b : MX m h1 h2) : MX m h h2 :=
  ⟨Nat.le_trans a.len b.len, fun i hi hm => (b.at_ i (Nat.lt_of_lt_of_le hi a.len) hm).trans (a.at_ i hi hm)⟩
theorem MX.pre {m : Nat} {h h' : Hm} (p : h <+: h') : MX m h h' := by
  obtain ⟨t, rfl⟩ := p
  exact ⟨by simp, fun i hi _ => List.getElem?_append_left hi⟩
theorem MX.set {m : Nat} {h h' : Hm} (a : MX m h h') (c : Cell) : MX m h (h'.set m c) :=
  ⟨by rw [List.length_set]; exact a.len, fun i hi hm => by rw [List.getElem?_set_ne (Ne.symm hm)]; exact a.at_ i hi hm⟩
/-- a cell made behind h changes -/
theorem MX.set_new {m : Nat} {h h' : Hm} (a : MX m h h') {i : Nat} (hi : h.length ≤ i) (c : Cell) : MX m h (h'.set i c) :=
  ⟨by rw [List.length_set]; exact a.len, fun j hj hm => by rw [List.getElem?_set_ne (by omega)]; exact a.at_ j hj hm⟩
theorem MX.cell {m : Nat} {h h' : Hm} (a : MX m h h') {i : Nat} {c : Cell} (e : h[i]? = some c) (hm : i ≠ m) : h'[i]? = some c := by
  rw [a.at_ i (List.getElem?_eq_some_iff.mp e).1 hm]; exact e
/-! ### all the parts of a list -/
def subs {α : Type} : List α → List (List α)
  | [] => [[]]
  | x :: xs => subs xs ++ (subs xs).map (x :: ·)
theorem subs_length {α : Type} : ∀ l : List α, (subs l).length = 2 ^ l.length
  | [] => rfl
  | x :: xs => by rw [subs, List.length_append, List.length_map, subs_length xs, List.length_cons, Nat.pow_succ]; omega
theorem mem_subs {α : Type} : ∀ {l s : List α}, s.Sublist l → s ∈ subs l
  | _, _, .slnil => by simp [subs]
  | _, _, .cons x h => by rw [subs]; exact List.mem_append_left _ (mem_subs h)
  | _, _, .cons₂ x h => by rw [subs]; exact List.mem_append_right _ (List.mem_map_of_mem (mem_subs h))
theorem put_keys {α β : Type} [DecidableEq α] (ps : List (α × β)) (k : α) (v : β) : (put ps k v).map (·.1) = if k ∈ ps.map (·.1) then ps.map (·.1) else ps.map (·.1) ++ [k] := by
  have e : (ps.any fun p => decide (p.1 = k)) = decide (k ∈ ps.map (·.1)) := by
    induction ps with
    | nil => rfl
    | cons p ps ih =>
      rw [List.any_cons, ih, List.map_cons]
      by_cases h : p.1 = k
      · simp [h]
      · have h2 : ¬ k = p.1 := fun z => h z.symm
        simp [h, h2]
  unfold put
  rw [e]
  by_cases h : k ∈ ps.map (·.1)
  · rw [if_pos (by simpa using h), if_pos h, List.map_map]
    refine List.map_congr_left fun p _ => ?_
    show (if p.1 = k then (p.1, v) else p).1 = p.1
    split <;> rfl
  · rw [if_neg (by simpa using h), if_neg h, List.map_append]
    rfl
theorem it_range {h : Hm} {j : Int} (h0 : -1000000 ≤ j) (h1 : j ≤ 1000000) : iterS .range [.int j] h = some (rngD 0 j.toNat, []) := by
  have : small j = true := by simp [small, h0, h1]
  simp [iterS, this]
theorem rng_drop {n j : Nat} (h : j < n) : (rngD 0 n).drop j = .int (j : Int) :: (rngD 0 n).drop (j + 1) := by
  have hl : (rngD 0 n).length = n := by simp [rngD]
  rw [List.drop_eq_getElem_cons (by rw [hl]; exact h)]
  congr 1
  simp [rngD]
theorem rng_end {n j : Nat} (h : n ≤ j) : (rngD 0 n).drop j = [] := List.drop_eq_nil_of_le (by simp [rngD]; exact h)
end M

end
section
set_option Elab.async false
set_option linter.all false
set_option autoImplicit false
/-! the defs of the law k67, in mini -/
namespace M67
open M
def D1 : Def := ⟨1, 1, [
  .ret (.and (.blt (.isi .int) [(.loc 0)]) (.not (.blt (.isi .bool) [(.loc 0)])))]⟩
def D2 : Def := ⟨3, 3, [
  .ret (.and (.call 1 [(.loc 0)] [] [0]) (.and (.cmp .ge (.loc 0) (.loc 1)) (.or (.cmp .is (.loc 2) (.lit .non)) (.cmp .le (.loc 0) (.loc 2)))))]⟩
def D3 : Def := ⟨2, 2, [
  .ret (.and (.blt (.isi .tuple) [(.loc 0)]) (.or (.cmp .is (.loc 1) (.lit .non)) (.cmp .eq (.blt .len [(.loc 0)]) (.loc 1))))]⟩
def D37 : Def := ⟨1, 1, [
  .ret (.blt .len [(.idx (.idx (.loc 0) (.lit (.int (0)))) (.lit (.int (0))))])]⟩
def D38 : Def := ⟨3, 5, [
  .asg (.slot 3) (.lit (.int (0))),
  .for_ (.slot 4) .val [(.loc 2)] [
    .asg (.slot 3) (.ife (.cmp .is (.loc 3) (.lit .non)) (.lit .non) (.idx (.idx (.idx (.loc 0) (.lit (.int (0)))) (.loc 3)) (.idx (.loc 1) (.loc 4))))],
  .ret (.loc 3)]⟩
def D39 : Def := ⟨2, 3, [
  .ret (.blt .tuple [(.comp [2] (.slot 2) .val [(.loc 1)] [(.cmp .ne (.idx (.loc 0) (.loc 2)) (.lit (.int (0))))] (.idx (.loc 0) (.loc 2)))])]⟩
def D40 : Def := ⟨3, 4, [
  .asg (.slot 3) (.call 38 [(.loc 0), (.loc 1), (.loc 2)] [] [0, 1, 2]),
  .ite (.cmp .is (.loc 3) (.lit .non)) [
    .ret (.lit (.str [110, 111]))] [],
  .ret (.ife (.idx (.idx (.loc 0) (.lit (.int (1)))) (.loc 3)) (.idx (.idx (.loc 0) (.lit (.int (2)))) (.loc 3)) (.lit (.str [97, 109, 105, 100])))]⟩
def D41 : Def := ⟨3, 4, [
  .ite (.cmp .eq (.idx (.loc 2) (.lit (.int (0)))) (.lit (.str [110, 111, 116, 101, 100]))) [
    .ret (.cmp .eq (.call 39 [(.loc 1), (.idx (.loc 2) (.lit (.int (1))))] [] [0, 1]) (.idx (.loc 2) (.lit (.int (2)))))] [],
  .asg (.slot 3) (.call 40 [(.loc 0), (.loc 1), (.idx (.loc 2) (.lit (.int (1))))] [] [0, 1, 2]),
  .ite (.cmp .eq (.idx (.loc 2) (.lit (.int (0)))) (.lit (.str [110, 111, 116]))) [
    .ret (.cmp .eq (.loc 3) (.lit (.str [110, 111])))] [],
  .ite (.cmp .eq (.idx (.loc 2) (.lit (.int (0)))) (.lit (.str [115, 111]))) [
    .ret (.cmp .ne (.loc 3) (.lit (.str [110, 111])))] [],
  .ite (.cmp .eq (.idx (.loc 2) (.lit (.int (0)))) (.lit (.str [97, 109, 105, 100]))) [
    .ret (.cmp .eq (.loc 3) (.lit (.str [97, 109, 105, 100])))] [],
  .ite (.blt (.isi .str) [(.loc 3)]) [
    .ret (.lit (.bl false))] [],
  .ret (.or (.cmp .eq (.idx (.loc 2) (.lit (.int (0)))) (.lit (.str [100, 105, 100]))) (.cmp .eq (.idx (.loc 3) (.idx (.loc 2) (.lit (.int (2))))) (.idx (.loc 2) (.lit (.int (3))))))]⟩
def D42 : Def := ⟨3, 4, [
  .ite (.cmp .eq (.idx (.loc 2) (.lit (.int (0)))) (.lit (.str [119, 111, 114, 100]))) [
    .ret (.idx (.loc 1) (.idx (.loc 2) (.lit (.int (1)))))] [],
  .asg (.slot 3) (.call 40 [(.loc 0), (.loc 1), (.idx (.loc 2) (.lit (.int (1))))] [] [0, 1, 2]),
  .ret (.ife (.cmp .isin (.loc 3) (.tup [(.lit (.str [110, 111])), (.lit (.str [97, 109, 105, 100]))])) (.tup [(.loc 3)]) (.tup [(.lit (.str [97, 110, 115, 119, 101, 114])), (.idx (.loc 3) (.idx (.loc 2) (.lit (.int (2)))))]))]⟩
def D43 : Def := ⟨3, 5, [
  .ite (.or (.not (.call 3 [(.loc 2), (.idx (.loc 1) (.lit (.int (0))))] [] [0, 1])) (.not (.blt .all [(.comp [4] (.slot 4) .val [(.loc 2)] [] (.call 2 [(.loc 4), (.lit (.int (0))), (.bin .sub (.call 37 [(.loc 0)] [] [0]) (.lit (.int (1))))] [] [0, 1, 2]))]))) [
    .ret (.lit (.bl false))] [],
  .asg (.slot 3) (.comp [4] (.slot 4) .val [(.loc 2)] [(.cmp .ne (.loc 4) (.lit (.int (0))))] (.loc 4)),
  .ret (.or (.cmp .ne (.idx (.loc 1) (.lit (.int (1)))) (.lit (.str [117, 110, 108, 105, 107, 101]))) (.cmp .eq (.blt .len [(.loc 3)]) (.blt .len [(.dcomp [4] (.slot 4) .val [(.loc 3)] [] (.loc 4) (.lit (.bl true)))])))]⟩
def D44 : Def := ⟨3, 4, [
  .ret (.blt .all [(.comp [3] (.slot 3) .val [(.loc 1)] [] (.call 41 [(.loc 0), (.loc 2), (.loc 3)] [] [0, 1, 2]))])]⟩
def D45 : Def := ⟨4, 4, [
  .ret (.and (.call 43 [(.loc 0), (.loc 1), (.loc 3)] [] [0, 1, 2]) (.call 44 [(.loc 0), (.loc 2), (.loc 3)] [] [0, 1, 2]))]⟩
def D46 : Def := ⟨5, 6, [
  .ite (.or (.not (.call 3 [(.loc 4), (.lit (.int (2)))] [] [0, 1])) (.not (.blt .all [(.comp [5] (.slot 5) .val [(.loc 4)] [] (.call 45 [(.loc 0), (.loc 1), (.loc 2), (.loc 5)] [] [0, 1, 2, 3]))]))) [
    .ret (.lit (.bl false))] [],
  .ret (.cmp .ne (.call 42 [(.loc 0), (.idx (.loc 4) (.lit (.int (0)))), (.loc 3)] [] [0, 1, 2]) (.call 42 [(.loc 0), (.idx (.loc 4) (.lit (.int (1)))), (.loc 3)] [] [0, 1, 2]))]⟩
def D16 : Def := ⟨2, 4, [
  .asg (.slot 2) (.bin .add (.bin .mul (.lit (.int (31013))) (.loc 1)) (.lit (.int (7103)))),
  .ite (.cmp .lt (.loc 1) (.blt .len [(.loc 0)])) [
    .asg (.slot 2) (.blt .abs [(.blt .int [(.idx (.loc 0) (.loc 1))])])] [
    .ite (.cmp .gt (.blt .len [(.loc 0)]) (.lit (.int (0)))) [
      .asg (.slot 2) (.bin .add (.loc 2) (.bin .mul (.bin .mod (.blt .int [(.blt .abs [(.blt .int [(.idx (.loc 0) (.bin .mod (.blt .int [(.loc 1)]) (.blt .len [(.loc 0)])))])])]) (.lit (.int (2147483563)))) (.lit (.int (92821)))))] []],
  .asg (.slot 3) (.ife (.cmp .ge (.loc 2) (.bin .pow (.lit (.int (10))) (.lit (.int (18))))) (.loc 2) (.lit (.int (0)))),
  .ret (.lst [(.loc 3), (.bin .add (.bin .mod (.blt .int [(.bin .add (.bin .mul (.bin .mod (.blt .int [(.loc 2)]) (.lit (.int (2147483563)))) (.lit (.int (54250033)))) (.bin .mul (.lit (.int (7103))) (.loc 1)))]) (.lit (.int (2147483563)))) (.lit (.int (1))))])]⟩
def D17 : Def := ⟨2, 4, [
  .ite (.cmp .gt (.idx (.loc 0) (.lit (.int (0)))) (.lit (.int (0)))) [
    .asg (.slot 3) (.bin .mod (.blt .int [(.idx (.loc 0) (.lit (.int (0))))]) (.loc 1)),
    .set (.loc 0) (.lit (.int (0))) (.bin .fdiv (.idx (.loc 0) (.lit (.int (0)))) (.loc 1)),
    .ret (.loc 3)] [],
  .asg (.slot 2) (.bin .mod (.blt .int [(.bin .add (.bin .mul (.idx (.loc 0) (.lit (.int (1)))) (.lit (.int (39373)))) (.lit (.int (233))))]) (.lit (.int (2147483647)))),
  .set (.loc 0) (.lit (.int (1))) (.bin .add (.bin .mod (.blt .int [(.bin .add (.bin .mul (.loc 2) (.lit (.int (40692)))) (.lit (.int (107))))]) (.lit (.int (2147483563)))) (.lit (.int (1)))),
  .ret (.bin .mod (.blt .int [(.bin .fdiv (.bin .add (.bin .mul (.loc 2) (.lit (.int (2147483629)))) (.idx (.loc 0) (.lit (.int (1))))) (.lit (.int (8287))))]) (.loc 1))]⟩
def D18 : Def := ⟨2, 2, [
  .ret (.idx (.loc 1) (.call 17 [(.loc 0), (.blt .len [(.loc 1)])] [] [0, 1]))]⟩
def D19 : Def := ⟨2, 4, [
  .ite (.blt (.isi .tuple) [(.loc 1)]) [
    .ite (.or (.not (.blt (.isi .tuple) [(.loc 0)])) (.cmp .ne (.blt .len [(.loc 0)]) (.blt .len [(.loc 1)]))) [
      .ret (.lit (.bl false))] [],
    .for_ (.tup [(.slot 2), (.slot 3)]) .zip [(.loc 0), (.loc 1)] [
      .ite (.not (.call 19 [(.loc 2), (.loc 3)] [] [0, 1])) [
        .ret (.lit (.bl false))] []],
    .ret (.lit (.bl true))] [],
  .ite (.cmp .is (.loc 1) (.lit .non)) [
    .ret (.cmp .is (.loc 0) (.lit .non))] [],
  .ite (.or (.cmp .is (.loc 1) (.lit (.bl true))) (.cmp .is (.loc 1) (.lit (.bl false)))) [
    .ret (.and (.blt (.isi .bool) [(.loc 0)]) (.cmp .eq (.loc 0) (.loc 1)))] [],
  .ite (.blt (.isi .int) [(.loc 1)]) [
    .ret (.and (.blt (.isi .int) [(.loc 0)]) (.and (.not (.blt (.isi .bool) [(.loc 0)])) (.cmp .eq (.loc 0) (.loc 1))))] [],
  .ret (.and (.blt (.isi .str) [(.loc 0)]) (.and (.blt (.isi .str) [(.loc 1)]) (.cmp .eq (.loc 0) (.loc 1))))]⟩
def D47 : Def := ⟨2, 7, [
  .asg (.slot 2) (.comp [4, 5] (.tup [(.slot 4), (.slot 5)]) .enum [(.loc 1)] [(.loc 5)] (.loc 4)),
  .for_ (.slot 3) .range [(.blt .len [(.loc 0)])] [
    .asg (.slot 2) (.comp [4] (.slot 4) .range [(.blt .len [(.loc 0)])] [(.or (.cmp .isin (.loc 4) (.loc 2)) (.cmp .ne (.comp [6] (.slot 6) .val [(.idx (.loc 0) (.loc 4))] [(.cmp .isin (.loc 6) (.loc 2))] (.lit (.int (1)))) (.lst [])))] (.loc 4))],
  .ret (.loc 2)]⟩
def D48 : Def := ⟨3, 14, [
  .asg (.slot 3) (.call 47 [(.blt .list [(.loc 0)]), (.blt .list [(.loc 1)])] [] [0, 1]),
  .ite (.cmp .notin (.lit (.int (0))) (.loc 3)) [
    .ret (.lit .non)] [],
  .asg (.slot 0) (.comp [9] (.slot 9) .val [(.loc 0)] [] (.blt .tuple [(.comp [10] (.slot 10) .val [(.loc 9)] [] (.ife (.cmp .isin (.loc 10) (.loc 3)) (.loc 10) (.lit .non)))])),
  .asg (.slot 4) (.comp [11] (.slot 11) .range [(.blt .len [(.loc 0)])] [] (.ife (.idx (.loc 1) (.loc 11)) (.idx (.loc 2) (.loc 11)) (.lit .non))),
  .for_ (.slot 5) .range [(.bin .add (.blt .len [(.loc 0)]) (.lit (.int (1))))] [
    .asg (.tup [(.slot 12), (.slot 13)]) (.tup [(.dct []), (.lst [])]),
    .for_ (.tup [(.slot 11), (.slot 9)]) .enum [(.loc 0)] [
      .expr (.meth .append (.loc 13) [(.meth .setdefault (.loc 12) [(.tup [(.idx (.loc 4) (.loc 11)), (.blt .tuple [(.comp [10] (.slot 10) .val [(.loc 9)] [] (.ife (.cmp .is (.loc 10) (.lit .non)) (.lit .non) (.idx (.loc 4) (.loc 10))))])]), (.blt .len [(.loc 12)])])])],
    .asg (.slot 4) (.loc 13)],
  .asg (.tup [(.slot 6), (.slot 7), (.slot 8)]) (.tup [(.lst [(.lit (.int (0)))]), (.dctP [(.idx (.loc 4) (.lit (.int (0)))), (.lit (.int (0)))]), (.lst [])]),
  .whil (.cmp .lt (.blt .len [(.loc 8)]) (.blt .len [(.loc 6)])) [
    .asg (.slot 9) (.lst []),
    .for_ (.slot 10) .val [(.idx (.loc 0) (.idx (.loc 6) (.blt .len [(.loc 8)])))] [
      .ite (.and (.cmp .isnt (.loc 10) (.lit .non)) (.cmp .notin (.idx (.loc 4) (.loc 10)) (.loc 7))) [
        .set (.loc 7) (.idx (.loc 4) (.loc 10)) (.blt .len [(.loc 6)]),
        .expr (.meth .append (.loc 6) [(.loc 10)])] [],
      .expr (.meth .append (.loc 9) [(.ife (.cmp .is (.loc 10) (.lit .non)) (.lit .non) (.idx (.loc 7) (.idx (.loc 4) (.loc 10))))])],
    .expr (.meth .append (.loc 8) [(.blt .tuple [(.loc 9)])])],
  .ret (.tup [(.blt .tuple [(.loc 8)]), (.blt .tuple [(.comp [11] (.slot 11) .val [(.loc 6)] [] (.idx (.loc 1) (.loc 11)))]), (.blt .tuple [(.comp [11] (.slot 11) .val [(.loc 6)] [] (.ife (.idx (.loc 1) (.loc 11)) (.idx (.loc 2) (.loc 11)) (.lit .non)))])])]⟩
def D49 : Def := ⟨1, 6, [
  .asg (.slot 1) (.lst [(.blt .tupRange [(.blt .len [(.idx (.loc 0) (.lit (.int (0))))])])]),
  .for_ (.slot 2) .range [(.blt .len [(.idx (.idx (.loc 0) (.lit (.int (0)))) (.lit (.int (0))))])] [
    .asg (.slot 3) (.blt .tuple [(.comp [4] (.slot 4) .val [(.idx (.loc 0) (.lit (.int (0))))] [] (.idx (.loc 4) (.loc 2)))]),
    .ite (.cmp .notin (.loc 3) (.loc 1)) [
      .expr (.meth .append (.loc 1) [(.loc 3)])] []],
  .ret (.tup [(.blt .tuple [(.comp [5] (.slot 5) .range [(.blt .len [(.idx (.loc 0) (.lit (.int (0))))])] [] (.blt .tuple [(.comp [3] (.slot 3) .val [(.loc 1)] [] (.idx (.loc 3) (.loc 5)))]))]), (.idx (.loc 0) (.lit (.int (1)))), (.idx (.loc 0) (.lit (.int (2))))])]⟩
def D50 : Def := ⟨1, 2, [
  .asg (.slot 1) (.tup [(.lit (.bl true)), (.lit (.bl true)), (.lit (.bl true))]),
  .ite (.cmp .eq (.loc 0) (.lit (.int (0)))) [
    .ret (.tup [(.tup [(.tup [(.lit (.int (0))), (.lit (.int (1))), (.lit .non)]), (.tup [(.lit (.int (1))), (.lit (.int (2))), (.lit (.int (0)))]), (.tup [(.lit (.int (2))), (.lit .non), (.lit (.int (1)))])]), (.loc 1), (.tup [(.tup [(.lit (.int (0)))]), (.tup [(.lit (.int (1)))]), (.tup [(.lit (.int (2)))])])])] [],
  .ite (.cmp .eq (.loc 0) (.lit (.int (1)))) [
    .ret (.tup [(.tup [(.tup [(.lit (.int (0))), (.lit (.int (1))), (.lit (.int (0)))]), (.tup [(.lit (.int (1))), (.lit (.int (1))), (.lit (.int (0)))])]), (.slc (.loc 1) (.lit .non) (.lit (.int (2)))), (.tup [(.tup [(.lit (.int (0)))]), (.tup [(.lit (.int (1)))])])])] [],
  .ite (.cmp .eq (.loc 0) (.lit (.int (2)))) [
    .ret (.tup [(.tup [(.tup [(.lit (.int (0))), (.lit (.int (1)))]), (.tup [(.lit (.int (1))), (.lit (.int (0)))])]), (.tup [(.lit (.bl true)), (.lit (.bl false))]), (.tup [(.tup [(.lit (.int (0)))]), (.lit .non)])])] [],
  .ret (.tup [(.tup [(.tup [(.lit (.int (0))), (.lit (.int (1))), (.lit (.int (2)))]), (.tup [(.lit (.int (1))), (.lit .non), (.lit (.int (0)))]), (.tup [(.lit (.int (2))), (.lit (.int (0))), (.lit .non)])]), (.loc 1), (.tup [(.tup [(.lit (.int (0)))]), (.tup [(.lit (.int (1)))]), (.tup [(.lit (.int (1)))])])])]⟩
def D51 : Def := ⟨1, 13, [
  .for_ (.slot 1) .range [(.lit (.int (5)))] [
    .ite (.cmp .eq (.call 17 [(.loc 0), (.lit (.int (5)))] [] [0, 1]) (.lit (.int (0)))) [
      .ret (.call 50 [(.call 17 [(.loc 0), (.lit (.int (4)))] [] [0, 1])] [] [0])] [],
    .asg (.tup [(.slot 7), (.slot 8), (.slot 9)]) (.tup [(.bin .add (.lit (.int (2))) (.call 17 [(.loc 0), (.lit (.int (3)))] [] [0, 1])), (.bin .add (.lit (.int (1))) (.call 17 [(.loc 0), (.lit (.int (3)))] [] [0, 1])), (.bin .add (.lit (.int (1))) (.call 17 [(.loc 0), (.lit (.int (2)))] [] [0, 1]))]),
    .asg (.slot 2) (.comp [10] (.slot 10) .range [(.loc 7)] [] (.blt .tuple [(.comp [11] (.slot 11) .range [(.loc 8)] [] (.call 18 [(.loc 0), (.bin .add (.lst [(.lit .non)]) (.bin .mul (.blt .lstRange [(.loc 7)]) (.lit (.int (2)))))] [] [0, 1]))])),
    .asg (.slot 3) (.comp [10] (.slot 10) .range [(.loc 7)] [] (.cmp .gt (.call 17 [(.loc 0), (.lit (.int (4)))] [] [0, 1]) (.lit (.int (0))))),
    .asg (.slot 4) (.comp [10] (.slot 10) .range [(.loc 7)] [] (.blt .tuple [(.comp [12] (.slot 12) .range [(.loc 9)] [] (.call 17 [(.loc 0), (.lit (.int (3)))] [] [0, 1]))])),
    .asg (.slot 5) (.call 48 [(.loc 2), (.loc 3), (.loc 4)] [] [0, 1, 2]),
    .asg (.slot 6) (.ife (.cmp .is (.loc 5) (.lit .non)) (.lit .non) (.call 49 [(.loc 5)] [] [0])),
    .ite (.and (.cmp .isnt (.loc 6) (.lit .non)) (.and (.cmp .gt (.blt .len [(.idx (.loc 6) (.lit (.int (0))))]) (.lit (.int (1)))) (.cmp .gt (.blt .len [(.idx (.idx (.loc 6) (.lit (.int (0)))) (.lit (.int (0))))]) (.lit (.int (1)))))) [
      .ret (.loc 6)] []],
  .ret (.call 50 [(.call 17 [(.loc 0), (.lit (.int (4)))] [] [0, 1])] [] [0])]⟩
def D52 : Def := ⟨3, 5, [
  .asg (.slot 3) (.lit (.int (0))),
  .for_ (.slot 4) .val [(.loc 2)] [
    .asg (.slot 3) (.ife (.cmp .is (.loc 3) (.lit .non)) (.lit .non) (.idx (.idx (.idx (.loc 0) (.lit (.int (0)))) (.loc 3)) (.idx (.loc 1) (.loc 4))))],
  .ret (.loc 3)]⟩
def D53 : Def := ⟨3, 4, [
  .asg (.slot 3) (.call 52 [(.loc 0), (.loc 1), (.loc 2)] [] [0, 1, 2]),
  .ret (.ife (.cmp .is (.loc 3) (.lit .non)) (.lit (.str [110, 111])) (.ife (.idx (.idx (.loc 0) (.lit (.int (1)))) (.loc 3)) (.idx (.idx (.loc 0) (.lit (.int (2)))) (.loc 3)) (.lit (.str [97, 109, 105, 100]))))]⟩
def D54 : Def := ⟨3, 5, [
  .ite (.cmp .eq (.idx (.loc 2) (.lit (.int (0)))) (.lit (.str [110, 111, 116, 101, 100]))) [
    .ret (.cmp .eq (.blt .tuple [(.comp [4] (.slot 4) .val [(.idx (.loc 2) (.lit (.int (1))))] [(.cmp .gt (.idx (.loc 1) (.loc 4)) (.lit (.int (0))))] (.idx (.loc 1) (.loc 4)))]) (.idx (.loc 2) (.lit (.int (2)))))] [],
  .asg (.slot 3) (.call 53 [(.loc 0), (.loc 1), (.idx (.loc 2) (.lit (.int (1))))] [] [0, 1, 2]),
  .ite (.cmp .isin (.idx (.loc 2) (.lit (.int (0)))) (.tup [(.lit (.str [110, 111, 116])), (.lit (.str [97, 109, 105, 100]))])) [
    .ret (.cmp .eq (.loc 3) (.ife (.cmp .eq (.idx (.loc 2) (.lit (.int (0)))) (.lit (.str [110, 111, 116]))) (.lit (.str [110, 111])) (.lit (.str [97, 109, 105, 100]))))] [],
  .ite (.cmp .eq (.idx (.loc 2) (.lit (.int (0)))) (.lit (.str [115, 111]))) [
    .ret (.cmp .ne (.loc 3) (.lit (.str [110, 111])))] [],
  .ret (.and (.cmp .notin (.loc 3) (.tup [(.lit (.str [110, 111])), (.lit (.str [97, 109, 105, 100]))])) (.or (.cmp .eq (.idx (.loc 2) (.lit (.int (0)))) (.lit (.str [100, 105, 100]))) (.cmp .eq (.idx (.loc 3) (.idx (.loc 2) (.lit (.int (2))))) (.idx (.loc 2) (.lit (.int (3)))))))]⟩
def D55 : Def := ⟨3, 8, [
  .asg (.slot 3) (.lst [(.tup [])]),
  .for_ (.slot 4) .range [(.loc 1)] [
    .asg (.slot 5) (.lst []),
    .for_ (.slot 6) .val [(.loc 3)] [
      .asg (.slot 5) (.bin .add (.loc 5) (.comp [7] (.slot 7) .range [(.blt .len [(.idx (.idx (.loc 0) (.lit (.int (0)))) (.lit (.int (0))))])] [(.or (.cmp .eq (.loc 2) (.lit (.str [102, 114, 101, 101]))) (.or (.cmp .eq (.loc 7) (.lit (.int (0)))) (.cmp .notin (.loc 7) (.loc 6))))] (.bin .add (.loc 6) (.tup [(.loc 7)]))))],
    .asg (.slot 3) (.loc 5)],
  .ret (.loc 3)]⟩
def D56 : Def := ⟨4, 6, [
  .ret (.comp [4] (.slot 4) .val [(.call 55 [(.loc 0), (.loc 1), (.loc 2)] [] [0, 1, 2])] [(.cmp .eq (.comp [5] (.slot 5) .val [(.loc 3)] [(.not (.call 54 [(.loc 0), (.loc 4), (.loc 5)] [] [0, 1, 2]))] (.lit (.int (1)))) (.lst []))] (.loc 4))]⟩
def D57 : Def := ⟨3, 4, [
  .ret (.blt .tuple [(.comp [3] (.slot 3) .range [(.call 17 [(.loc 0), (.bin .add (.loc 2) (.lit (.int (1))))] [] [0, 1])] [] (.call 17 [(.loc 0), (.loc 1)] [] [0, 1]))])]⟩
def D58 : Def := ⟨4, 9, [
  .asg (.tup [(.slot 5), (.slot 6)]) (.tup [(.lit (.int (0))), (.tup [])]),
  .for_ (.slot 4) .range [(.call 17 [(.loc 0), (.bin .add (.loc 3) (.lit (.int (1))))] [] [0, 1])] [
    .asg (.slot 7) (.comp [8] (.slot 8) .range [(.blt .len [(.loc 2)])] [(.cmp .isnt (.idx (.idx (.idx (.loc 1) (.lit (.int (0)))) (.loc 5)) (.idx (.loc 2) (.loc 8))) (.lit .non))] (.loc 8)),
    .ite (.cmp .eq (.loc 7) (.lst [])) [
      .brk] [],
    .asg (.slot 8) (.call 18 [(.loc 0), (.loc 7)] [] [0, 1]),
    .asg (.tup [(.slot 5), (.slot 6)]) (.tup [(.idx (.idx (.idx (.loc 1) (.lit (.int (0)))) (.loc 5)) (.idx (.loc 2) (.loc 8))), (.bin .add (.loc 6) (.tup [(.loc 8)]))])],
  .ret (.loc 6)]⟩
def D59 : Def := ⟨4, 8, [
  .asg (.slot 4) (.ife (.cmp .gt (.call 17 [(.loc 0), (.lit (.int (3)))] [] [0, 1]) (.lit (.int (0)))) (.call 58 [(.loc 0), (.loc 1), (.loc 2), (.loc 3)] [] [0, 1, 2, 3]) (.call 57 [(.loc 0), (.blt .len [(.loc 2)]), (.loc 3)] [] [0, 1, 2])),
  .asg (.slot 5) (.call 53 [(.loc 1), (.loc 2), (.loc 4)] [] [0, 1, 2]),
  .ite (.cmp .eq (.call 17 [(.loc 0), (.lit (.int (6)))] [] [0, 1]) (.lit (.int (0)))) [
    .ret (.tup [(.lit (.str [110, 111, 116, 101, 100])), (.loc 4), (.blt .tuple [(.comp [7] (.slot 7) .val [(.loc 4)] [(.cmp .gt (.idx (.loc 2) (.loc 7)) (.lit (.int (0))))] (.idx (.loc 2) (.loc 7)))])])] [],
  .ite (.cmp .eq (.loc 5) (.lit (.str [110, 111]))) [
    .ret (.tup [(.lit (.str [110, 111, 116])), (.loc 4)])] [],
  .ite (.cmp .eq (.loc 5) (.lit (.str [97, 109, 105, 100]))) [
    .ret (.tup [(.call 18 [(.loc 0), (.lst [(.lit (.str [97, 109, 105, 100])), (.lit (.str [97, 109, 105, 100])), (.lit (.str [115, 111]))])] [] [0, 1]), (.loc 4)])] [],
  .asg (.slot 6) (.call 17 [(.loc 0), (.blt .len [(.loc 5)])] [] [0, 1]),
  .ret (.call 18 [(.loc 0), (.lst [(.tup [(.lit (.str [100, 105, 100])), (.loc 4)]), (.tup [(.lit (.str [115, 111])), (.loc 4)]), (.tup [(.lit (.str [116, 111, 108, 100])), (.loc 4), (.loc 6), (.idx (.loc 5) (.loc 6))])])] [] [0, 1])]⟩
def D60 : Def := ⟨2, 8, [
  .asg (.tup [(.slot 5), (.slot 6)]) (.tup [(.call 51 [(.loc 0)] [] [0]), (.bin .add (.lit (.int (1))) (.call 17 [(.loc 0), (.lit (.int (3)))] [] [0, 1]))]),
  .asg (.slot 2) (.call 18 [(.loc 0), (.lst [(.lit (.str [102, 114, 101, 101])), (.lit (.str [102, 114, 101, 101])), (.lit (.str [117, 110, 108, 105, 107, 101]))])] [] [0, 1]),
  .asg (.slot 3) (.call 18 [(.loc 0), (.call 55 [(.loc 5), (.loc 6), (.loc 2)] [] [0, 1, 2])] [] [0, 1]),
  .asg (.slot 4) (.comp [7] (.slot 7) .range [(.call 17 [(.loc 0), (.bin .add (.loc 1) (.lit (.int (1))))] [] [0, 1])] [] (.call 59 [(.loc 0), (.loc 5), (.loc 3), (.lit (.int (4)))] [] [0, 1, 2, 3])),
  .ite (.cmp .eq (.call 17 [(.loc 0), (.lit (.int (4)))] [] [0, 1]) (.lit (.int (0)))) [
    .expr (.meth .append (.loc 4) [(.call 59 [(.loc 0), (.loc 5), (.call 18 [(.loc 0), (.call 55 [(.loc 5), (.loc 6), (.loc 2)] [] [0, 1, 2])] [] [0, 1]), (.lit (.int (4)))] [] [0, 1, 2, 3])])] [],
  .ret (.tup [(.loc 5), (.loc 6), (.loc 2), (.loc 3), (.blt .tuple [(.loc 4)])])]⟩
def D20 : Def := ⟨2, 5, [
  .asg (.slot 2) (.call 18 [(.loc 0), (.lst [(.lit .non), (.lit (.bl true)), (.lit (.bl false)), (.lit (.int (0))), (.lit (.int (1))), (.lit (.int (2))), (.lit (.int (3))), (.bin .sub (.lit (.int (0))) (.lit (.int (1)))), (.lit (.int (7))), (.tup []), (.tup [(.lit (.int (0)))]), (.tup [(.lit (.int (1)))]), (.tup [(.tup [])]), (.lit (.str [115, 104, 117, 116])), (.tup [(.lit (.str [104, 111, 108, 100, 115]))]), (.tup [(.lit (.str [115, 104, 117, 116])), (.lit (.int (0)))]), (.tup [(.lit (.str [115, 104, 117, 116])), (.lit (.int (1)))]), (.lit (.str [120])), (.lst [(.lit (.int (0)))])])] [] [0, 1]),
  .ite (.or (.not (.blt (.isi .tuple) [(.loc 1)])) (.or (.cmp .eq (.loc 1) (.tup [])) (.cmp .eq (.call 17 [(.loc 0), (.lit (.int (5)))] [] [0, 1]) (.lit (.int (0)))))) [
    .ret (.loc 2)] [],
  .asg (.tup [(.slot 3), (.slot 4)]) (.tup [(.call 17 [(.loc 0), (.blt .len [(.loc 1)])] [] [0, 1]), (.call 17 [(.loc 0), (.lit (.int (8)))] [] [0, 1])]),
  .ite (.cmp .eq (.loc 4) (.lit (.int (0)))) [
    .ret (.bin .add (.slc (.loc 1) (.lit .non) (.loc 3)) (.slc (.loc 1) (.bin .add (.loc 3) (.lit (.int (1)))) (.lit .non)))] [],
  .ite (.cmp .eq (.loc 4) (.lit (.int (1)))) [
    .ret (.bin .add (.bin .add (.slc (.loc 1) (.lit .non) (.loc 3)) (.tup [(.idx (.loc 1) (.loc 3))])) (.slc (.loc 1) (.loc 3) (.lit .non)))] [],
  .ite (.cmp .eq (.loc 4) (.lit (.int (2)))) [
    .ret (.bin .add (.bin .add (.slc (.loc 1) (.lit .non) (.loc 3)) (.tup [(.idx (.loc 1) (.call 17 [(.loc 0), (.blt .len [(.loc 1)])] [] [0, 1]))])) (.slc (.loc 1) (.bin .add (.loc 3) (.lit (.int (1)))) (.lit .non)))] [],
  .ret (.bin .add (.bin .add (.slc (.loc 1) (.lit .non) (.loc 3)) (.tup [(.call 20 [(.loc 0), (.idx (.loc 1) (.loc 3))] [] [0, 1])])) (.slc (.loc 1) (.bin .add (.loc 3) (.lit (.int (1)))) (.lit .non)))]⟩
def D21 : Def := ⟨2, 2, [
  .ret (.and (.blt (.isi .int) [(.loc 0)]) (.and (.not (.blt (.isi .bool) [(.loc 0)])) (.and (.cmp .le (.lit (.int (0))) (.loc 0)) (.or (.cmp .is (.loc 1) (.lit .non)) (.cmp .le (.loc 0) (.loc 1))))))]⟩
def D61 : Def := ⟨3, 3, [
  .ret (.ife (.cmp .is (.loc 1) (.lit .non)) (.tup [(.lit (.str [110, 111]))]) (.ife (.idx (.idx (.loc 0) (.lit (.int (1)))) (.loc 1)) (.tup [(.lit (.str [97, 110, 115, 119, 101, 114])), (.idx (.idx (.idx (.loc 0) (.lit (.int (2)))) (.loc 1)) (.loc 2))]) (.tup [(.lit (.str [97, 109, 105, 100]))])))]⟩
def D62 : Def := ⟨3, 3, [
  .ret (.ife (.cmp .eq (.idx (.loc 2) (.lit (.int (0)))) (.lit (.str [119, 111, 114, 100]))) (.idx (.loc 1) (.idx (.loc 2) (.lit (.int (1))))) (.call 61 [(.loc 0), (.call 52 [(.loc 0), (.loc 1), (.idx (.loc 2) (.lit (.int (1))))] [] [0, 1, 2]), (.idx (.loc 2) (.lit (.int (2))))] [] [0, 1, 2]))]⟩
def D63 : Def := ⟨5, 8, [
  .ite (.or (.not (.blt (.isi .tuple) [(.loc 4)])) (.or (.cmp .ne (.blt .len [(.loc 4)]) (.loc 1)) (.cmp .ne (.comp [6] (.slot 6) .val [(.loc 4)] [(.not (.call 21 [(.loc 6), (.bin .sub (.blt .len [(.idx (.idx (.loc 0) (.lit (.int (0)))) (.lit (.int (0))))]) (.lit (.int (1))))] [] [0, 1]))] (.lit (.int (1)))) (.lst [])))) [
    .ret (.lit (.bl false))] [],
  .asg (.slot 5) (.comp [6] (.slot 6) .val [(.loc 4)] [(.cmp .gt (.loc 6) (.lit (.int (0))))] (.loc 6)),
  .ret (.and (.or (.cmp .eq (.loc 2) (.lit (.str [102, 114, 101, 101]))) (.cmp .eq (.blt .len [(.loc 5)]) (.blt .len [(.blt .dict [(.comp [6] (.slot 6) .val [(.loc 5)] [] (.tup [(.loc 6), (.lit (.int (1)))]))])]))) (.cmp .eq (.comp [7] (.slot 7) .val [(.loc 3)] [(.not (.call 54 [(.loc 0), (.loc 4), (.loc 7)] [] [0, 1, 2]))] (.lit (.int (1)))) (.lst [])))]⟩
def D64 : Def := ⟨3, 5, [
  .asg (.slot 3) (.blt .max1 [(.comp [4] (.slot 4) .val [(.idx (.loc 1) (.lit (.int (2))))] [(.cmp .isnt (.loc 4) (.lit .non))] (.blt .len [(.loc 4)]))]),
  .ret (.ife (.cmp .eq (.call 17 [(.loc 0), (.lit (.int (2)))] [] [0, 1]) (.lit (.int (0)))) (.tup [(.lit (.str [119, 111, 114, 100])), (.call 17 [(.loc 0), (.loc 2)] [] [0, 1])]) (.tup [(.lit (.str [114, 111, 119])), (.call 57 [(.loc 0), (.loc 2), (.lit (.int (4)))] [] [0, 1, 2]), (.call 17 [(.loc 0), (.loc 3)] [] [0, 1])]))]⟩
def D65 : Def := ⟨1, 16, [
  .for_ (.slot 1) .range [(.blt .max2 [(.lit (.int (3))), (.blt .min2 [(.blt .len [(.loc 0)]), (.lit (.int (7)))])])] [
    .asg (.slot 2) (.call 16 [(.loc 0), (.loc 1)] [] [0, 1]),
    .asg (.tup [(.slot 4), (.slot 5), (.slot 6), (.slot 7), (.slot 8)]) (.call 60 [(.loc 2), (.lit (.int (4)))] [] [0, 1]),
    .asg (.tup [(.slot 9), (.slot 10)]) (.tup [(.call 56 [(.loc 4), (.loc 5), (.loc 6), (.loc 8)] [] [0, 1, 2, 3]), (.call 55 [(.loc 4), (.loc 5), (.loc 6)] [] [0, 1, 2])]),
    .for_ (.slot 3) .range [(.lit (.int (8)))] [
      .asg (.slot 11) (.call 64 [(.loc 2), (.loc 4), (.loc 5)] [] [0, 1, 2]),
      .asg (.slot 12) (.tup [(.call 18 [(.loc 2), (.bin .add (.loc 9) (.lst [(.loc 7)]))] [] [0, 1]), (.call 18 [(.loc 2), (.bin .add (.ife (.cmp .gt (.call 17 [(.loc 2), (.lit (.int (3)))] [] [0, 1]) (.lit (.int (0)))) (.loc 9) (.loc 10)) (.lst [(.loc 7)]))] [] [0, 1])]),
      .for_ (.slot 13) .val [(.tup [(.loc 12), (.blt .rev [(.loc 12)]), (.call 20 [(.loc 2), (.loc 12)] [] [0, 1]), (.call 20 [(.loc 2), (.loc 12)] [] [0, 1]), (.bin .add (.loc 12) (.tup [(.loc 7)])), (.lit .non)])] [
        .asg (.slot 14) (.and (.blt (.isi .tuple) [(.loc 13)]) (.and (.cmp .eq (.blt .len [(.loc 13)]) (.lit (.int (2)))) (.cmp .eq (.comp [15] (.slot 15) .val [(.loc 13)] [(.not (.call 63 [(.loc 4), (.loc 5), (.loc 6), (.loc 8), (.loc 15)] [] [0, 1, 2, 3, 4]))] (.lit (.int (1)))) (.lst [])))),
        .asg (.slot 14) (.and (.loc 14) (.cmp .ne (.call 62 [(.loc 4), (.idx (.loc 13) (.lit (.int (0)))), (.loc 11)] [] [0, 1, 2]) (.call 62 [(.loc 4), (.idx (.loc 13) (.lit (.int (1)))), (.loc 11)] [] [0, 1, 2]))),
        .ite (.not (.call 19 [(.call 46 [(.loc 4), (.tup [(.loc 5), (.loc 6)]), (.loc 8), (.loc 11), (.loc 13)] [] [0, 1, 2, 3, 4]), (.loc 14)] [] [0, 1])) [
          .ret (.lit (.bl false))] []]]],
  .ret (.lit (.bl true))]⟩
def P : Prog := [(1, D1), (2, D2), (3, D3), (37, D37), (38, D38), (39, D39), (40, D40), (41, D41), (42, D42), (43, D43), (44, D44), (45, D45), (46, D46), (16, D16), (17, D17), (18, D18), (19, D19), (47, D47), (48, D48), (49, D49), (50, D50), (51, D51), (52, D52), (53, D53), (54, D54), (55, D55), (56, D56), (57, D57), (58, D58), (59, D59), (60, D60), (20, D20), (21, D21), (61, D61), (62, D62), (63, D63), (64, D64), (65, D65)]
end M67

end
section
set_option Elab.async false
set_option linter.all false
set_option autoImplicit false
namespace M67
open M
theorem take_spec {n : Nat} {h : Hm} {a : Nat} {b0 b1 many : Int} {Q : VQ} {E : XP} (hb : getM h a = some [.int b0, .int b1]) (hm : 0 < many) (hm2 : many < 1000000) (k : ∀ d c0 c1 : Int, 0 ≤ d → d < many → Q (.int d) (h.set a (.lst [.int c0, .int c1]))) : FW P (n + 1) 17 [.ref a, .int many] h Q E := by
  have ha := getM_at' hb
  have ha2 : ∀ xs : List D, (h.set a (.lst xs))[a]? = some (.lst xs) := fun xs => by
    have : a < h.length := (List.getElem?_eq_some_iff.mp ha).1
    rw [List.getElem?_set_self this]
  refine fw_open (d := D17) rfl rfl ?_
  unfold D17
  have m1 : -LINT < (39373 : Int) ∧ (39373 : Int) < LINT := by decide
  have m2 : -LINT < (40692 : Int) ∧ (40692 : Int) < LINT := by decide
  have m3 : -LINT < (2147483629 : Int) ∧ (2147483629 : Int) < LINT := by decide
  simp only [wpSs, wpS, wpE, wpEs, wpP, List.map, List.replicate, List.cons_append, List.nil_append, List.append_nil, List.getElem?_cons_zero, List.getElem?_cons_succ, jn, ws_some, idx_lst ha, at0, at1, c_gt, t_bl, b_int, o_add, List.length_cons, List.length_nil, List.set, o_mulR m1, o_mulR m2, o_mulR m3, o_mod hm, o_fdiv hm (by omega), o_mod (by decide : (0 : Int) < 2147483647), o_mod (by decide : (0 : Int) < 2147483563), o_fdiv (by decide : (0 : Int) < 8287) (by decide), s_lst ha ix00, s_lst ha ix01, idx_lst (ha2 _)]
  by_cases c : (0 : Int) < b0
  · simp only [c, decide_true, if_true]
    refine ⟨by simp, ?_⟩
    exact k _ _ _ (Int.emod_nonneg _ (by omega)) (Int.emod_lt_of_pos _ hm)
  · simp only [c, decide_false, Bool.false_eq_true, if_false]
    refine ⟨by simp, ?_⟩
    exact k _ _ _ (Int.emod_nonneg _ (by omega)) (Int.emod_lt_of_pos _ hm)
theorem pick_spec {n : Nat} {h : Hm} {a : Nat} {b0 b1 : Int} {some : D} {xs : List D} {Q : VQ} {E : XP} (hb : getM h a = Option.some [.int b0, .int b1]) (hs : some = .tup xs ∨ ∃ r, some = .ref r ∧ r ≠ a ∧ h[r]? = Option.some (.lst xs)) (h0 : xs ≠ []) (hl : xs.length < 1000000) (k : ∀ d ∈ xs, ∀ c0 c1 : Int, Q d (h.set a (.lst [.int c0, .int c1]))) : FW P (n + 2) 18 [.ref a, some] h Q E := by
  have hx : 0 < xs.length := List.length_pos_iff.mpr h0
  refine fw_open (d := D18) rfl rfl ?_
  unfold D18
  have fin : ∀ d c0 c1 : Int, 0 ≤ d → d < xs.length → ∀ x, atI xs d = Option.some x → Q x (h.set a (.lst [.int c0, .int c1])) := fun d c0 c1 h1 h2 x hx => by
    have : xs[d.toNat]? = Option.some xs[d.toNat] := List.getElem?_eq_getElem (by omega)
    rw [at_pos h1 this] at hx
    cases hx
    exact k _ (List.getElem_mem _) c0 c1
  have some_at : ∀ d : Int, 0 ≤ d → d < xs.length → ∃ x, atI xs d = Option.some x := fun d h1 h2 => ⟨xs[d.toNat]'(by omega), at_pos h1 (List.getElem?_eq_getElem (by omega))⟩
  rcases hs with rfl | ⟨r, rfl, hr, e⟩
  · simp only [wpSs, wpS, wpE, wpEs, wpCs, wpP, wpPs, List.map, List.replicate, List.cons_append, List.nil_append, List.append_nil, List.getElem?_cons_zero, List.getElem?_cons_succ, jn, ws_some, List.length_cons, List.length_nil, List.set, at0, at1, at2, idx_tup, c_gt, c_lt, c_le, c_ge, c_is, c_isnt, c_eqI, c_neI, c_eqS, c_neS, c_eqB, c_neB, isS, isNonD, isBlD, t_bl, b_int, b_abs, b_max2, b_min2, b_lenT, o_add, o_sub, permD, Option.map_some]
    refine take_spec hb (by omega) (by omega) fun d c0 c1 h1 h2 => ?_
    obtain ⟨x, hx⟩ := some_at d h1 h2
    rw [idx_tup, hx]
    exact fin d c0 c1 h1 h2 x hx
  · simp only [wpSs, wpS, wpE, wpEs, wpCs, wpP, wpPs, List.map, List.replicate, List.cons_append, List.nil_append, List.append_nil, List.getElem?_cons_zero, List.getElem?_cons_succ, jn, ws_some, List.length_cons, List.length_nil, List.set, at0, at1, at2, idx_tup, c_gt, c_lt, c_le, c_ge, c_is, c_isnt, c_eqI, c_neI, c_eqS, c_neS, c_eqB, c_neB, isS, isNonD, isBlD, t_bl, b_int, b_abs, b_max2, b_min2, b_lenT, o_add, o_sub, permD, Option.map_some, b_lenL e]
    refine take_spec hb (by omega) (by omega) fun d c0 c1 h1 h2 => ?_
    have e2 : (h.set a (.lst [.int c0, .int c1]))[r]? = Option.some (.lst xs) := by rw [List.getElem?_set_ne (Ne.symm hr)]; exact e
    obtain ⟨x, hx⟩ := some_at d h1 h2
    rw [idx_lst e2, hx]
    exact fin d c0 c1 h1 h2 x hx
theorem box_spec {n : Nat} {h : Hm} {c : Cell} {ns : List Int} {k : Int} {Q : VQ} {E : XP} (hc : h[0]? = some c) (cc : c = .lst (ns.map D.int) ∨ c = .ro (ns.map D.int)) (h0 : 0 ≤ k) (q : ∀ b0 b1 : Int, Q (.ref h.length) (h ++ [.lst [.int b0, .int b1]])) : FW P (n + 1) 16 [.ref 0, .int k] h Q E := by
  refine fw_open (d := D16) rfl rfl ?_
  unfold D16
  have m1 : -LINT < (31013 : Int) ∧ (31013 : Int) < LINT := by decide
  have m2 : -LINT < (92821 : Int) ∧ (92821 : Int) < LINT := by decide
  have m3 : -LINT < (54250033 : Int) ∧ (54250033 : Int) < LINT := by decide
  have m4 : -LINT < (7103 : Int) ∧ (7103 : Int) < LINT := by decide
  have p1 : (0 : Int) < 2147483563 := by decide
  simp only [wpSs, wpS, wpE, wpEs, wpCs, wpP, wpPs, List.map, List.replicate, List.cons_append, List.nil_append, List.append_nil, List.getElem?_cons_zero, List.getElem?_cons_succ, jn, ws_some, List.length_cons, List.length_nil, List.set, at0, at1, at2, idx_tup, c_gt, c_lt, c_le, c_ge, c_is, c_isnt, c_eqI, c_neI, c_eqS, c_neS, c_eqB, c_neB, isS, isNonD, isBlD, t_bl, b_int, b_abs, b_max2, b_min2, b_lenT, o_add, o_sub, permD, Option.map_some, o_mulL m1, b_lenC hc cc, List.length_map]
  refine ⟨by simp, ?_⟩
  by_cases c1 : k < (ns.length : Int)
  · simp only [wpSs, wpS, wpE, wpEs, wpCs, wpP, wpPs, List.map, List.replicate, List.cons_append, List.nil_append, List.append_nil, List.getElem?_cons_zero, List.getElem?_cons_succ, jn, ws_some, List.length_cons, List.length_nil, List.set, at0, at1, at2, idx_tup, c_gt, c_lt, c_le, c_ge, c_is, c_isnt, c_eqI, c_neI, c_eqS, c_neS, c_eqB, c_neB, isS, isNonD, isBlD, t_bl, b_int, b_abs, b_max2, b_min2, b_lenT, o_add, o_sub, permD, Option.map_some, c1, decide_true, if_true, idx_cell hc cc, at_ints h0 c1]
    refine ⟨by simp, ?_⟩
    simp only [wpSs, wpS, wpE, wpEs, wpCs, wpP, wpPs, List.map, List.replicate, List.cons_append, List.nil_append, List.append_nil, List.getElem?_cons_zero, List.getElem?_cons_succ, jn, ws_some, List.length_cons, List.length_nil, List.set, at0, at1, at2, idx_tup, c_gt, c_lt, c_le, c_ge, c_is, c_isnt, c_eqI, c_neI, c_eqS, c_neS, c_eqB, c_neB, isS, isNonD, isBlD, t_bl, b_int, b_abs, b_max2, b_min2, b_lenT, o_add, o_sub, permD, Option.map_some, o_pow10, o_mulR m3, o_mod p1, o_mulL m4]
    (repeat' split) <;> exact ⟨by simp, q _ _⟩
  · simp only [wpSs, wpS, wpE, wpEs, wpCs, wpP, wpPs, List.map, List.replicate, List.cons_append, List.nil_append, List.append_nil, List.getElem?_cons_zero, List.getElem?_cons_succ, jn, ws_some, List.length_cons, List.length_nil, List.set, at0, at1, at2, idx_tup, c_gt, c_lt, c_le, c_ge, c_is, c_isnt, c_eqI, c_neI, c_eqS, c_neS, c_eqB, c_neB, isS, isNonD, isBlD, t_bl, b_int, b_abs, b_max2, b_min2, b_lenT, o_add, o_sub, permD, Option.map_some, c1, decide_false, Bool.false_eq_true, if_false]
    by_cases c2 : (0 : Int) < ns.length
    · have c3 := Int.emod_nonneg k (by omega : (ns.length : Int) ≠ 0)
      have c4 := Int.emod_lt_of_pos k c2
      simp only [c2, decide_true, if_true, o_mod c2, idx_cell hc cc, at_ints c3 c4, wpSs, wpS, wpE, wpEs, wpCs, wpP, wpPs, List.map, List.replicate, List.cons_append, List.nil_append, List.append_nil, List.getElem?_cons_zero, List.getElem?_cons_succ, jn, ws_some, List.length_cons, List.length_nil, List.set, at0, at1, at2, idx_tup, c_gt, c_lt, c_le, c_ge, c_is, c_isnt, c_eqI, c_neI, c_eqS, c_neS, c_eqB, c_neB, isS, isNonD, isBlD, t_bl, b_int, b_abs, b_max2, b_min2, b_lenT, o_add, o_sub, permD, Option.map_some, o_mod p1, o_mulR m2]
      refine ⟨by simp, ?_⟩
      simp only [wpSs, wpS, wpE, wpEs, wpCs, wpP, wpPs, List.map, List.replicate, List.cons_append, List.nil_append, List.append_nil, List.getElem?_cons_zero, List.getElem?_cons_succ, jn, ws_some, List.length_cons, List.length_nil, List.set, at0, at1, at2, idx_tup, c_gt, c_lt, c_le, c_ge, c_is, c_isnt, c_eqI, c_neI, c_eqS, c_neS, c_eqB, c_neB, isS, isNonD, isBlD, t_bl, b_int, b_abs, b_max2, b_min2, b_lenT, o_add, o_sub, permD, Option.map_some, o_pow10, o_mulR m3, o_mod p1, o_mulL m4]
      (repeat' split) <;> exact ⟨by simp, q _ _⟩
    · simp only [c2, decide_false, Bool.false_eq_true, if_false]
      simp only [wpSs, wpS, wpE, wpEs, wpCs, wpP, wpPs, List.map, List.replicate, List.cons_append, List.nil_append, List.append_nil, List.getElem?_cons_zero, List.getElem?_cons_succ, jn, ws_some, List.length_cons, List.length_nil, List.set, at0, at1, at2, idx_tup, c_gt, c_lt, c_le, c_ge, c_is, c_isnt, c_eqI, c_neI, c_eqS, c_neS, c_eqB, c_neB, isS, isNonD, isBlD, t_bl, b_int, b_abs, b_max2, b_min2, b_lenT, o_add, o_sub, permD, Option.map_some, o_pow10, o_mulR m3, o_mod p1, o_mulL m4]
      (repeat' split) <;> exact ⟨by simp, q _ _⟩
theorem int_spec {n : Nat} {h : Hm} {d : D} {Q : VQ} {E : XP} (ok : okR h d) (q : Q (.bl (isInt d)) h) : FW P (n + 1) 1 [d] h Q E := by
  refine fw_open (d := D1) rfl rfl ?_
  unfold D1
  simp only [wpSs, wpS, wpE, wpEs, wpCs, wpP, wpPs, List.map, List.replicate, List.cons_append, List.nil_append, List.append_nil, List.getElem?_cons_zero, List.getElem?_cons_succ, jn, ws_some, List.length_cons, List.length_nil, List.set, at0, at1, at2, idx_tup, c_gt, c_lt, c_le, c_ge, c_is, c_isnt, c_eqI, c_neI, c_eqS, c_neS, c_eqB, c_neB, isS, isNonD, isBlD, t_bl, b_int, b_abs, b_max2, b_min2, b_lenT, o_add, o_sub, permD, Option.map_some, isi_ok ok]
  cases d <;> simp [kindB, isInt] at q ⊢ <;> exact q
theorem num_spec {n : Nat} {h : Hm} {d : D} {lo : Int} {hi : Option Int} {Q : VQ} {E : XP} (ok : okR h d) (q : Q (.bl (numB lo hi d)) h) : FW P (n + 2) 2 [d, .int lo, hiD hi] h Q E := by
  refine fw_open (d := D2) rfl rfl ?_
  unfold D2
  simp only [wpSs, wpS, wpE, wpEs, wpCs, wpP, wpPs, List.map, List.replicate, List.cons_append, List.nil_append, List.append_nil, List.getElem?_cons_zero, List.getElem?_cons_succ, jn, ws_some, List.length_cons, List.length_nil, List.set, at0, at1, at2, idx_tup, c_gt, c_lt, c_le, c_ge, c_is, c_isnt, c_eqI, c_neI, c_eqS, c_neS, c_eqB, c_neB, isS, isNonD, isBlD, t_bl, b_int, b_abs, b_max2, b_min2, b_lenT, o_add, o_sub, permD, Option.map_some]
  refine int_spec ok ?_
  simp only [t_bl, ws_some]
  cases d with
  | int i =>
    simp only [isInt, if_true, wpSs, wpS, wpE, wpEs, wpCs, wpP, wpPs, List.map, List.replicate, List.cons_append, List.nil_append, List.append_nil, List.getElem?_cons_zero, List.getElem?_cons_succ, jn, ws_some, List.length_cons, List.length_nil, List.set, at0, at1, at2, idx_tup, c_gt, c_lt, c_le, c_ge, c_is, c_isnt, c_eqI, c_neI, c_eqS, c_neS, c_eqB, c_neB, isS, isNonD, isBlD, t_bl, b_int, b_abs, b_max2, b_min2, b_lenT, o_add, o_sub, permD, Option.map_some]
    by_cases c : lo ≤ i
    · simp only [c, decide_true, if_true]
      cases hi with
      | none => simpa [hiD, wpSs, wpS, wpE, wpEs, wpCs, wpP, wpPs, List.map, List.replicate, List.cons_append, List.nil_append, List.append_nil, List.getElem?_cons_zero, List.getElem?_cons_succ, jn, ws_some, List.length_cons, List.length_nil, List.set, at0, at1, at2, idx_tup, c_gt, c_lt, c_le, c_ge, c_is, c_isnt, c_eqI, c_neI, c_eqS, c_neS, c_eqB, c_neB, isS, isNonD, isBlD, t_bl, b_int, b_abs, b_max2, b_min2, b_lenT, o_add, o_sub, permD, Option.map_some, numB, c] using q
      | some m => simpa [hiD, wpSs, wpS, wpE, wpEs, wpCs, wpP, wpPs, List.map, List.replicate, List.cons_append, List.nil_append, List.append_nil, List.getElem?_cons_zero, List.getElem?_cons_succ, jn, ws_some, List.length_cons, List.length_nil, List.set, at0, at1, at2, idx_tup, c_gt, c_lt, c_le, c_ge, c_is, c_isnt, c_eqI, c_neI, c_eqS, c_neS, c_eqB, c_neB, isS, isNonD, isBlD, t_bl, b_int, b_abs, b_max2, b_min2, b_lenT, o_add, o_sub, permD, Option.map_some, numB, c] using q
    · simp only [c, decide_false, Bool.false_eq_true, if_false]
      simpa [numB, c] using q
  | _ => simpa [isInt, numB] using q
theorem num2_spec {n : Nat} {h : Hm} {d : D} {hi : Option Int} {Q : VQ} {E : XP} (ok : okR h d) (q : Q (.bl (numB 0 hi d)) h) : FW P (n + 1) 21 [d, hiD hi] h Q E := by
  refine fw_open (d := D21) rfl rfl ?_
  unfold D21
  simp only [wpSs, wpS, wpE, wpEs, wpCs, wpP, wpPs, List.map, List.replicate, List.cons_append, List.nil_append, List.append_nil, List.getElem?_cons_zero, List.getElem?_cons_succ, jn, ws_some, List.length_cons, List.length_nil, List.set, at0, at1, at2, idx_tup, c_gt, c_lt, c_le, c_ge, c_is, c_isnt, c_eqI, c_neI, c_eqS, c_neS, c_eqB, c_neB, isS, isNonD, isBlD, t_bl, b_int, b_abs, b_max2, b_min2, b_lenT, o_add, o_sub, permD, Option.map_some, isi_ok ok]
  cases d with
  | int i =>
    simp only [kindB, wpSs, wpS, wpE, wpEs, wpCs, wpP, wpPs, List.map, List.replicate, List.cons_append, List.nil_append, List.append_nil, List.getElem?_cons_zero, List.getElem?_cons_succ, jn, ws_some, List.length_cons, List.length_nil, List.set, at0, at1, at2, idx_tup, c_gt, c_lt, c_le, c_ge, c_is, c_isnt, c_eqI, c_neI, c_eqS, c_neS, c_eqB, c_neB, isS, isNonD, isBlD, t_bl, b_int, b_abs, b_max2, b_min2, b_lenT, o_add, o_sub, permD, Option.map_some]
    by_cases c : (0 : Int) ≤ i
    · cases hi with
      | none => simpa [hiD, wpSs, wpS, wpE, wpEs, wpCs, wpP, wpPs, List.map, List.replicate, List.cons_append, List.nil_append, List.append_nil, List.getElem?_cons_zero, List.getElem?_cons_succ, jn, ws_some, List.length_cons, List.length_nil, List.set, at0, at1, at2, idx_tup, c_gt, c_lt, c_le, c_ge, c_is, c_isnt, c_eqI, c_neI, c_eqS, c_neS, c_eqB, c_neB, isS, isNonD, isBlD, t_bl, b_int, b_abs, b_max2, b_min2, b_lenT, o_add, o_sub, permD, Option.map_some, numB, c] using q
      | some m => simpa [hiD, wpSs, wpS, wpE, wpEs, wpCs, wpP, wpPs, List.map, List.replicate, List.cons_append, List.nil_append, List.append_nil, List.getElem?_cons_zero, List.getElem?_cons_succ, jn, ws_some, List.length_cons, List.length_nil, List.set, at0, at1, at2, idx_tup, c_gt, c_lt, c_le, c_ge, c_is, c_isnt, c_eqI, c_neI, c_eqS, c_neS, c_eqB, c_neB, isS, isNonD, isBlD, t_bl, b_int, b_abs, b_max2, b_min2, b_lenT, o_add, o_sub, permD, Option.map_some, numB, c] using q
    · simpa [numB, c] using q
  | bl b => simpa [kindB, numB] using q
  | _ => simpa [kindB, numB] using q
theorem fm_congr {α β : Type} {f g : α → Option β} : ∀ {l : List α}, (∀ x ∈ l, f x = g x) → l.filterMap f = l.filterMap g
  | [], _ => rfl
  | x :: l, h => by
    rw [List.filterMap_cons, List.filterMap_cons, h x List.mem_cons_self, fm_congr fun y hy => h y (List.mem_cons_of_mem _ hy)]
theorem filterMap_map {α β γ : Type} (f : α → β) (g : β → Option γ) : ∀ l : List α, (l.map f).filterMap g = l.filterMap fun x => g (f x)
  | [] => rfl
  | x :: l => by rw [List.map_cons, List.filterMap_cons, List.filterMap_cons, filterMap_map f g l]
theorem filterMap_some {α β : Type} (f : α → β) : ∀ l : List α, l.filterMap (fun x => some (f x)) = l.map f
  | [] => rfl
  | x :: l => by rw [List.filterMap_cons, List.map_cons, filterMap_some f l]
theorem filterMap_if {α β : Type} (p : α → Bool) (f : α → β) : ∀ l : List α, l.filterMap (fun x => if p x = true then some (f x) else none) = (l.filter p).map f
  | [] => rfl
  | x :: l => by
    rw [List.filterMap_cons, List.filter_cons]
    cases p x with
    | true => simp [filterMap_if p f l]
    | false => simp [filterMap_if p f l]
theorem insI_length (x : Int) : ∀ ys : List Int, (insI x ys).length = ys.length + 1
  | [] => rfl
  | y :: ys => by
    unfold insI
    split
    · rw [List.length_cons, insI_length x ys, List.length_cons]
    · rfl
theorem sortI_length : ∀ xs : List Int, (sortI xs).length = xs.length
  | [] => rfl
  | x :: xs => by rw [sortI, insI_length, sortI_length xs, List.length_cons]
theorem uq_length : ∀ (ks acc : List Int), (ks.foldl uq acc).length ≤ acc.length + ks.length
  | [], acc => by simp
  | k :: ks, acc => by
    have := uq_length ks (uq acc k)
    have h2 : (uq acc k).length ≤ acc.length + 1 := by unfold uq; split <;> simp
    rw [List.foldl_cons, List.length_cons]
    omega
theorem lin_length (ks : List Int) : (lin ks).length ≤ ks.length := by
  unfold lin
  rw [sortI_length]
  simpa using uq_length ks []
def isI (j : Int) : D → Bool
  | .int i => decide (i = j)
  | _ => false
def isBb (b : Bool) : D → Bool
  | .bl c => c == b
  | _ => false
theorem same_int {n : Nat} {h : Hm} {d : D} {j : Int} {Q : VQ} {E : XP} (ok : okR h d) (q : Q (.bl (isI j d)) h) : FW P (n + 1) 19 [d, .int j] h Q E := by
  refine fw_open (d := D19) rfl rfl ?_
  unfold D19
  have o2 : okR h (.int j) := trivial
  simp only [wpSs, wpS, wpE, wpEs, wpCs, wpP, wpPs, List.map, List.replicate, List.cons_append, List.nil_append, List.append_nil, List.getElem?_cons_zero, List.getElem?_cons_succ, jn, ws_some, List.length_cons, List.length_nil, List.set, at0, at1, at2, idx_tup, c_gt, c_lt, c_le, c_ge, c_is, c_isnt, c_eqI, c_neI, c_eqS, c_neS, c_eqB, c_neB, isS, isNonD, isBlD, t_bl, b_int, b_abs, b_max2, b_min2, b_lenT, o_add, o_sub, permD, Option.map_some, isi_ok ok, isi_ok o2, kindB]
  simp only [decide_eq_true_eq, reduceCtorEq, decide_false, or_self, or_false, or_true, decide_true, Bool.false_eq_true, if_false, if_true]
  cases d with
  | int i => simpa [kindB, isI, c_eqI] using q
  | bl b => simpa [kindB, isI] using q
  | _ => simpa [kindB, isI] using q
theorem same_bool {n : Nat} {h : Hm} {d : D} {b : Bool} {Q : VQ} {E : XP} (ok : okR h d) (q : Q (.bl (isBb b d)) h) : FW P (n + 1) 19 [d, .bl b] h Q E := by
  refine fw_open (d := D19) rfl rfl ?_
  unfold D19
  have o2 : okR h (.bl b) := trivial
  simp only [wpSs, wpS, wpE, wpEs, wpCs, wpP, wpPs, List.map, List.replicate, List.cons_append, List.nil_append, List.append_nil, List.getElem?_cons_zero, List.getElem?_cons_succ, jn, ws_some, List.length_cons, List.length_nil, List.set, at0, at1, at2, idx_tup, c_gt, c_lt, c_le, c_ge, c_is, c_isnt, c_eqI, c_neI, c_eqS, c_neS, c_eqB, c_neB, isS, isNonD, isBlD, t_bl, b_int, b_abs, b_max2, b_min2, b_lenT, o_add, o_sub, permD, Option.map_some, isi_ok ok, isi_ok o2, kindB]
  cases b with
  | true =>
    cases d with
    | bl c => simpa [kindB, isBb, c_eqB] using q
    | _ => simpa [kindB, isBb] using q
  | false =>
    cases d with
    | bl c => simpa [kindB, isBb, c_eqB] using q
    | _ => simpa [kindB, isBb] using q
theorem in_dict {h : Hm} {a : Nat} {kvs : List (D × D)} {x : D} (e : h[a]? = some (.dct kvs)) (hk : keyIn kvs x = true) : cmpS .notin x (.ref a) h = some (!(dget kvs x).isSome) := by
  simp [cmpS, inS, e, hk]
theorem ints_of : ∀ is : List Int, intsOf (is.map D.int) = some is
  | [] => rfl
  | i :: is => by rw [List.map_cons, intsOf, ints_of is]; rfl
theorem snap_ints {f : Nat → Option (List D)} : ∀ is : List Int, snapDs f (is.map D.int) = some (is.map D.int)
  | [] => rfl
  | i :: is => by rw [List.map_cons, snapDs, snap_ints is]; rfl
theorem ne_empty {h : Hm} {a b : Nat} {is : List Int} (e1 : h[a]? = some (.lst (is.map D.int))) (e2 : h[b]? = some (.lst [])) : cmpS .ne (.ref a) (.ref b) h = some (!decide (is = [])) := by
  have s1 : snap h (.ref a) = some (.lst (is.map D.int)) := by
    simp only [snap, snapD, snapN, getL, e1, snap_ints, Option.map_some]
  have s2 : snap h (.ref b) = some (.lst []) := by
    simp only [snap, snapD, snapN, getL, e2, snapDs, Option.map_some]
  have s3 : eqv h (.ref a) (.ref b) = some (decide (is = [])) := by
    simp only [eqv, s1, s2, dep, deps, (pure_ints is).2]
    rw [if_pos (by omega)]
    cases is <;> simp [eqD, eqDs]
  simp only [cmpS, s3, Option.map_some]
theorem eqDs_ints : ∀ a b : List Int, eqDs (a.map D.int) (b.map D.int) = decide (a = b)
  | [], [] => rfl
  | [], _ :: _ => rfl
  | _ :: _, [] => rfl
  | x :: a, y :: b => by
    rw [List.map_cons, List.map_cons, eqDs, eqDs_ints a b]
    simp only [eqD, List.cons.injEq]
    by_cases h : x = y <;> by_cases h2 : a = b <;> simp [h, h2]
theorem bools_of : ∀ bs : List Bool, boolsOf (bs.map D.bl) = some bs
  | [] => rfl
  | b :: bs => by rw [List.map_cons, boolsOf, bools_of bs]; rfl
theorem b_all {h : Hm} {a : Nat} {bs : List Bool} (e : h[a]? = some (.lst (bs.map D.bl))) : bltS .all [.ref a] h = some (.bl (bs.all id), h) := by
  simp only [bltS, lstOf, getL, e, Option.bind_some, bools_of, Option.map_some]
theorem pre_iff {h h' : Hm} : h <+: h' ↔ h.length ≤ h'.length ∧ ∀ i, i < h.length → h'[i]? = h[i]? := by
  constructor
  · rintro ⟨t, rfl⟩
    exact ⟨by simp, fun i hi => List.getElem?_append_left hi⟩
  · rintro ⟨hl, he⟩
    rw [List.prefix_iff_eq_take]
    refine List.ext_getElem? fun i => ?_
    rw [List.getElem?_take]
    split
    · rename_i hi; exact (he i hi).symm
    · rename_i hi; exact List.getElem?_eq_none (by omega)
/-- only a cell behind h changes -/
theorem mx_pre {m : Nat} {h h1 h' : Hm} (p : h <+: h1) (hm : h.length ≤ m) (x : MX m h1 h') : h <+: h' := by
  obtain ⟨p1, p2⟩ := pre_iff.mp p
  exact pre_iff.mpr ⟨Nat.le_trans p1 x.len, fun i hi => (x.at_ i (by omega) (by omega)).trans (p2 i hi)⟩
def BX (h : Hm) (a : Nat) : Prop := ∃ b0 b1 : Int, h[a]? = some (.lst [.int b0, .int b1])
theorem BX.mx {m a : Nat} {h h' : Hm} (b : BX h a) (x : MX m h h') (hm : a ≠ m) : BX h' a := by
  obtain ⟨b0, b1, e⟩ := b
  exact ⟨b0, b1, x.cell e hm⟩
theorem BX.pre {a : Nat} {h h' : Hm} (b : BX h a) (x : h <+: h') : BX h' a := by
  obtain ⟨b0, b1, e⟩ := b
  exact ⟨b0, b1, pre_at x e⟩
theorem BX.set {a i : Nat} {h : Hm} (b : BX h a) (hi : i ≠ a) (c : Cell) : BX (h.set i c) a := by
  obtain ⟨b0, b1, e⟩ := b
  exact ⟨b0, b1, by rw [List.getElem?_set_ne hi]; exact e⟩
theorem BX.lt {a : Nat} {h : Hm} (b : BX h a) : a < h.length := by
  obtain ⟨b0, b1, e⟩ := b
  exact (List.getElem?_eq_some_iff.mp e).1
theorem take_bx {n : Nat} {h : Hm} {a : Nat} {many : Int} {Q : VQ} {E : XP} (hb : BX h a) (hm : 0 < many) (hm2 : many < 1000000) (k : ∀ (d : Int) h', 0 ≤ d → d < many → BX h' a → MX a h h' → Q (.int d) h') : FW P (n + 1) 17 [.ref a, .int many] h Q E := by
  obtain ⟨b0, b1, e⟩ := hb
  have em : getM h a = some [.int b0, .int b1] := by unfold getM; rw [e]
  exact take_spec em hm hm2 fun d c0 c1 h1 h2 => k d _ h1 h2 ⟨c0, c1, set_at e⟩ ((MX.refl a h).set _)
theorem pick_bx {n : Nat} {h : Hm} {a r : Nat} {xs : List D} {Q : VQ} {E : XP} (hb : BX h a) (hr : r ≠ a) (er : h[r]? = some (.lst xs)) (h0 : xs ≠ []) (hl : xs.length < 1000000) (k : ∀ d ∈ xs, ∀ h', BX h' a → MX a h h' → Q d h') : FW P (n + 2) 18 [.ref a, .ref r] h Q E := by
  obtain ⟨b0, b1, e⟩ := hb
  have em : getM h a = some [.int b0, .int b1] := by unfold getM; rw [e]
  exact pick_spec em (.inr ⟨r, rfl, hr, er⟩) h0 hl fun d hd c0 c1 => k d hd _ ⟨c0, c1, set_at e⟩ ((MX.refl a h).set _)
theorem eq_ints {h : Hm} {a b : Nat} {is js : List Int} (e1 : h[a]? = some (.lst (is.map D.int))) (e2 : h[b]? = some (.lst (js.map D.int))) : cmpS .eq (.ref a) (.ref b) h = some (decide (is = js)) := by
  have g1 : getL h a = some (is.map D.int) := by unfold getL; rw [e1]
  have g2 : getL h b = some (js.map D.int) := by unfold getL; rw [e2]
  have s1 : snap h (.ref a) = some (.lst (is.map D.int)) := by simp [snap, snapD, snapN, g1, snap_ints]
  have s2 : snap h (.ref b) = some (.lst (js.map D.int)) := by simp [snap, snapD, snapN, g2, snap_ints]
  obtain ⟨_, d1⟩ := pure_ints is
  obtain ⟨_, d2⟩ := pure_ints js
  simp only [cmpS, eqv, s1, s2, dep, d1, d2, eqD, eqDs_ints]
  rw [if_pos (by omega)]
theorem rep_ints (w : Int) : ∀ k : Nat, (List.replicate k [D.int w]).flatten = (List.replicate k w).map D.int
  | 0 => rfl
  | k + 1 => by rw [List.replicate_succ, List.replicate_succ, List.flatten_cons, rep_ints w k]; rfl
/-- values of data: at most k tuples deep, of at most w parts; lists only in reach -/
def VA (h : Hm) (w : Nat) : Nat → D → Prop
  | 0, .tup _ => False
  | k + 1, .tup xs => xs.length ≤ w ∧ ∀ x ∈ xs, VA h w k x
  | _, d => okR h d
theorem VA.ok {h : Hm} {w k : Nat} {d : D} (a : VA h w k d) : okR h d := by
  cases d with
  | tup xs => trivial
  | _ => cases k <;> exact a
theorem VA.of {h : Hm} {w k : Nat} {d : D} (ht : isTupD d = false) (a : okR h d) : VA h w k d := by
  cases d with
  | tup xs => cases ht
  | _ => cases k <;> exact a
theorem VA.mono {h h' : Hm} {w w' : Nat} (hw : w ≤ w') (hk : ∀ d, okR h d → okR h' d) : ∀ (k k' : Nat) (d : D), k ≤ k' → VA h w k d → VA h' w' k' d
  | 0, k', .tup _, _, a => a.elim
  | k + 1, 0, .tup xs, l, a => by omega
  | k + 1, k' + 1, .tup xs, l, a => ⟨Nat.le_trans a.1 hw, fun x hx => VA.mono hw hk k k' x (by omega) (a.2 x hx)⟩
  | _, _, .non, _, a => VA.of rfl (hk _ a.ok)
  | _, _, .bl _, _, a => VA.of rfl (hk _ a.ok)
  | _, _, .int _, _, a => VA.of rfl (hk _ a.ok)
  | _, _, .str _, _, a => VA.of rfl (hk _ a.ok)
  | _, _, .lst _, _, a => VA.of rfl (hk _ a.ok)
  | _, _, .ref _, _, a => VA.of rfl (hk _ a.ok)
theorem okR_pre {h h' : Hm} (p : h <+: h') (d : D) (a : okR h d) : okR h' d := by
  cases d with
  | ref r =>
    obtain ⟨xs, e | e⟩ := a
    · exact ⟨xs, .inl (pre_at p e)⟩
    · exact ⟨xs, .inr (pre_at p e)⟩
  | _ => exact a
theorem okR_mx {m : Nat} {h h' : Hm} (b : BX h' m) (x : MX m h h') (d : D) (a : okR h d) : okR h' d := by
  cases d with
  | ref r =>
    by_cases hr : r = m
    · subst hr
      obtain ⟨b0, b1, e⟩ := b
      exact ⟨_, .inl e⟩
    · obtain ⟨xs, e | e⟩ := a
      · exact ⟨xs, .inl (x.cell e hr)⟩
      · exact ⟨xs, .inr (x.cell e hr)⟩
  | _ => exact a
theorem okR_nil {h : Hm} (d : D) (a : okR [] d) : okR h d := okR_pre ⟨h, rfl⟩ d a
theorem VA.pure {w : Nat} : ∀ (k : Nat) (d : D), VA [] w k d → pureD d = true ∧ dep d ≤ k
  | 0, .tup _, a => a.elim
  | k + 1, .tup xs, a => by
    have : pureDs xs = true ∧ deps xs ≤ k := by
      obtain ⟨hl, a⟩ := a
      clear hl
      induction xs with
      | nil => exact ⟨rfl, Nat.zero_le _⟩
      | cons x xs ih =>
        obtain ⟨h1, h2⟩ := VA.pure k x (a x List.mem_cons_self)
        obtain ⟨h3, h4⟩ := ih fun y hy => a y (List.mem_cons_of_mem _ hy)
        exact ⟨by simp [pureDs, h1, h3], by simp only [deps]; omega⟩
    exact ⟨by simp only [pureD]; exact this.1, by simp only [dep]; omega⟩
  | _, .non, _ => ⟨rfl, Nat.zero_le _⟩
  | _, .bl _, _ => ⟨rfl, Nat.zero_le _⟩
  | _, .int _, _ => ⟨rfl, Nat.zero_le _⟩
  | _, .str _, _ => ⟨rfl, Nat.zero_le _⟩
  | _, .lst _, a => (VA.ok a).elim
  | _, .ref _, a => by
    obtain ⟨xs, e | e⟩ := VA.ok a <;> simp at e
mutual
theorem snapD_pure (f : Nat → Option (List D)) : ∀ d : D, pureD d = true → snapD f d = some d
  | .non, _ => rfl
  | .bl _, _ => rfl
  | .int _, _ => rfl
  | .str _, _ => rfl
  | .tup xs, h => by rw [snapD, snapDs_pure f xs h]; rfl
  | .lst _, h => by cases h
  | .ref _, h => by cases h
theorem snapDs_pure (f : Nat → Option (List D)) : ∀ ds : List D, pureDs ds = true → snapDs f ds = some ds
  | [], _ => rfl
  | d :: ds, h => by
    simp only [pureDs, Bool.and_eq_true] at h
    simp only [snapDs, snapD_pure f d h.1, snapDs_pure f ds h.2]
end
theorem eqv_pure {h : Hm} {x y : D} (hx : pureD x = true) (hy : pureD y = true) (hd : dep x ≤ 60 ∨ dep y ≤ 60) : eqv h x y = some (eqD x y) := by
  have e1 : snap h x = some x := snapD_pure _ x hx
  have e2 : snap h y = some y := snapD_pure _ y hy
  simp only [eqv, e1, e2]
  rw [if_pos (by omega)]
theorem cut_mem {xs : List D} {lo hi : Option Int} {x : D} (h : x ∈ cutL xs lo hi) : x ∈ xs := List.mem_of_mem_drop (List.mem_of_mem_take h)
theorem cut_len {xs : List D} {lo hi : Option Int} : (cutL xs lo hi).length ≤ xs.length := by
  unfold cutL
  rw [List.length_take, List.length_drop]
  omega
theorem o_addT {h : Hm} {xs ys : List D} (hl : xs.length + ys.length ≤ LIM) : binS .add (.tup xs) (.tup ys) h = some (.tup (xs ++ ys), h) := by
  simp [binS, hl]
mutual
def vaB (w : Nat) : Nat → D → Bool
  | _, .ref _ => false
  | _, .lst _ => false
  | 0, .tup _ => false
  | k + 1, .tup xs => decide (xs.length ≤ w) && vaBs w k xs
  | _, _ => true
def vaBs (w : Nat) : Nat → List D → Bool
  | _, [] => true
  | k, x :: xs => vaB w k x && vaBs w k xs
end
mutual
theorem vaB_ok {w : Nat} : ∀ (k : Nat) (d : D), vaB w k d = true → VA [] w k d
  | 0, .tup _, a => by simp [vaB] at a
  | k + 1, .tup xs, a => by
    simp only [vaB, Bool.and_eq_true, decide_eq_true_eq] at a
    exact ⟨a.1, vaBs_ok k xs a.2⟩
  | _, .non, _ => VA.of rfl trivial
  | _, .bl _, _ => VA.of rfl trivial
  | _, .int _, _ => VA.of rfl trivial
  | _, .str _, _ => VA.of rfl trivial
  | k, .lst _, a => by cases k <;> simp [vaB] at a
  | k, .ref _, a => by cases k <;> simp [vaB] at a
theorem vaBs_ok {w : Nat} : ∀ (k : Nat) (ds : List D), vaBs w k ds = true → ∀ d ∈ ds, VA [] w k d
  | _, [], _ => fun _ h => nomatch h
  | k, x :: xs, a => fun d hd => by
    simp only [vaBs, Bool.and_eq_true] at a
    rcases List.mem_cons.mp hd with e | hd
    · rw [e]; exact vaB_ok k x a.1
    · exact vaBs_ok k xs a.2 d hd
end
def odds : List D := [D.non, D.bl true, D.bl false, D.int 0, D.int 1, D.int 2, D.int 3, D.int (0 - 1), D.int 7, D.tup [], D.tup [D.int 0], D.tup [D.int 1], D.tup [D.tup []], D.str [115, 104, 117, 116], D.tup [D.str [104, 111, 108, 100, 115]], D.tup [D.str [115, 104, 117, 116], D.int 0], D.tup [D.str [115, 104, 117, 116], D.int 1], D.str [120]]
theorem eqD_nil (xs : List D) : eqD (.tup xs) (.tup []) = decide (xs = []) := by
  cases xs <;> simp [eqD, eqDs]
theorem slc_tup {h : Hm} {xs : List D} {o o' : Option Int} : slcS (.tup xs) o o' h = some (.tup (cutL xs o o'), h) := rfl
theorem optI_int {i : Int} : optI (.int i) = some (some i) := rfl
theorem optI_non : optI .non = some none := rfl
theorem VA.nil {h : Hm} {w w' k k' : Nat} {d : D} (a : VA [] w k d) (hw : w ≤ w') (hk : k ≤ k') : VA h w' k' d := VA.mono hw okR_nil k k' d hk a
set_option maxRecDepth 20000 in
theorem bent_ok : ∀ (k n : Nat) (v : D) (h : Hm) (a : Nat) (Q : VQ) (E : XP), k + 4 ≤ n → VA [] 50 k v → BX h a → (∀ w h', VA h' 101 (k + 2) w → BX h' a → MX a h h' → Q w h') → FW P n 20 [.ref a, v] h Q E := by
  intro k
  induction k using Nat.strongRecOn with
  | ind k IH =>
    intro n v h a Q E hn hv hb q
    obtain ⟨n, rfl⟩ : ∃ n', n = n' + 4 := ⟨n - 4, by omega⟩
    have hal := hb.lt
    refine fw_open (d := D20) rfl rfl ?_
    unfold D20
    simp only [wpSs, wpS, wpE, wpEs, wpCs, wpP, wpPs, List.map, List.replicate, List.cons_append, List.nil_append, List.append_nil, List.getElem?_cons_zero, List.getElem?_cons_succ, jn, ws_some, List.length_cons, List.length_nil, List.set, at0, at1, at2, idx_tup, c_gt, c_lt, c_le, c_ge, c_is, c_isnt, c_eqI, c_neI, c_eqS, c_neS, c_eqB, c_neB, isS, isNonD, isBlD, t_bl, b_int, b_abs, b_max2, b_min2, b_lenT, o_add, o_sub, permD, Option.map_some]
    have er : (h ++ [Cell.lst [D.int 0]] ++ [Cell.lst (odds ++ [D.ref (List.length h)])])[(h ++ [Cell.lst [D.int 0]]).length]? = some (Cell.lst (odds ++ [D.ref (List.length h)])) := last_at
    refine pick_bx (n := n + 1) (xs := odds ++ [D.ref h.length]) ((hb.pre pre_one).pre pre_one) (by simp; omega) er (by simp) (by simp [odds]) fun o ho h1 b1 m1 => ?_
    have hp : h <+: h ++ [Cell.lst [D.int 0]] ++ [Cell.lst (odds ++ [D.ref (List.length h)])] := pre_one.trans pre_one
    have mx1 : MX a h h1 := (MX.pre hp).trans m1
    have oV : ∀ h2, MX a h1 h2 → VA h2 101 (k + 2) o := fun h2 m2 => by
      rcases List.mem_append.mp ho with ho | ho
      · exact (vaBs_ok (w := 50) 2 odds (by decide) o ho).nil (by omega) (by omega)
      · rw [List.mem_singleton.mp ho]
        refine VA.of rfl ⟨[.int 0], .inl ?_⟩
        have e0 : (h ++ [Cell.lst [D.int 0]] ++ [Cell.lst (odds ++ [D.ref (List.length h)])])[h.length]? = some (Cell.lst [D.int 0]) := pre_at pre_one last_at
        exact m2.cell (m1.cell e0 (by omega)) (by omega)
    refine ⟨by omega, ?_⟩
    rw [isi_ok (okR_nil v hv.ok)]
    simp only [ws_some, t_bl]
    cases v with
    | tup xs =>
      obtain ⟨k, rfl⟩ : ∃ k', k = k' + 1 := by
        cases k with
        | zero => exact hv.elim
        | succ k => exact ⟨k, rfl⟩
      obtain ⟨hxl, hxs⟩ := hv
      obtain ⟨hpu, hdp⟩ := VA.pure (w := 50) (k + 1) (.tup xs) ⟨hxl, hxs⟩
      simp only [kindB, decide_true, Bool.not_true, Bool.false_eq_true, if_false]
      have ec : cmpS .eq (.tup xs) (.tup []) h1 = some (decide (xs = [])) := by
        have : eqv h1 (.tup xs) (.tup []) = some (eqD (.tup xs) (.tup [])) := eqv_pure hpu rfl (.inr (by simp [dep, deps]))
        rw [eqD_nil] at this
        exact this
      rw [ec]
      simp only [ws_some]
      by_cases c0 : xs = []
      · simp only [c0, decide_true, if_true]
        exact q _ _ (oV _ (MX.refl _ _)) b1 mx1
      simp only [c0, decide_false, Bool.false_eq_true, if_false]
      have hx0 : 0 < xs.length := List.length_pos_iff.mpr c0
      refine take_bx b1 (by omega) (by omega) fun t h2 t0 t1 b2 m2 => ?_
      simp only [c_eqI, ws_some]
      by_cases c1 : t = 0
      · simp only [c1, decide_true, if_true]
        exact q _ _ (oV _ m2) b2 (mx1.trans m2)
      simp only [c1, decide_false, Bool.false_eq_true, if_false]
      rw [b_lenT]
      simp only [ws_some]
      refine take_bx b2 (by omega) (by omega) fun d h3 d0 d1 b3 m3 => ?_
      refine take_bx b3 (by omega) (by omega) fun t h4 _ _ b4 m4 => ?_
      have mx4 : MX a h h4 := mx1.trans (m2.trans (m3.trans m4))
      have hat : atI xs d = some (xs[d.toNat]'(by omega)) := at_pos d0 (List.getElem?_eq_getElem (by omega))
      have hmem : xs[d.toNat]'(by omega) ∈ xs := List.getElem_mem _
      refine ⟨by omega, by omega, ?_⟩
      have cl1 : ∀ lo hi, (cutL xs lo hi).length ≤ 50 := fun lo hi => Nat.le_trans cut_len hxl
      have cm1 : ∀ lo hi h', ∀ x ∈ cutL xs lo hi, VA h' 101 (k + 2) x := fun lo hi h' x hx => (hxs x (cut_mem hx)).nil (by omega) (by omega)
      have cut2 : ∀ lo hi lo' hi' h', VA h' 101 (k + 1 + 2) (.tup (cutL xs lo hi ++ cutL xs lo' hi')) := fun lo hi lo' hi' h' => by
        have l1 := cl1 lo hi
        have l2 := cl1 lo' hi'
        exact ⟨by rw [List.length_append]; omega, fun x hx => by
          rcases List.mem_append.mp hx with hx | hx
          · exact cm1 _ _ _ x hx
          · exact cm1 _ _ _ x hx⟩
      have cut3 : ∀ lo hi lo' hi' h' y, VA h' 101 (k + 2) y → VA h' 101 (k + 1 + 2) (.tup (cutL xs lo hi ++ [y] ++ cutL xs lo' hi')) := fun lo hi lo' hi' h' y hy => by
        have l1 := cl1 lo hi
        have l2 := cl1 lo' hi'
        exact ⟨by rw [List.length_append, List.length_append]; simp; omega, fun x hx => by
          rcases List.mem_append.mp hx with hx | hx
          · rcases List.mem_append.mp hx with hx | hx
            · exact cm1 _ _ _ x hx
            · rw [List.mem_singleton.mp hx]; exact hy
          · exact cm1 _ _ _ x hx⟩
      have add1 : ∀ lo hi ys h', ys.length ≤ 60 → binS .add (.tup (cutL xs lo hi)) (.tup ys) h' = some (.tup (cutL xs lo hi ++ ys), h') := fun lo hi ys h' hy => o_addT (by have := cl1 lo hi; unfold LIM; omega)
      have add2 : ∀ lo hi y lo' hi' h', binS .add (.tup (cutL xs lo hi ++ [y])) (.tup (cutL xs lo' hi')) h' = some (.tup (cutL xs lo hi ++ [y] ++ cutL xs lo' hi'), h') := fun lo hi y lo' hi' h' => o_addT (by have := cl1 lo hi; have := cl1 lo' hi'; rw [List.length_append]; simp; unfold LIM; omega)
      have cl60 : ∀ lo hi, (cutL xs lo hi).length ≤ 60 := fun lo hi => Nat.le_trans (cl1 lo hi) (by omega)
      simp only [c_eqI, ws_some, optI_int, optI_non, slc_tup, o_add, idx_tup, hat, b_lenT]
      by_cases c2 : t = 0
      · simp only [c2, decide_true, if_true]
        rw [add1 _ _ _ _ (cl60 _ _)]
        exact q _ _ (cut2 _ _ _ _ _) b4 mx4
      simp only [c2, decide_false, Bool.false_eq_true, if_false]
      by_cases c3 : t = 1
      · simp only [c3, decide_true, if_true]
        rw [add1 _ _ _ _ (by simp)]
        simp only [ws_some]
        rw [add2]
        exact q _ _ (cut3 _ _ _ _ _ _ ((hxs _ hmem).nil (by omega) (by omega))) b4 mx4
      simp only [c3, decide_false, Bool.false_eq_true, if_false]
      by_cases c4 : t = 2
      · simp only [c4, decide_true, if_true]
        refine take_bx b4 (by omega) (by omega) fun e h5 e0 e1 b5 m5 => ?_
        have hat2 : atI xs e = some (xs[e.toNat]'(by omega)) := at_pos e0 (List.getElem?_eq_getElem (by omega))
        have hmem2 : xs[e.toNat]'(by omega) ∈ xs := List.getElem_mem _
        rw [idx_tup, hat2]
        simp only [ws_some]
        rw [add1 _ _ _ _ (by simp)]
        simp only [ws_some]
        rw [add2]
        exact q _ _ (cut3 _ _ _ _ _ _ ((hxs _ hmem2).nil (by omega) (by omega))) b5 (mx4.trans m5)
      simp only [c4, decide_false, Bool.false_eq_true, if_false]
      refine IH k (by omega) _ _ _ _ _ _ (by omega) (hxs _ hmem) b4 fun w h5 wv b5 m5 => ?_
      rw [add1 _ _ _ _ (by simp)]
      simp only [ws_some]
      rw [add2]
      exact q _ _ (cut3 _ _ _ _ _ _ wv) b5 (mx4.trans m5)
    | _ =>
      simp only [kindB, Bool.not_false, if_true, decide_true, decide_false, reduceCtorEq, or_self, or_false]
      exact q _ _ (oV _ (MX.refl _ _)) b1 mx1
theorem tuple_spec {n : Nat} {h : Hm} {d : D} {Q : VQ} {E : XP} (ok : okR h d) (q : Q (.bl (isTupD d)) h) : FW P (n + 1) 3 [d, .non] h Q E := by
  refine fw_open (d := D3) rfl rfl ?_
  unfold D3
  simp only [wpSs, wpS, wpE, wpEs, wpCs, wpP, wpPs, List.map, List.replicate, List.cons_append, List.nil_append, List.append_nil, List.getElem?_cons_zero, List.getElem?_cons_succ, jn, ws_some, List.length_cons, List.length_nil, List.set, at0, at1, at2, idx_tup, c_gt, c_lt, c_le, c_ge, c_is, c_isnt, c_eqI, c_neI, c_eqS, c_neS, c_eqB, c_neB, isS, isNonD, isBlD, t_bl, b_int, b_abs, b_max2, b_min2, b_lenT, o_add, o_sub, permD, Option.map_some, isi_ok ok]
  cases d <;> simp [kindB, isTupD] at q ⊢ <;> exact q
def pairB : D → Bool
  | .tup [_, _] => true
  | _ => false
theorem pair_spec {n : Nat} {h : Hm} {d : D} {Q : VQ} {E : XP} (ok : okR h d) (q : Q (.bl (pairB d)) h) : FW P (n + 1) 3 [d, .int 2] h Q E := by
  refine fw_open (d := D3) rfl rfl ?_
  unfold D3
  simp only [wpSs, wpS, wpE, wpEs, wpCs, wpP, wpPs, List.map, List.replicate, List.cons_append, List.nil_append, List.append_nil, List.getElem?_cons_zero, List.getElem?_cons_succ, jn, ws_some, List.length_cons, List.length_nil, List.set, at0, at1, at2, idx_tup, c_gt, c_lt, c_le, c_ge, c_is, c_isnt, c_eqI, c_neI, c_eqS, c_neS, c_eqB, c_neB, isS, isNonD, isBlD, t_bl, b_int, b_abs, b_max2, b_min2, b_lenT, o_add, o_sub, permD, Option.map_some, isi_ok ok]
  cases d with
  | tup xs =>
    simp only [kindB, decide_true, if_true, wpSs, wpS, wpE, wpEs, wpCs, wpP, wpPs, List.map, List.replicate, List.cons_append, List.nil_append, List.append_nil, List.getElem?_cons_zero, List.getElem?_cons_succ, jn, ws_some, List.length_cons, List.length_nil, List.set, at0, at1, at2, idx_tup, c_gt, c_lt, c_le, c_ge, c_is, c_isnt, c_eqI, c_neI, c_eqS, c_neS, c_eqB, c_neB, isS, isNonD, isBlD, t_bl, b_int, b_abs, b_max2, b_min2, b_lenT, o_add, o_sub, permD, Option.map_some]
    match xs, q with
    | [], q => exact q
    | [_], q => exact q
    | [_, _], q => exact q
    | _ :: _ :: _ :: l, q =>
      have : ¬ (((l.length + 1 + 1 + 1 : Nat) : Int) = 2) := by omega
      simp only [List.length_cons, this, decide_false]
      exact q
  | _ => simpa [kindB, pairB] using q
def mx (ns : List Int) : Int := ns.foldl max (ns.headD 0)
theorem b_maxI {h : Hm} {a : Nat} {ns : List Int} (e : h[a]? = some (.lst (ns.map D.int))) (h0 : ns ≠ []) : bltS .max1 [.ref a] h = some (.int (mx ns), h) := by
  simp only [bltS, lstOf, getL, e, Option.bind_some, ints_of]
  rw [if_pos h0]
  rfl
theorem o_addL {h : Hm} {a b : Nat} {xs ys : List D} (e1 : h[a]? = some (.lst xs)) (e2 : h[b]? = some (.lst ys)) (hl : xs.length + ys.length ≤ 1000) : binS .add (.ref a) (.ref b) h = some (.ref h.length, h ++ [.lst (xs ++ ys)]) := by
  have g1 : getM h a = some xs := by unfold getM; rw [e1]
  have g2 : getM h b = some ys := by unfold getM; rw [e2]
  simp only [binS, g1, g2]
  rw [if_pos (by unfold LIM; omega)]
  rfl
theorem okR_setL {h : Hm} {i : Nat} {ys : List D} (d : D) (a : okR h d) : okR (h.set i (.lst ys)) d := by
  cases d with
  | ref r =>
    by_cases hr : i = r
    · subst hr
      obtain ⟨xs, e | e⟩ := a
      · exact ⟨ys, .inl (set_at e)⟩
      · exact ⟨ys, .inl (set_at e)⟩
    · obtain ⟨xs, e | e⟩ := a
      · exact ⟨xs, .inl (by rw [List.getElem?_set_ne hr]; exact e)⟩
      · exact ⟨xs, .inr (by rw [List.getElem?_set_ne hr]; exact e)⟩
  | _ => exact a
end M67

end
section
set_option Elab.async false
set_option linter.all false
set_option autoImplicit false
/-! worlds, books, what is heard -/
namespace M67
open M
structure World where
  steps : List (List (Option Nat))
  ends : List Bool
  answers : List (Option (List Int))
def optD : Option Nat → D
  | none => .non
  | some t => .int t
def ansD : Option (List Int) → D
  | none => .non
  | some l => .tup (l.map D.int)
def stepD (r : List (Option Nat)) : D := .tup (r.map optD)
def stepsD (s : List (List (Option Nat))) : D := .tup (s.map stepD)
def worldD (W : World) : D := .tup [stepsD W.steps, .tup (W.ends.map D.bl), .tup (W.answers.map ansD)]
/-- a world of n boards, m kinds, q questions -/
structure OKW (W : World) (n m q : Nat) : Prop where
  n1 : 1 ≤ n
  n2 : n ≤ 20
  m1 : 1 ≤ m
  m2 : m ≤ 20
  q1 : 1 ≤ q
  q2 : q ≤ 20
  ls : W.steps.length = n
  le : W.ends.length = n
  la : W.answers.length = n
  row : ∀ r ∈ W.steps, r.length = m ∧ ∀ t, some t ∈ r → t < n
  ans : ∀ (b : Nat) (e : Bool) (a : Option (List Int)), W.ends[b]? = some e → W.answers[b]? = some a → (e = true → ∃ l, a = some l ∧ l.length = q) ∧ (e = false → a = none)
  fin : true ∈ W.ends
/-- a book: a kind for each word -/
structure OKB (m words : Nat) (bk : List Nat) : Prop where
  len : bk.length = words
  lt : ∀ k ∈ bk, k < m
def bookD (bk : List Nat) : D := .tup (bk.map fun (k : Nat) => D.int (k : Int))
def rowD (r : List Nat) : D := .tup (r.map fun (k : Nat) => D.int (k : Int))
def stepW (W : World) (b k : Nat) : Option Nat := (W.steps.getD b []).getD k none
def boardF (W : World) (bk : List Nat) : List Nat → Option Nat → Option Nat
  | [], b => b
  | w :: r, b => boardF W bk r (match b with
    | none => none
    | some b => stepW W b (bk.getD w 0))
theorem stepW_lt {W : World} {n m q : Nat} (ok : OKW W n m q) {b k t : Nat} (h : stepW W b k = some t) : t < n := by
  unfold stepW at h
  rw [List.getD_eq_getElem?_getD, List.getD_eq_getElem?_getD] at h
  cases hb : W.steps[b]? with
  | none => rw [hb] at h; simp at h
  | some r =>
    rw [hb] at h
    simp only [Option.getD_some] at h
    cases hk : r[k]? with
    | none => rw [hk] at h; simp at h
    | some x =>
      rw [hk] at h
      simp only [Option.getD_some] at h
      subst h
      exact (ok.row r (List.mem_of_getElem? hb)).2 t (List.mem_of_getElem? hk)
theorem step_at {W : World} {n m q : Nat} (ok : OKW W n m q) {b k : Nat} (hb : b < n) (hk : k < m) {h : Hm} : ∃ rd, idxS (stepsD W.steps) (.int b) h = some rd ∧ idxS rd (.int k) h = some (optD (stepW W b k)) := by
  have hb' : b < W.steps.length := by rw [ok.ls]; exact hb
  have hr := ok.row _ (List.getElem_mem hb')
  refine ⟨stepD W.steps[b], ?_, ?_⟩
  · unfold stepsD
    rw [idx_tup]
    exact at_nat (by rw [List.getElem?_map, List.getElem?_eq_getElem hb']; rfl)
  · unfold stepD
    rw [idx_tup]
    refine at_nat ?_
    have hk' : k < W.steps[b].length := by rw [hr.1]; exact hk
    rw [List.getElem?_map, List.getElem?_eq_getElem hk']
    unfold stepW
    rw [List.getD_eq_getElem?_getD, List.getD_eq_getElem?_getD, List.getElem?_eq_getElem hb', Option.getD_some, List.getElem?_eq_getElem hk']
    rfl
theorem book_at {m words : Nat} {bk : List Nat} (ok : OKB m words bk) {w : Nat} (hw : w < words) {h : Hm} : idxS (bookD bk) (.int w) h = some (.int (bk.getD w 0)) ∧ bk.getD w 0 < m := by
  have hw' : w < bk.length := by rw [ok.len]; exact hw
  have e : bk.getD w 0 = bk[w] := by rw [List.getD_eq_getElem?_getD, List.getElem?_eq_getElem hw']; rfl
  refine ⟨?_, by rw [e]; exact ok.lt _ (List.getElem_mem hw')⟩
  unfold bookD
  rw [idx_tup, e]
  exact at_nat (by rw [List.getElem?_map, List.getElem?_eq_getElem hw']; rfl)
theorem w_at0 {W : World} {h : Hm} : idxS (worldD W) (.int 0) h = some (stepsD W.steps) := at0
theorem w_at1 {W : World} {h : Hm} : idxS (worldD W) (.int 1) h = some (.tup (W.ends.map D.bl)) := at1
theorem w_at2 {W : World} {h : Hm} : idxS (worldD W) (.int 2) h = some (.tup (W.answers.map ansD)) := at2
theorem board_spec {W : World} {n m q words : Nat} (ok : OKW W n m q) {bk : List Nat} (okb : OKB m words bk) {f : Nat} (hf : P.lookup f = some D38) : ∀ {N : Nat} {row : List Nat} {h : Hm} {Q : VQ} {E : XP}, (∀ w ∈ row, w < words) → Q (optD (boardF W bk row (some 0))) h → FW P (N + 1) f [worldD W, bookD bk, rowD row] h Q E := by
  intro N row h Q E hr k
  refine fw_open (d := D38) hf rfl ?_
  unfold D38
  simp only [wpSs, wpS, wpE, wpEs, wpCs, wpP, wpPs, List.map, List.replicate, List.cons_append, List.nil_append, List.append_nil, List.getElem?_cons_zero, List.getElem?_cons_succ, jn, ws_some, List.length_cons, List.length_nil, List.set, at0, at1, at2, idx_tup, c_gt, c_lt, c_le, c_ge, c_is, c_isnt, c_eqI, c_neI, c_eqS, c_neS, c_eqB, c_neB, isS, isNonD, isBlD, t_bl, b_int, b_abs, b_max2, b_min2, b_lenT, o_add, o_sub, permD, Option.map_some, rowD, it_tup]
  refine ⟨by simp, ?_⟩
  refine forL_inv (fun l env h' => ∃ (rest : List Nat) (b : Option Nat) (e4 : Option D), l = rest.map (fun (k : Nat) => D.int (k : Int)) ∧ h' = h ∧ env = [some (worldD W), some (bookD bk), some (.tup (row.map fun (k : Nat) => D.int (k : Int))), some (optD b), e4] ∧ (∀ x, b = some x → x < n) ∧ (∀ w ∈ rest, w < words) ∧ boardF W bk rest b = boardF W bk row (some 0))
    (fun _ _ _ _ => still_nil) (fun x l env h' R hi kk => ?_) (fun env h' hi => ?_) _ _ _ ⟨row, some 0, none, rfl, rfl, rfl, fun x hx => by cases hx; exact ok.n1, hr, rfl⟩
  · obtain ⟨rest, b, e4, hl, rfl, rfl, hb, hw, hbf⟩ := hi
    cases rest with
    | nil => cases hl
    | cons w rest =>
      rw [List.map_cons] at hl
      cases hl
      have hww := hw w List.mem_cons_self
      simp only [wpSs, wpS, wpE, wpEs, wpCs, wpP, wpPs, List.map, List.replicate, List.cons_append, List.nil_append, List.append_nil, List.getElem?_cons_zero, List.getElem?_cons_succ, jn, ws_some, List.length_cons, List.length_nil, List.set, at0, at1, at2, idx_tup, c_gt, c_lt, c_le, c_ge, c_is, c_isnt, c_eqI, c_neI, c_eqS, c_neS, c_eqB, c_neB, isS, isNonD, isBlD, t_bl, b_int, b_abs, b_max2, b_min2, b_lenT, o_add, o_sub, permD, Option.map_some]
      refine ⟨by simp, ?_⟩
      cases b with
      | none =>
        simp only [optD, wpSs, wpS, wpE, wpEs, wpCs, wpP, wpPs, List.map, List.replicate, List.cons_append, List.nil_append, List.append_nil, List.getElem?_cons_zero, List.getElem?_cons_succ, jn, ws_some, List.length_cons, List.length_nil, List.set, at0, at1, at2, idx_tup, c_gt, c_lt, c_le, c_ge, c_is, c_isnt, c_eqI, c_neI, c_eqS, c_neS, c_eqB, c_neB, isS, isNonD, isBlD, t_bl, b_int, b_abs, b_max2, b_min2, b_lenT, o_add, o_sub, permD, Option.map_some, if_true]
        exact ⟨by simp, kk _ _ ⟨rest, none, _, rfl, rfl, rfl, (fun _ z => nomatch z), fun v hv => hw v (List.mem_cons_of_mem _ hv), hbf⟩⟩
      | some b =>
        obtain ⟨rd, s1, s2⟩ := step_at ok (hb b rfl) (book_at okb hww (h := h')).2 (h := h')
        simp only [optD, wpSs, wpS, wpE, wpEs, wpCs, wpP, wpPs, List.map, List.replicate, List.cons_append, List.nil_append, List.append_nil, List.getElem?_cons_zero, List.getElem?_cons_succ, jn, ws_some, List.length_cons, List.length_nil, List.set, at0, at1, at2, idx_tup, c_gt, c_lt, c_le, c_ge, c_is, c_isnt, c_eqI, c_neI, c_eqS, c_neS, c_eqB, c_neB, isS, isNonD, isBlD, t_bl, b_int, b_abs, b_max2, b_min2, b_lenT, o_add, o_sub, permD, Option.map_some, Bool.false_eq_true, if_false, w_at0, s1, (book_at okb hww (h := h')).1, s2]
        exact ⟨by simp, kk _ _ ⟨rest, stepW W b (bk.getD w 0), _, rfl, rfl, rfl, fun x hx => stepW_lt ok hx, fun v hv => hw v (List.mem_cons_of_mem _ hv), hbf⟩⟩
  · obtain ⟨rest, b, e4, hl, rfl, rfl, hb, hw, hbf⟩ := hi
    have : rest = [] := List.map_eq_nil_iff.mp hl.symm
    subst this
    simp only [wpSs, wpS, wpE, wpEs, wpCs, wpP, wpPs, List.map, List.replicate, List.cons_append, List.nil_append, List.append_nil, List.getElem?_cons_zero, List.getElem?_cons_succ, jn, ws_some, List.length_cons, List.length_nil, List.set, at0, at1, at2, idx_tup, c_gt, c_lt, c_le, c_ge, c_is, c_isnt, c_eqI, c_neI, c_eqS, c_neS, c_eqB, c_neB, isS, isNonD, isBlD, t_bl, b_int, b_abs, b_max2, b_min2, b_lenT, o_add, o_sub, permD, Option.map_some]
    have e : b = boardF W bk row (some 0) := hbf
    rw [← e] at k
    exact k
def noS : List Nat := [110, 111]
def amidS : List Nat := [97, 109, 105, 100]
inductive Hd where
  | no
  | amid
  | told (l : List Int)
  deriving DecidableEq
def hdD : Hd → D
  | .no => .str noS
  | .amid => .str amidS
  | .told l => .tup (l.map D.int)
/-- what is heard on a board -/
def hdOf (W : World) : Option Nat → Hd
  | none => .no
  | some b => if W.ends.getD b false = true then .told ((W.answers.getD b none).getD []) else .amid
def heard (W : World) (bk row : List Nat) : Hd := hdOf W (boardF W bk row (some 0))
theorem boardF_lt {W : World} {n m q : Nat} (ok : OKW W n m q) {bk : List Nat} : ∀ (row : List Nat) (b : Option Nat), (∀ x, b = some x → x < n) → ∀ x, boardF W bk row b = some x → x < n
  | [], b, h, x, e => h x e
  | w :: row, b, h, x, e => by
    refine boardF_lt ok row _ (fun y hy => ?_) x e
    cases b with
    | none => cases hy
    | some b => exact stepW_lt ok hy
theorem ends_at {W : World} {n m q : Nat} (ok : OKW W n m q) {b : Nat} (hb : b < n) {h : Hm} : idxS (.tup (W.ends.map D.bl)) (.int b) h = some (.bl (W.ends.getD b false)) := by
  have hb' : b < W.ends.length := by rw [ok.le]; exact hb
  rw [idx_tup]
  refine at_nat ?_
  rw [List.getElem?_map, List.getElem?_eq_getElem hb', List.getD_eq_getElem?_getD, List.getElem?_eq_getElem hb']
  rfl
theorem ans_at {W : World} {n m q : Nat} (ok : OKW W n m q) {b : Nat} (hb : b < n) (he : W.ends.getD b false = true) {h : Hm} : ∃ l : List Int, idxS (.tup (W.answers.map ansD)) (.int b) h = some (.tup (l.map D.int)) ∧ l.length = q ∧ (W.answers.getD b none).getD [] = l := by
  have hb' : b < W.ends.length := by rw [ok.le]; exact hb
  have hb2 : b < W.answers.length := by rw [ok.la]; exact hb
  have h1 : W.ends[b]? = some true := by
    rw [List.getD_eq_getElem?_getD, List.getElem?_eq_getElem hb'] at he
    rw [List.getElem?_eq_getElem hb']
    exact congrArg some he
  obtain ⟨l, hl, hq⟩ := (ok.ans b true _ h1 (List.getElem?_eq_getElem hb2)).1 rfl
  refine ⟨l, ?_, hq, ?_⟩
  · rw [idx_tup]
    refine at_nat ?_
    rw [List.getElem?_map, List.getElem?_eq_getElem hb2, Option.map_some, hl]
    rfl
  · rw [List.getD_eq_getElem?_getD, List.getElem?_eq_getElem hb2, Option.getD_some, hl]
    rfl
theorem heard_q {W : World} {n m q : Nat} (ok : OKW W n m q) {bk row : List Nat} {l : List Int} (h : heard W bk row = .told l) : l.length = q := by
  unfold heard hdOf at h
  split at h
  · cases h
  · rename_i b hb
    split at h
    · rename_i he
      have hlt := boardF_lt ok row (some 0) (fun x hx => by cases hx; exact ok.n1) b hb
      obtain ⟨l', _, hq, e⟩ := ans_at ok hlt he (h := [])
      cases h
      rw [e]; exact hq
    · cases h
/-- what is heard, of the program -/
theorem heard_spec {W : World} {n m q words : Nat} (ok : OKW W n m q) {bk : List Nat} (okb : OKB m words bk) {N : Nat} {row : List Nat} {h : Hm} {Q : VQ} {E : XP} (hr : ∀ w ∈ row, w < words) (k : Q (hdD (heard W bk row)) h) : FW P (N + 2) 40 [worldD W, bookD bk, rowD row] h Q E := by
  refine fw_open (d := D40) rfl rfl ?_
  unfold D40
  simp only [wpSs, wpS, wpE, wpEs, wpCs, wpP, wpPs, List.map, List.replicate, List.cons_append, List.nil_append, List.append_nil, List.getElem?_cons_zero, List.getElem?_cons_succ, jn, ws_some, List.length_cons, List.length_nil, List.set, at0, at1, at2, idx_tup, c_gt, c_lt, c_le, c_ge, c_is, c_isnt, c_eqI, c_neI, c_eqS, c_neS, c_eqB, c_neB, isS, isNonD, isBlD, t_bl, b_int, b_abs, b_max2, b_min2, b_lenT, o_add, o_sub, permD, Option.map_some]
  refine board_spec ok okb (f := 38) rfl hr ?_
  refine ⟨by simp, ?_⟩
  unfold heard at k
  have hlt := boardF_lt ok (bk := bk) row (some 0) (fun x hx => by cases hx; exact ok.n1)
  cases hb : boardF W bk row (some 0) with
  | none =>
    rw [hb] at k
    simp only [optD, if_true]
    exact k
  | some b =>
    rw [hb] at k hlt
    have hlt := hlt b rfl
    simp only [optD, wpSs, wpS, wpE, wpEs, wpCs, wpP, wpPs, List.map, List.replicate, List.cons_append, List.nil_append, List.append_nil, List.getElem?_cons_zero, List.getElem?_cons_succ, jn, ws_some, List.length_cons, List.length_nil, List.set, at0, at1, at2, idx_tup, c_gt, c_lt, c_le, c_ge, c_is, c_isnt, c_eqI, c_neI, c_eqS, c_neS, c_eqB, c_neB, isS, isNonD, isBlD, t_bl, b_int, b_abs, b_max2, b_min2, b_lenT, o_add, o_sub, permD, Option.map_some, Bool.false_eq_true, if_false, w_at1, ends_at ok hlt]
    cases he : W.ends.getD b false with
    | true =>
      obtain ⟨l, e1, e2, e3⟩ := ans_at ok hlt he (h := h)
      simp only [if_true, w_at2, e1, wpSs, wpS, wpE, wpEs, wpCs, wpP, wpPs, List.map, List.replicate, List.cons_append, List.nil_append, List.append_nil, List.getElem?_cons_zero, List.getElem?_cons_succ, jn, ws_some, List.length_cons, List.length_nil, List.set, at0, at1, at2, idx_tup, c_gt, c_lt, c_le, c_ge, c_is, c_isnt, c_eqI, c_neI, c_eqS, c_neS, c_eqB, c_neB, isS, isNonD, isBlD, t_bl, b_int, b_abs, b_max2, b_min2, b_lenT, o_add, o_sub, permD, Option.map_some]
      simp only [hdOf, he, if_true, e3] at k
      exact k
    | false =>
      simp only [Bool.false_eq_true, if_false, wpSs, wpS, wpE, wpEs, wpCs, wpP, wpPs, List.map, List.replicate, List.cons_append, List.nil_append, List.append_nil, List.getElem?_cons_zero, List.getElem?_cons_succ, jn, ws_some, List.length_cons, List.length_nil, List.set, at0, at1, at2, idx_tup, c_gt, c_lt, c_le, c_ge, c_is, c_isnt, c_eqI, c_neI, c_eqS, c_neS, c_eqB, c_neB, isS, isNonD, isBlD, t_bl, b_int, b_abs, b_max2, b_min2, b_lenT, o_add, o_sub, permD, Option.map_some]
      simp only [hdOf, he, Bool.false_eq_true, if_false] at k
      exact k
/-- what is heard, of the law -/
theorem heard2_spec {W : World} {n m q words : Nat} (ok : OKW W n m q) {bk : List Nat} (okb : OKB m words bk) {N : Nat} {row : List Nat} {h : Hm} {Q : VQ} {E : XP} (hr : ∀ w ∈ row, w < words) (k : Q (hdD (heard W bk row)) h) : FW P (N + 2) 53 [worldD W, bookD bk, rowD row] h Q E := by
  refine fw_open (d := D53) rfl rfl ?_
  unfold D53
  simp only [wpSs, wpS, wpE, wpEs, wpCs, wpP, wpPs, List.map, List.replicate, List.cons_append, List.nil_append, List.append_nil, List.getElem?_cons_zero, List.getElem?_cons_succ, jn, ws_some, List.length_cons, List.length_nil, List.set, at0, at1, at2, idx_tup, c_gt, c_lt, c_le, c_ge, c_is, c_isnt, c_eqI, c_neI, c_eqS, c_neS, c_eqB, c_neB, isS, isNonD, isBlD, t_bl, b_int, b_abs, b_max2, b_min2, b_lenT, o_add, o_sub, permD, Option.map_some]
  refine board_spec ok okb (f := 52) rfl hr ?_
  refine ⟨by simp, ?_⟩
  unfold heard at k
  have hlt := boardF_lt ok (bk := bk) row (some 0) (fun x hx => by cases hx; exact ok.n1)
  cases hb : boardF W bk row (some 0) with
  | none =>
    rw [hb] at k
    simp only [optD, if_true]
    exact k
  | some b =>
    rw [hb] at k hlt
    have hlt := hlt b rfl
    simp only [optD, wpSs, wpS, wpE, wpEs, wpCs, wpP, wpPs, List.map, List.replicate, List.cons_append, List.nil_append, List.append_nil, List.getElem?_cons_zero, List.getElem?_cons_succ, jn, ws_some, List.length_cons, List.length_nil, List.set, at0, at1, at2, idx_tup, c_gt, c_lt, c_le, c_ge, c_is, c_isnt, c_eqI, c_neI, c_eqS, c_neS, c_eqB, c_neB, isS, isNonD, isBlD, t_bl, b_int, b_abs, b_max2, b_min2, b_lenT, o_add, o_sub, permD, Option.map_some, Bool.false_eq_true, if_false, w_at1, ends_at ok hlt]
    cases he : W.ends.getD b false with
    | true =>
      obtain ⟨l, e1, e2, e3⟩ := ans_at ok hlt he (h := h)
      simp only [if_true, w_at2, e1, wpSs, wpS, wpE, wpEs, wpCs, wpP, wpPs, List.map, List.replicate, List.cons_append, List.nil_append, List.append_nil, List.getElem?_cons_zero, List.getElem?_cons_succ, jn, ws_some, List.length_cons, List.length_nil, List.set, at0, at1, at2, idx_tup, c_gt, c_lt, c_le, c_ge, c_is, c_isnt, c_eqI, c_neI, c_eqS, c_neS, c_eqB, c_neB, isS, isNonD, isBlD, t_bl, b_int, b_abs, b_max2, b_min2, b_lenT, o_add, o_sub, permD, Option.map_some]
      simp only [hdOf, he, if_true, e3] at k
      exact k
    | false =>
      simp only [Bool.false_eq_true, if_false, wpSs, wpS, wpE, wpEs, wpCs, wpP, wpPs, List.map, List.replicate, List.cons_append, List.nil_append, List.append_nil, List.getElem?_cons_zero, List.getElem?_cons_succ, jn, ws_some, List.length_cons, List.length_nil, List.set, at0, at1, at2, idx_tup, c_gt, c_lt, c_le, c_ge, c_is, c_isnt, c_eqI, c_neI, c_eqS, c_neS, c_eqB, c_neB, isS, isNonD, isBlD, t_bl, b_int, b_abs, b_max2, b_min2, b_lenT, o_add, o_sub, permD, Option.map_some]
      simp only [hdOf, he, Bool.false_eq_true, if_false] at k
      exact k
end M67

end
section
set_option Elab.async false
set_option linter.all false
set_option autoImplicit false
/-! pages -/
namespace M67
open M
inductive Pg where
  | noted (row ms : List Nat)
  | not_ (row : List Nat)
  | so (row : List Nat)
  | amid (row : List Nat)
  | did (row : List Nat)
  | told (row : List Nat) (qn : Nat) (v : Int)
def notedS : List Nat := [110, 111, 116, 101, 100]
def notS : List Nat := [110, 111, 116]
def soS : List Nat := [115, 111]
def didS : List Nat := [100, 105, 100]
def toldS : List Nat := [116, 111, 108, 100]
def pgD : Pg → D
  | .noted r ms => .tup [.str notedS, rowD r, rowD ms]
  | .not_ r => .tup [.str notS, rowD r]
  | .so r => .tup [.str soS, rowD r]
  | .amid r => .tup [.str amidS, rowD r]
  | .did r => .tup [.str didS, rowD r]
  | .told r qn v => .tup [.str toldS, rowD r, .int qn, .int v]
def Pg.row : Pg → List Nat
  | .noted r _ => r
  | .not_ r => r
  | .so r => r
  | .amid r => r
  | .did r => r
  | .told r _ _ => r
structure OKP (words q : Nat) (p : Pg) : Prop where
  row : ∀ w ∈ p.row, w < words
  len : p.row.length ≤ 100
  qn : ∀ r k v, p = .told r k v → k < q
def meanF (bk row : List Nat) : List Nat := (row.filter fun w => decide (bk.getD w 0 ≠ 0)).map fun w => bk.getD w 0
def holdsF (W : World) (bk : List Nat) : Pg → Bool
  | .noted r ms => decide (meanF bk r = ms)
  | .not_ r => decide (heard W bk r = .no)
  | .so r => !decide (heard W bk r = .no)
  | .amid r => decide (heard W bk r = .amid)
  | .did r => match heard W bk r with
    | .told _ => true
    | _ => false
  | .told r k v => match heard W bk r with
    | .told l => decide (l.getD k 0 = v)
    | _ => false
theorem pure_row (r : List Nat) : pureD (rowD r) = true ∧ dep (rowD r) = 1 := by
  obtain ⟨a, b⟩ := pure_ints (r.map fun (k : Nat) => (k : Int))
  rw [List.map_map] at a b
  exact ⟨by simp only [rowD, pureD]; exact a, by simp only [rowD, dep]; rw [show (r.map fun (k : Nat) => D.int (k : Int)) = r.map (D.int ∘ fun (k : Nat) => (k : Int)) from rfl, b]⟩
theorem nat_inj : ∀ {a b : List Nat}, (a.map fun (k : Nat) => (k : Int)) = (b.map fun (k : Nat) => (k : Int)) ↔ a = b
  | [], [] => by simp
  | [], _ :: _ => by simp
  | _ :: _, [] => by simp
  | x :: a, y :: b => by
    rw [List.map_cons, List.map_cons, List.cons.injEq, List.cons.injEq, nat_inj]
    constructor
    · rintro ⟨h, h2⟩; exact ⟨by omega, h2⟩
    · rintro ⟨h, h2⟩; exact ⟨by omega, h2⟩
theorem eq_row {h : Hm} (a b : List Nat) : cmpS .eq (rowD a) (rowD b) h = some (decide (a = b)) := by
  have : eqv h (rowD a) (rowD b) = some (eqD (rowD a) (rowD b)) := eqv_pure (pure_row a).1 (pure_row b).1 (.inl (by rw [(pure_row a).2]; omega))
  simp only [cmpS, this]
  have e : eqD (rowD a) (rowD b) = decide ((a.map fun (k : Nat) => (k : Int)) = (b.map fun (k : Nat) => (k : Int))) := by
    rw [← eqDs_ints, List.map_map, List.map_map]
    rfl
  rw [e]
  congr 1
  rw [decide_eq_decide]
  exact nat_inj
theorem hd_pure (x : Hd) : pureD (hdD x) = true ∧ dep (hdD x) ≤ 1 := by
  cases x with
  | no => exact ⟨rfl, Nat.zero_le _⟩
  | amid => exact ⟨rfl, Nat.zero_le _⟩
  | told l =>
    obtain ⟨a, b⟩ := pure_ints l
    exact ⟨by simp only [hdD, pureD]; exact a, by simp only [hdD, dep, b]; omega⟩
theorem eq_hno {h : Hm} (x : Hd) : cmpS .eq (hdD x) (.str [110, 111]) h = some (decide (x = .no)) := by
  have : eqv h (hdD x) (.str [110, 111]) = some (eqD (hdD x) (.str [110, 111])) := eqv_pure (hd_pure x).1 rfl (.inr (by simp [dep]))
  simp only [cmpS, this]
  cases x <;> simp [hdD, eqD, noS, amidS]
theorem ne_hno {h : Hm} (x : Hd) : cmpS .ne (hdD x) (.str [110, 111]) h = some (!decide (x = .no)) := by
  have := eq_hno (h := h) x
  simp only [cmpS] at this ⊢
  rw [this]; rfl
theorem eq_hamid {h : Hm} (x : Hd) : cmpS .eq (hdD x) (.str [97, 109, 105, 100]) h = some (decide (x = .amid)) := by
  have : eqv h (hdD x) (.str [97, 109, 105, 100]) = some (eqD (hdD x) (.str [97, 109, 105, 100])) := eqv_pure (hd_pure x).1 rfl (.inr (by simp [dep]))
  simp only [cmpS, this]
  cases x <;> simp [hdD, eqD, noS, amidS]
def isTold : Hd → Bool
  | .told _ => true
  | _ => false
theorem isin_na {h : Hm} (x : Hd) : cmpS .isin (hdD x) (.tup [.str [110, 111], .str [97, 109, 105, 100]]) h = some (!isTold x) := by
  have e1 : snap h (hdD x) = some (hdD x) := snapD_pure _ _ (hd_pure x).1
  have e2 : snapDs (snapN h 6) [.str [110, 111], .str [97, 109, 105, 100]] = some [.str [110, 111], .str [97, 109, 105, 100]] := rfl
  have e3 : deps [D.str [110, 111], D.str [97, 109, 105, 100]] = 0 := by simp [deps, dep]
  simp only [cmpS, inS, anyEq, e1, e2, e3]
  rw [if_pos (by omega)]
  cases x <;> simp [hdD, eqD, noS, amidS, isTold]
theorem notin_na {h : Hm} (x : Hd) : cmpS .notin (hdD x) (.tup [.str [110, 111], .str [97, 109, 105, 100]]) h = some (isTold x) := by
  have := isin_na (h := h) x
  simp only [cmpS] at this ⊢
  rw [this]
  simp
theorem isin_str {h : Hm} {s a b : List Nat} : cmpS .isin (.str s) (.tup [.str a, .str b]) h = some (decide (a = s) || decide (b = s)) := by
  simp [cmpS, inS, anyEq, snap, snapD, snapDs, deps, dep, eqD]
theorem isi_hd {h : Hm} (x : Hd) : bltS (.isi .str) [hdD x] h = some (.bl (!isTold x), h) := by
  cases x <;> rfl
def kf (bk : List Nat) : D → Option D
  | .int w => if decide (bk.getD w.toNat 0 ≠ 0) = true then some (.int ((bk.getD w.toNat 0 : Nat) : Int)) else none
  | _ => none
/-- a comprehension over words: the kinds that stand for them, but 0 -/
theorem mean_fm {bk row : List Nat} : (row.map fun (k : Nat) => D.int (k : Int)).filterMap (kf bk) = (meanF bk row).map fun (k : Nat) => D.int (k : Int) := by
  rw [filterMap_map]
  unfold meanF
  rw [List.map_map]
  exact filterMap_if (fun w => decide (bk.getD w 0 ≠ 0)) (fun w => D.int ((bk.getD w 0 : Nat) : Int)) row
theorem ne_nat0 {h : Hm} {k : Nat} : cmpS .ne (.int (k : Int)) (.int 0) h = some (decide (k ≠ 0)) := by
  rw [c_neI]
  congr 1
  by_cases hk : k = 0
  · subst hk; rfl
  · have : ¬ (k : Int) = 0 := by omega
    simp [hk, this]
theorem gt_nat0 {h : Hm} {k : Nat} : cmpS .gt (.int (k : Int)) (.int 0) h = some (decide (k ≠ 0)) := by
  rw [c_gt]
  congr 1
  by_cases hk : k = 0
  · subst hk; rfl
  · have : (0 : Int) < (k : Int) := by omega
    rw [decide_eq_true this, decide_eq_true hk]
theorem mean_spec {m words : Nat} {bk : List Nat} (okb : OKB m words bk) {N : Nat} {row : List Nat} {h : Hm} {Q : VQ} {E : XP} (hr : ∀ w ∈ row, w < words) (hl : row.length ≤ 1000) (k : ∀ h', h <+: h' → Q (rowD (meanF bk row)) h') : FW P (N + 1) 39 [bookD bk, rowD row] h Q E := by
  refine fw_open (d := D39) rfl rfl ?_
  unfold D39
  simp only [wpSs, wpS, wpE, wpEs, wpCs, wpP, wpPs, List.map, List.replicate, List.cons_append, List.nil_append, List.append_nil, List.getElem?_cons_zero, List.getElem?_cons_succ, jn, ws_some, List.length_cons, List.length_nil, List.set, at0, at1, at2, idx_tup, c_gt, c_lt, c_le, c_ge, c_is, c_isnt, c_eqI, c_neI, c_eqS, c_neS, c_eqB, c_neB, isS, isNonD, isBlD, t_bl, b_int, b_abs, b_max2, b_min2, b_lenT, o_add, o_sub, permD, Option.map_some, rowD, it_tup]
  refine comp_new (kf bk) still_nil (by rw [List.length_map]; unfold LIM; omega) (fun x hx h R p kk => ?_) fun h1 p1 e1 => ?_
  · obtain ⟨w, hw, rfl⟩ := List.mem_map.mp hx
    have := kk h (List.prefix_refl _)
    simp only [kf, Int.toNat_natCast] at this
    simp only [wpSs, wpS, wpE, wpEs, wpCs, wpP, wpPs, List.map, List.replicate, List.cons_append, List.nil_append, List.append_nil, List.getElem?_cons_zero, List.getElem?_cons_succ, jn, ws_some, List.length_cons, List.length_nil, List.set, at0, at1, at2, idx_tup, c_gt, c_lt, c_le, c_ge, c_is, c_isnt, c_eqI, c_neI, c_eqS, c_neS, c_eqB, c_neB, isS, isNonD, isBlD, t_bl, b_int, b_abs, b_max2, b_min2, b_lenT, o_add, o_sub, permD, Option.map_some, wipeE]
    refine ⟨by simp, ?_⟩
    simp only [(book_at okb (hr w hw) (h := h)).1, ws_some, ne_nat0]
    cases hd : decide (bk.getD w 0 ≠ 0) with
    | true => simp only [hd, if_true] at this ⊢; exact this
    | false => simp only [hd, Bool.false_eq_true, if_false] at this ⊢; exact this
  · rw [mean_fm] at e1
    rw [b_tupleL e1]
    exact k h1 p1
theorem holds_spec {W : World} {n m q words : Nat} (ok : OKW W n m q) {bk : List Nat} (okb : OKB m words bk) {pg : Pg} (okp : OKP words q pg) {N : Nat} {h : Hm} {Q : VQ} {E : XP} (k : ∀ h', h <+: h' → Q (.bl (holdsF W bk pg)) h') : FW P (N + 3) 41 [worldD W, bookD bk, pgD pg] h Q E := by
  refine fw_open (d := D41) rfl rfl ?_
  unfold D41
  have k0 := k h (List.prefix_refl _)
  cases pg with
  | noted r ms =>
    simp only [wpSs, wpS, wpE, wpEs, wpCs, wpP, wpPs, List.map, List.replicate, List.cons_append, List.nil_append, List.append_nil, List.getElem?_cons_zero, List.getElem?_cons_succ, jn, ws_some, List.length_cons, List.length_nil, List.set, at0, at1, at2, idx_tup, c_gt, c_lt, c_le, c_ge, c_is, c_isnt, c_eqI, c_neI, c_eqS, c_neS, c_eqB, c_neB, isS, isNonD, isBlD, t_bl, b_int, b_abs, b_max2, b_min2, b_lenT, o_add, o_sub, permD, Option.map_some, pgD, notedS, decide_true, if_true]
    refine mean_spec (N := N + 1) okb okp.row (by have := okp.len; simp only [Pg.row] at this; omega) fun h' p' => ?_
    rw [eq_row]
    exact k h' p'
  | not_ r =>
    simp only [wpSs, wpS, wpE, wpEs, wpCs, wpP, wpPs, List.map, List.replicate, List.cons_append, List.nil_append, List.append_nil, List.getElem?_cons_zero, List.getElem?_cons_succ, jn, ws_some, List.length_cons, List.length_nil, List.set, at0, at1, at2, idx_tup, c_gt, c_lt, c_le, c_ge, c_is, c_isnt, c_eqI, c_neI, c_eqS, c_neS, c_eqB, c_neB, isS, isNonD, isBlD, t_bl, b_int, b_abs, b_max2, b_min2, b_lenT, o_add, o_sub, permD, Option.map_some, pgD, notS, show decide ([110, 111, 116] = [110, 111, 116, 101, 100]) = false from by decide, Bool.false_eq_true, if_false]
    refine heard_spec (N := N) ok okb okp.row ?_
    refine ⟨by simp, ?_⟩
    simp only [wpSs, wpS, wpE, wpEs, wpCs, wpP, wpPs, List.map, List.replicate, List.cons_append, List.nil_append, List.append_nil, List.getElem?_cons_zero, List.getElem?_cons_succ, jn, ws_some, List.length_cons, List.length_nil, List.set, at0, at1, at2, idx_tup, c_gt, c_lt, c_le, c_ge, c_is, c_isnt, c_eqI, c_neI, c_eqS, c_neS, c_eqB, c_neB, isS, isNonD, isBlD, t_bl, b_int, b_abs, b_max2, b_min2, b_lenT, o_add, o_sub, permD, Option.map_some, decide_true, if_true, eq_hno]
    exact k0
  | so r =>
    simp only [wpSs, wpS, wpE, wpEs, wpCs, wpP, wpPs, List.map, List.replicate, List.cons_append, List.nil_append, List.append_nil, List.getElem?_cons_zero, List.getElem?_cons_succ, jn, ws_some, List.length_cons, List.length_nil, List.set, at0, at1, at2, idx_tup, c_gt, c_lt, c_le, c_ge, c_is, c_isnt, c_eqI, c_neI, c_eqS, c_neS, c_eqB, c_neB, isS, isNonD, isBlD, t_bl, b_int, b_abs, b_max2, b_min2, b_lenT, o_add, o_sub, permD, Option.map_some, pgD, soS, show decide ([115, 111] = [110, 111, 116, 101, 100]) = false from by decide, Bool.false_eq_true, if_false]
    refine heard_spec (N := N) ok okb okp.row ?_
    refine ⟨by simp, ?_⟩
    simp only [wpSs, wpS, wpE, wpEs, wpCs, wpP, wpPs, List.map, List.replicate, List.cons_append, List.nil_append, List.append_nil, List.getElem?_cons_zero, List.getElem?_cons_succ, jn, ws_some, List.length_cons, List.length_nil, List.set, at0, at1, at2, idx_tup, c_gt, c_lt, c_le, c_ge, c_is, c_isnt, c_eqI, c_neI, c_eqS, c_neS, c_eqB, c_neB, isS, isNonD, isBlD, t_bl, b_int, b_abs, b_max2, b_min2, b_lenT, o_add, o_sub, permD, Option.map_some, show decide ([115, 111] = [110, 111, 116]) = false from by decide, Bool.false_eq_true, if_false, decide_true, if_true, ne_hno]
    exact k0
  | amid r =>
    simp only [wpSs, wpS, wpE, wpEs, wpCs, wpP, wpPs, List.map, List.replicate, List.cons_append, List.nil_append, List.append_nil, List.getElem?_cons_zero, List.getElem?_cons_succ, jn, ws_some, List.length_cons, List.length_nil, List.set, at0, at1, at2, idx_tup, c_gt, c_lt, c_le, c_ge, c_is, c_isnt, c_eqI, c_neI, c_eqS, c_neS, c_eqB, c_neB, isS, isNonD, isBlD, t_bl, b_int, b_abs, b_max2, b_min2, b_lenT, o_add, o_sub, permD, Option.map_some, pgD, amidS, show decide ([97, 109, 105, 100] = [110, 111, 116, 101, 100]) = false from by decide, Bool.false_eq_true, if_false]
    refine heard_spec (N := N) ok okb okp.row ?_
    refine ⟨by simp, ?_⟩
    simp only [wpSs, wpS, wpE, wpEs, wpCs, wpP, wpPs, List.map, List.replicate, List.cons_append, List.nil_append, List.append_nil, List.getElem?_cons_zero, List.getElem?_cons_succ, jn, ws_some, List.length_cons, List.length_nil, List.set, at0, at1, at2, idx_tup, c_gt, c_lt, c_le, c_ge, c_is, c_isnt, c_eqI, c_neI, c_eqS, c_neS, c_eqB, c_neB, isS, isNonD, isBlD, t_bl, b_int, b_abs, b_max2, b_min2, b_lenT, o_add, o_sub, permD, Option.map_some, show decide ([97, 109, 105, 100] = [110, 111, 116]) = false from by decide, show decide ([97, 109, 105, 100] = [115, 111]) = false from by decide, Bool.false_eq_true, if_false, decide_true, if_true, eq_hamid]
    exact k0
  | did r =>
    simp only [wpSs, wpS, wpE, wpEs, wpCs, wpP, wpPs, List.map, List.replicate, List.cons_append, List.nil_append, List.append_nil, List.getElem?_cons_zero, List.getElem?_cons_succ, jn, ws_some, List.length_cons, List.length_nil, List.set, at0, at1, at2, idx_tup, c_gt, c_lt, c_le, c_ge, c_is, c_isnt, c_eqI, c_neI, c_eqS, c_neS, c_eqB, c_neB, isS, isNonD, isBlD, t_bl, b_int, b_abs, b_max2, b_min2, b_lenT, o_add, o_sub, permD, Option.map_some, pgD, didS, show decide ([100, 105, 100] = [110, 111, 116, 101, 100]) = false from by decide, Bool.false_eq_true, if_false]
    refine heard_spec (N := N) ok okb okp.row ?_
    refine ⟨by simp, ?_⟩
    simp only [wpSs, wpS, wpE, wpEs, wpCs, wpP, wpPs, List.map, List.replicate, List.cons_append, List.nil_append, List.append_nil, List.getElem?_cons_zero, List.getElem?_cons_succ, jn, ws_some, List.length_cons, List.length_nil, List.set, at0, at1, at2, idx_tup, c_gt, c_lt, c_le, c_ge, c_is, c_isnt, c_eqI, c_neI, c_eqS, c_neS, c_eqB, c_neB, isS, isNonD, isBlD, t_bl, b_int, b_abs, b_max2, b_min2, b_lenT, o_add, o_sub, permD, Option.map_some, show decide ([100, 105, 100] = [110, 111, 116]) = false from by decide, show decide ([100, 105, 100] = [115, 111]) = false from by decide, show decide ([100, 105, 100] = [97, 109, 105, 100]) = false from by decide, Bool.false_eq_true, if_false, decide_true, if_true, isi_hd]
    simp only [holdsF] at k0
    cases hx : heard W bk r with
    | told l => rw [hx] at k0; simpa [isTold] using k0
    | no => rw [hx] at k0; simpa [isTold] using k0
    | amid => rw [hx] at k0; simpa [isTold] using k0
  | told r qn v =>
    simp only [wpSs, wpS, wpE, wpEs, wpCs, wpP, wpPs, List.map, List.replicate, List.cons_append, List.nil_append, List.append_nil, List.getElem?_cons_zero, List.getElem?_cons_succ, jn, ws_some, List.length_cons, List.length_nil, List.set, at0, at1, at2, idx_tup, c_gt, c_lt, c_le, c_ge, c_is, c_isnt, c_eqI, c_neI, c_eqS, c_neS, c_eqB, c_neB, isS, isNonD, isBlD, t_bl, b_int, b_abs, b_max2, b_min2, b_lenT, o_add, o_sub, permD, Option.map_some, pgD, toldS, show decide ([116, 111, 108, 100] = [110, 111, 116, 101, 100]) = false from by decide, Bool.false_eq_true, if_false]
    refine heard_spec (N := N) ok okb okp.row ?_
    refine ⟨by simp, ?_⟩
    simp only [wpSs, wpS, wpE, wpEs, wpCs, wpP, wpPs, List.map, List.replicate, List.cons_append, List.nil_append, List.append_nil, List.getElem?_cons_zero, List.getElem?_cons_succ, jn, ws_some, List.length_cons, List.length_nil, List.set, at0, at1, at2, idx_tup, c_gt, c_lt, c_le, c_ge, c_is, c_isnt, c_eqI, c_neI, c_eqS, c_neS, c_eqB, c_neB, isS, isNonD, isBlD, t_bl, b_int, b_abs, b_max2, b_min2, b_lenT, o_add, o_sub, permD, Option.map_some, show decide ([116, 111, 108, 100] = [110, 111, 116]) = false from by decide, show decide ([116, 111, 108, 100] = [115, 111]) = false from by decide, show decide ([116, 111, 108, 100] = [97, 109, 105, 100]) = false from by decide, show decide ([116, 111, 108, 100] = [100, 105, 100]) = false from by decide, Bool.false_eq_true, if_false, decide_true, if_true, isi_hd]
    simp only [holdsF] at k0
    cases hx : heard W bk r with
    | told l =>
      rw [hx] at k0
      have hq := heard_q ok hx
      have hqn := okp.qn r qn v rfl
      have a3 : atI [D.str [116, 111, 108, 100], rowD r, D.int (qn : Int), D.int v] 3 = some (.int v) := at_nat (n := 3) rfl
      have al : atI (l.map D.int) (qn : Int) = some (.int (l.getD qn 0)) := at_nat (by rw [List.getElem?_map, List.getElem?_eq_getElem (by omega), List.getD_eq_getElem?_getD, List.getElem?_eq_getElem (by omega)]; rfl)
      simp only [isTold, hdD, Bool.not_true, Bool.false_eq_true, if_false, wpSs, wpS, wpE, wpEs, wpCs, wpP, wpPs, List.map, List.replicate, List.cons_append, List.nil_append, List.append_nil, List.getElem?_cons_zero, List.getElem?_cons_succ, jn, ws_some, List.length_cons, List.length_nil, List.set, at0, at1, at2, idx_tup, c_gt, c_lt, c_le, c_ge, c_is, c_isnt, c_eqI, c_neI, c_eqS, c_neS, c_eqB, c_neB, isS, isNonD, isBlD, t_bl, b_int, b_abs, b_max2, b_min2, b_lenT, o_add, o_sub, permD, Option.map_some, al, a3]
      exact k0
    | no => rw [hx] at k0; simpa [isTold] using k0
    | amid => rw [hx] at k0; simpa [isTold] using k0
end M67

end
section
set_option Elab.async false
set_option linter.all false
set_option autoImplicit false
/-! the law's own look at pages; worths -/
namespace M67
open M
theorem holds2_spec {W : World} {n m q words : Nat} (ok : OKW W n m q) {bk : List Nat} (okb : OKB m words bk) {pg : Pg} (okp : OKP words q pg) {N : Nat} {h : Hm} {Q : VQ} {E : XP} (k : ∀ h', h <+: h' → Q (.bl (holdsF W bk pg)) h') : FW P (N + 3) 54 [worldD W, bookD bk, pgD pg] h Q E := by
  refine fw_open (d := D54) rfl rfl ?_
  unfold D54
  have k0 := k h (List.prefix_refl _)
  cases pg with
  | noted r ms =>
    have hr := okp.row
    have hl := okp.len
    simp only [Pg.row] at hr hl
    simp only [wpSs, wpS, wpE, wpEs, wpCs, wpP, wpPs, List.map, List.replicate, List.cons_append, List.nil_append, List.append_nil, List.getElem?_cons_zero, List.getElem?_cons_succ, jn, ws_some, List.length_cons, List.length_nil, List.set, at0, at1, at2, idx_tup, c_gt, c_lt, c_le, c_ge, c_is, c_isnt, c_eqI, c_neI, c_eqS, c_neS, c_eqB, c_neB, isS, isNonD, isBlD, t_bl, b_int, b_abs, b_max2, b_min2, b_lenT, o_add, o_sub, permD, Option.map_some, pgD, notedS, decide_true, if_true, rowD, it_tup]
    refine comp_new (kf bk) still_nil (by rw [List.length_map]; unfold LIM; omega) (fun x hx h R p kk => ?_) fun h1 p1 e1 => ?_
    · obtain ⟨w, hw, rfl⟩ := List.mem_map.mp hx
      have := kk h (List.prefix_refl _)
      simp only [kf, Int.toNat_natCast] at this
      simp only [wpSs, wpS, wpE, wpEs, wpCs, wpP, wpPs, List.map, List.replicate, List.cons_append, List.nil_append, List.append_nil, List.getElem?_cons_zero, List.getElem?_cons_succ, jn, ws_some, List.length_cons, List.length_nil, List.set, at0, at1, at2, idx_tup, c_gt, c_lt, c_le, c_ge, c_is, c_isnt, c_eqI, c_neI, c_eqS, c_neS, c_eqB, c_neB, isS, isNonD, isBlD, t_bl, b_int, b_abs, b_max2, b_min2, b_lenT, o_add, o_sub, permD, Option.map_some, wipeE]
      refine ⟨by simp, ?_⟩
      have hg := gt_nat0 (h := h) (k := bk.getD w 0)
      rw [c_gt] at hg
      have hg := Option.some.inj hg
      simp only [(book_at okb (hr w hw) (h := h)).1, ws_some, c_gt, hg]
      cases hd : decide (bk.getD w 0 ≠ 0) with
      | true => simp only [hd, if_true] at this ⊢; exact this
      | false => simp only [hd, Bool.false_eq_true, if_false] at this ⊢; exact this
    · rw [mean_fm] at e1
      rw [b_tupleL e1]
      simp only [ws_some]
      have := eq_row (h := h1) (meanF bk r) ms
      simp only [rowD] at this
      rw [this]
      exact k h1 p1
  | not_ r =>
    simp only [wpSs, wpS, wpE, wpEs, wpCs, wpP, wpPs, List.map, List.replicate, List.cons_append, List.nil_append, List.append_nil, List.getElem?_cons_zero, List.getElem?_cons_succ, jn, ws_some, List.length_cons, List.length_nil, List.set, at0, at1, at2, idx_tup, c_gt, c_lt, c_le, c_ge, c_is, c_isnt, c_eqI, c_neI, c_eqS, c_neS, c_eqB, c_neB, isS, isNonD, isBlD, t_bl, b_int, b_abs, b_max2, b_min2, b_lenT, o_add, o_sub, permD, Option.map_some, pgD, notS, show decide ([110, 111, 116] = [110, 111, 116, 101, 100]) = false from by decide, Bool.false_eq_true, if_false]
    refine heard2_spec (N := N) ok okb okp.row ?_
    refine ⟨by simp, ?_⟩
    simp only [wpSs, wpS, wpE, wpEs, wpCs, wpP, wpPs, List.map, List.replicate, List.cons_append, List.nil_append, List.append_nil, List.getElem?_cons_zero, List.getElem?_cons_succ, jn, ws_some, List.length_cons, List.length_nil, List.set, at0, at1, at2, idx_tup, c_gt, c_lt, c_le, c_ge, c_is, c_isnt, c_eqI, c_neI, c_eqS, c_neS, c_eqB, c_neB, isS, isNonD, isBlD, t_bl, b_int, b_abs, b_max2, b_min2, b_lenT, o_add, o_sub, permD, Option.map_some, isin_str, decide_true, Bool.true_or, if_true, eq_hno]
    exact k0
  | so r =>
    simp only [wpSs, wpS, wpE, wpEs, wpCs, wpP, wpPs, List.map, List.replicate, List.cons_append, List.nil_append, List.append_nil, List.getElem?_cons_zero, List.getElem?_cons_succ, jn, ws_some, List.length_cons, List.length_nil, List.set, at0, at1, at2, idx_tup, c_gt, c_lt, c_le, c_ge, c_is, c_isnt, c_eqI, c_neI, c_eqS, c_neS, c_eqB, c_neB, isS, isNonD, isBlD, t_bl, b_int, b_abs, b_max2, b_min2, b_lenT, o_add, o_sub, permD, Option.map_some, pgD, soS, show decide ([115, 111] = [110, 111, 116, 101, 100]) = false from by decide, Bool.false_eq_true, if_false]
    refine heard2_spec (N := N) ok okb okp.row ?_
    refine ⟨by simp, ?_⟩
    simp only [wpSs, wpS, wpE, wpEs, wpCs, wpP, wpPs, List.map, List.replicate, List.cons_append, List.nil_append, List.append_nil, List.getElem?_cons_zero, List.getElem?_cons_succ, jn, ws_some, List.length_cons, List.length_nil, List.set, at0, at1, at2, idx_tup, c_gt, c_lt, c_le, c_ge, c_is, c_isnt, c_eqI, c_neI, c_eqS, c_neS, c_eqB, c_neB, isS, isNonD, isBlD, t_bl, b_int, b_abs, b_max2, b_min2, b_lenT, o_add, o_sub, permD, Option.map_some, isin_str, show (decide ([110, 111, 116] = [115, 111]) || decide ([97, 109, 105, 100] = [115, 111])) = false from by decide, Bool.false_eq_true, if_false, decide_true, if_true, ne_hno]
    exact k0
  | amid r =>
    simp only [wpSs, wpS, wpE, wpEs, wpCs, wpP, wpPs, List.map, List.replicate, List.cons_append, List.nil_append, List.append_nil, List.getElem?_cons_zero, List.getElem?_cons_succ, jn, ws_some, List.length_cons, List.length_nil, List.set, at0, at1, at2, idx_tup, c_gt, c_lt, c_le, c_ge, c_is, c_isnt, c_eqI, c_neI, c_eqS, c_neS, c_eqB, c_neB, isS, isNonD, isBlD, t_bl, b_int, b_abs, b_max2, b_min2, b_lenT, o_add, o_sub, permD, Option.map_some, pgD, amidS, show decide ([97, 109, 105, 100] = [110, 111, 116, 101, 100]) = false from by decide, Bool.false_eq_true, if_false]
    refine heard2_spec (N := N) ok okb okp.row ?_
    refine ⟨by simp, ?_⟩
    simp only [wpSs, wpS, wpE, wpEs, wpCs, wpP, wpPs, List.map, List.replicate, List.cons_append, List.nil_append, List.append_nil, List.getElem?_cons_zero, List.getElem?_cons_succ, jn, ws_some, List.length_cons, List.length_nil, List.set, at0, at1, at2, idx_tup, c_gt, c_lt, c_le, c_ge, c_is, c_isnt, c_eqI, c_neI, c_eqS, c_neS, c_eqB, c_neB, isS, isNonD, isBlD, t_bl, b_int, b_abs, b_max2, b_min2, b_lenT, o_add, o_sub, permD, Option.map_some, isin_str, decide_true, Bool.or_true, if_true, show decide ([97, 109, 105, 100] = [110, 111, 116]) = false from by decide, Bool.false_eq_true, if_false, eq_hamid]
    exact k0
  | did r =>
    simp only [wpSs, wpS, wpE, wpEs, wpCs, wpP, wpPs, List.map, List.replicate, List.cons_append, List.nil_append, List.append_nil, List.getElem?_cons_zero, List.getElem?_cons_succ, jn, ws_some, List.length_cons, List.length_nil, List.set, at0, at1, at2, idx_tup, c_gt, c_lt, c_le, c_ge, c_is, c_isnt, c_eqI, c_neI, c_eqS, c_neS, c_eqB, c_neB, isS, isNonD, isBlD, t_bl, b_int, b_abs, b_max2, b_min2, b_lenT, o_add, o_sub, permD, Option.map_some, pgD, didS, show decide ([100, 105, 100] = [110, 111, 116, 101, 100]) = false from by decide, Bool.false_eq_true, if_false]
    refine heard2_spec (N := N) ok okb okp.row ?_
    refine ⟨by simp, ?_⟩
    simp only [wpSs, wpS, wpE, wpEs, wpCs, wpP, wpPs, List.map, List.replicate, List.cons_append, List.nil_append, List.append_nil, List.getElem?_cons_zero, List.getElem?_cons_succ, jn, ws_some, List.length_cons, List.length_nil, List.set, at0, at1, at2, idx_tup, c_gt, c_lt, c_le, c_ge, c_is, c_isnt, c_eqI, c_neI, c_eqS, c_neS, c_eqB, c_neB, isS, isNonD, isBlD, t_bl, b_int, b_abs, b_max2, b_min2, b_lenT, o_add, o_sub, permD, Option.map_some, isin_str, show (decide ([110, 111, 116] = [100, 105, 100]) || decide ([97, 109, 105, 100] = [100, 105, 100])) = false from by decide, show decide ([100, 105, 100] = [115, 111]) = false from by decide, Bool.false_eq_true, if_false, decide_true, if_true, notin_na]
    simp only [holdsF] at k0
    cases hx : heard W bk r with
    | told l => rw [hx] at k0; simpa [isTold] using k0
    | no => rw [hx] at k0; simpa [isTold] using k0
    | amid => rw [hx] at k0; simpa [isTold] using k0
  | told r qn v =>
    simp only [wpSs, wpS, wpE, wpEs, wpCs, wpP, wpPs, List.map, List.replicate, List.cons_append, List.nil_append, List.append_nil, List.getElem?_cons_zero, List.getElem?_cons_succ, jn, ws_some, List.length_cons, List.length_nil, List.set, at0, at1, at2, idx_tup, c_gt, c_lt, c_le, c_ge, c_is, c_isnt, c_eqI, c_neI, c_eqS, c_neS, c_eqB, c_neB, isS, isNonD, isBlD, t_bl, b_int, b_abs, b_max2, b_min2, b_lenT, o_add, o_sub, permD, Option.map_some, pgD, toldS, show decide ([116, 111, 108, 100] = [110, 111, 116, 101, 100]) = false from by decide, Bool.false_eq_true, if_false]
    refine heard2_spec (N := N) ok okb okp.row ?_
    refine ⟨by simp, ?_⟩
    simp only [wpSs, wpS, wpE, wpEs, wpCs, wpP, wpPs, List.map, List.replicate, List.cons_append, List.nil_append, List.append_nil, List.getElem?_cons_zero, List.getElem?_cons_succ, jn, ws_some, List.length_cons, List.length_nil, List.set, at0, at1, at2, idx_tup, c_gt, c_lt, c_le, c_ge, c_is, c_isnt, c_eqI, c_neI, c_eqS, c_neS, c_eqB, c_neB, isS, isNonD, isBlD, t_bl, b_int, b_abs, b_max2, b_min2, b_lenT, o_add, o_sub, permD, Option.map_some, isin_str, show (decide ([110, 111, 116] = [116, 111, 108, 100]) || decide ([97, 109, 105, 100] = [116, 111, 108, 100])) = false from by decide, show decide ([116, 111, 108, 100] = [115, 111]) = false from by decide, show decide ([116, 111, 108, 100] = [100, 105, 100]) = false from by decide, Bool.false_eq_true, if_false, decide_true, if_true, notin_na]
    simp only [holdsF] at k0
    cases hx : heard W bk r with
    | told l =>
      rw [hx] at k0
      have hq := heard_q ok hx
      have hqn := okp.qn r qn v rfl
      have a3 : atI [D.str [116, 111, 108, 100], rowD r, D.int (qn : Int), D.int v] 3 = some (.int v) := at_nat (n := 3) rfl
      have al : atI (l.map D.int) (qn : Int) = some (.int (l.getD qn 0)) := at_nat (by rw [List.getElem?_map, List.getElem?_eq_getElem (by omega), List.getD_eq_getElem?_getD, List.getElem?_eq_getElem (by omega)]; rfl)
      simp only [isTold, hdD, if_true, wpSs, wpS, wpE, wpEs, wpCs, wpP, wpPs, List.map, List.replicate, List.cons_append, List.nil_append, List.append_nil, List.getElem?_cons_zero, List.getElem?_cons_succ, jn, ws_some, List.length_cons, List.length_nil, List.set, at0, at1, at2, idx_tup, c_gt, c_lt, c_le, c_ge, c_is, c_isnt, c_eqI, c_neI, c_eqS, c_neS, c_eqB, c_neB, isS, isNonD, isBlD, t_bl, b_int, b_abs, b_max2, b_min2, b_lenT, o_add, o_sub, permD, Option.map_some, al, a3]
      exact k0
    | no => rw [hx] at k0; simpa [isTold] using k0
    | amid => rw [hx] at k0; simpa [isTold] using k0
inductive Ask where
  | word (w : Nat)
  | row (r : List Nat) (qn : Nat)
def wordS : List Nat := [119, 111, 114, 100]
def rowS : List Nat := [114, 111, 119]
def answerS : List Nat := [97, 110, 115, 119, 101, 114]
def askD : Ask → D
  | .word w => .tup [.str wordS, .int w]
  | .row r qn => .tup [.str rowS, rowD r, .int qn]
structure OKA (words q : Nat) (a : Ask) : Prop where
  word : ∀ w, a = .word w → w < words
  row : ∀ r k, a = .row r k → (∀ w ∈ r, w < words) ∧ k < q
def worthD (W : World) (bk : List Nat) : Ask → D
  | .word w => .int ((bk.getD w 0 : Nat) : Int)
  | .row r k => match heard W bk r with
    | .no => .tup [.str noS]
    | .amid => .tup [.str amidS]
    | .told l => .tup [.str answerS, .int (l.getD k 0)]
theorem told_spec {W : World} {n m q words : Nat} (ok : OKW W n m q) {bk : List Nat} (okb : OKB m words bk) {a : Ask} (oka : OKA words q a) {N : Nat} {h : Hm} {Q : VQ} {E : XP} (k : Q (worthD W bk a) h) : FW P (N + 3) 42 [worldD W, bookD bk, askD a] h Q E := by
  refine fw_open (d := D42) rfl rfl ?_
  unfold D42
  cases a with
  | word w =>
    simp only [wpSs, wpS, wpE, wpEs, wpCs, wpP, wpPs, List.map, List.replicate, List.cons_append, List.nil_append, List.append_nil, List.getElem?_cons_zero, List.getElem?_cons_succ, jn, ws_some, List.length_cons, List.length_nil, List.set, at0, at1, at2, idx_tup, c_gt, c_lt, c_le, c_ge, c_is, c_isnt, c_eqI, c_neI, c_eqS, c_neS, c_eqB, c_neB, isS, isNonD, isBlD, t_bl, b_int, b_abs, b_max2, b_min2, b_lenT, o_add, o_sub, permD, Option.map_some, askD, wordS, decide_true, if_true, (book_at okb (oka.word w rfl) (h := h)).1]
    exact k
  | row r qn =>
    obtain ⟨hr, hqn⟩ := oka.row r qn rfl
    simp only [wpSs, wpS, wpE, wpEs, wpCs, wpP, wpPs, List.map, List.replicate, List.cons_append, List.nil_append, List.append_nil, List.getElem?_cons_zero, List.getElem?_cons_succ, jn, ws_some, List.length_cons, List.length_nil, List.set, at0, at1, at2, idx_tup, c_gt, c_lt, c_le, c_ge, c_is, c_isnt, c_eqI, c_neI, c_eqS, c_neS, c_eqB, c_neB, isS, isNonD, isBlD, t_bl, b_int, b_abs, b_max2, b_min2, b_lenT, o_add, o_sub, permD, Option.map_some, askD, rowS, show decide ([114, 111, 119] = [119, 111, 114, 100]) = false from by decide, Bool.false_eq_true, if_false]
    refine heard_spec (N := N) ok okb hr ?_
    refine ⟨by simp, ?_⟩
    simp only [wpSs, wpS, wpE, wpEs, wpCs, wpP, wpPs, List.map, List.replicate, List.cons_append, List.nil_append, List.append_nil, List.getElem?_cons_zero, List.getElem?_cons_succ, jn, ws_some, List.length_cons, List.length_nil, List.set, at0, at1, at2, idx_tup, c_gt, c_lt, c_le, c_ge, c_is, c_isnt, c_eqI, c_neI, c_eqS, c_neS, c_eqB, c_neB, isS, isNonD, isBlD, t_bl, b_int, b_abs, b_max2, b_min2, b_lenT, o_add, o_sub, permD, Option.map_some, isin_na]
    simp only [worthD] at k
    cases hx : heard W bk r with
    | told l =>
      rw [hx] at k
      have hq := heard_q ok hx
      have al : atI (l.map D.int) (qn : Int) = some (.int (l.getD qn 0)) := at_nat (by rw [List.getElem?_map, List.getElem?_eq_getElem (by omega), List.getD_eq_getElem?_getD, List.getElem?_eq_getElem (by omega)]; rfl)
      simp only [isTold, hdD, Bool.not_true, Bool.false_eq_true, if_false, wpSs, wpS, wpE, wpEs, wpCs, wpP, wpPs, List.map, List.replicate, List.cons_append, List.nil_append, List.append_nil, List.getElem?_cons_zero, List.getElem?_cons_succ, jn, ws_some, List.length_cons, List.length_nil, List.set, at0, at1, at2, idx_tup, c_gt, c_lt, c_le, c_ge, c_is, c_isnt, c_eqI, c_neI, c_eqS, c_neS, c_eqB, c_neB, isS, isNonD, isBlD, t_bl, b_int, b_abs, b_max2, b_min2, b_lenT, o_add, o_sub, permD, Option.map_some, al]
      exact k
    | no => rw [hx] at k; simpa [isTold, hdD, noS] using k
    | amid => rw [hx] at k; simpa [isTold, hdD, amidS] using k
theorem worth_spec {W : World} {n m q words : Nat} (ok : OKW W n m q) {bk : List Nat} (okb : OKB m words bk) {a : Ask} (oka : OKA words q a) {N : Nat} {h : Hm} {Q : VQ} {E : XP} (k : Q (worthD W bk a) h) : FW P (N + 3) 62 [worldD W, bookD bk, askD a] h Q E := by
  refine fw_open (d := D62) rfl rfl ?_
  unfold D62
  cases a with
  | word w =>
    simp only [wpSs, wpS, wpE, wpEs, wpCs, wpP, wpPs, List.map, List.replicate, List.cons_append, List.nil_append, List.append_nil, List.getElem?_cons_zero, List.getElem?_cons_succ, jn, ws_some, List.length_cons, List.length_nil, List.set, at0, at1, at2, idx_tup, c_gt, c_lt, c_le, c_ge, c_is, c_isnt, c_eqI, c_neI, c_eqS, c_neS, c_eqB, c_neB, isS, isNonD, isBlD, t_bl, b_int, b_abs, b_max2, b_min2, b_lenT, o_add, o_sub, permD, Option.map_some, askD, wordS, decide_true, if_true, (book_at okb (oka.word w rfl) (h := h)).1]
    exact k
  | row r qn =>
    obtain ⟨hr, hqn⟩ := oka.row r qn rfl
    simp only [wpSs, wpS, wpE, wpEs, wpCs, wpP, wpPs, List.map, List.replicate, List.cons_append, List.nil_append, List.append_nil, List.getElem?_cons_zero, List.getElem?_cons_succ, jn, ws_some, List.length_cons, List.length_nil, List.set, at0, at1, at2, idx_tup, c_gt, c_lt, c_le, c_ge, c_is, c_isnt, c_eqI, c_neI, c_eqS, c_neS, c_eqB, c_neB, isS, isNonD, isBlD, t_bl, b_int, b_abs, b_max2, b_min2, b_lenT, o_add, o_sub, permD, Option.map_some, askD, rowS, show decide ([114, 111, 119] = [119, 111, 114, 100]) = false from by decide, Bool.false_eq_true, if_false]
    refine board_spec (N := N + 1) ok okb (f := 52) rfl hr ?_
    refine fw_open (d := D61) rfl rfl ?_
    unfold D61
    simp only [wpSs, wpS, wpE, wpEs, wpCs, wpP, wpPs, List.map, List.replicate, List.cons_append, List.nil_append, List.append_nil, List.getElem?_cons_zero, List.getElem?_cons_succ, jn, ws_some, List.length_cons, List.length_nil, List.set, at0, at1, at2, idx_tup, c_gt, c_lt, c_le, c_ge, c_is, c_isnt, c_eqI, c_neI, c_eqS, c_neS, c_eqB, c_neB, isS, isNonD, isBlD, t_bl, b_int, b_abs, b_max2, b_min2, b_lenT, o_add, o_sub, permD, Option.map_some]
    simp only [worthD, heard] at k
    have hlt := boardF_lt ok (bk := bk) r (some 0) (fun x hx => by cases hx; exact ok.n1)
    cases hb : boardF W bk r (some 0) with
    | none =>
      rw [hb] at k
      simp only [optD, if_true]
      exact k
    | some b =>
      rw [hb] at k hlt
      have hlt := hlt b rfl
      simp only [optD, wpSs, wpS, wpE, wpEs, wpCs, wpP, wpPs, List.map, List.replicate, List.cons_append, List.nil_append, List.append_nil, List.getElem?_cons_zero, List.getElem?_cons_succ, jn, ws_some, List.length_cons, List.length_nil, List.set, at0, at1, at2, idx_tup, c_gt, c_lt, c_le, c_ge, c_is, c_isnt, c_eqI, c_neI, c_eqS, c_neS, c_eqB, c_neB, isS, isNonD, isBlD, t_bl, b_int, b_abs, b_max2, b_min2, b_lenT, o_add, o_sub, permD, Option.map_some, Bool.false_eq_true, if_false, w_at1, ends_at ok hlt]
      cases he : W.ends.getD b false with
      | true =>
        obtain ⟨l, e1, e2, e3⟩ := ans_at ok hlt he (h := h)
        have al : atI (l.map D.int) (qn : Int) = some (.int (l.getD qn 0)) := at_nat (by rw [List.getElem?_map, List.getElem?_eq_getElem (by omega), List.getD_eq_getElem?_getD, List.getElem?_eq_getElem (by omega)]; rfl)
        simp only [if_true, w_at2, e1, wpSs, wpS, wpE, wpEs, wpCs, wpP, wpPs, List.map, List.replicate, List.cons_append, List.nil_append, List.append_nil, List.getElem?_cons_zero, List.getElem?_cons_succ, jn, ws_some, List.length_cons, List.length_nil, List.set, at0, at1, at2, idx_tup, c_gt, c_lt, c_le, c_ge, c_is, c_isnt, c_eqI, c_neI, c_eqS, c_neS, c_eqB, c_neB, isS, isNonD, isBlD, t_bl, b_int, b_abs, b_max2, b_min2, b_lenT, o_add, o_sub, permD, Option.map_some, al]
        simp only [hdOf, he, if_true, e3] at k
        exact k
      | false =>
        simp only [Bool.false_eq_true, if_false, wpSs, wpS, wpE, wpEs, wpCs, wpP, wpPs, List.map, List.replicate, List.cons_append, List.nil_append, List.append_nil, List.getElem?_cons_zero, List.getElem?_cons_succ, jn, ws_some, List.length_cons, List.length_nil, List.set, at0, at1, at2, idx_tup, c_gt, c_lt, c_le, c_ge, c_is, c_isnt, c_eqI, c_neI, c_eqS, c_neS, c_eqB, c_neB, isS, isNonD, isBlD, t_bl, b_int, b_abs, b_max2, b_min2, b_lenT, o_add, o_sub, permD, Option.map_some]
        simp only [hdOf, he, Bool.false_eq_true, if_false] at k
        exact k
theorem worth_pure (W : World) (bk : List Nat) (a : Ask) : pureD (worthD W bk a) = true ∧ dep (worthD W bk a) ≤ 1 := by
  cases a with
  | word w => exact ⟨rfl, Nat.zero_le _⟩
  | row r k =>
    simp only [worthD]
    cases heard W bk r with
    | told l => exact ⟨rfl, by simp [dep, deps]⟩
    | no => exact ⟨rfl, by simp [dep, deps]⟩
    | amid => exact ⟨rfl, by simp [dep, deps]⟩
theorem ne_worth {W : World} {a : Ask} {x y : List Nat} {h : Hm} : cmpS .ne (worthD W x a) (worthD W y a) h = some (!eqD (worthD W x a) (worthD W y a)) := by
  have : eqv h (worthD W x a) (worthD W y a) = some (eqD (worthD W x a) (worthD W y a)) := eqv_pure (worth_pure W x a).1 (worth_pure W y a).1 (.inl (by have := (worth_pure W x a).2; omega))
  simp only [cmpS, this]
  rfl
end M67

end
section
set_option Elab.async false
set_option linter.all false
set_option autoImplicit false
/-! whether a value is a book that fits -/
namespace M67
open M
def isTupN (n : Int) : D → Bool
  | .tup xs => decide ((xs.length : Int) = n)
  | _ => false
theorem tupN_spec {N : Nat} {h : Hm} {d : D} {n : Int} {Q : VQ} {E : XP} (ok : okR h d) (q : Q (.bl (isTupN n d)) h) : FW P (N + 1) 3 [d, .int n] h Q E := by
  refine fw_open (d := D3) rfl rfl ?_
  unfold D3
  simp only [wpSs, wpS, wpE, wpEs, wpCs, wpP, wpPs, List.map, List.replicate, List.cons_append, List.nil_append, List.append_nil, List.getElem?_cons_zero, List.getElem?_cons_succ, jn, ws_some, List.length_cons, List.length_nil, List.set, at0, at1, at2, idx_tup, c_gt, c_lt, c_le, c_ge, c_is, c_isnt, c_eqI, c_neI, c_eqS, c_neS, c_eqB, c_neB, isS, isNonD, isBlD, t_bl, b_int, b_abs, b_max2, b_min2, b_lenT, o_add, o_sub, permD, Option.map_some, isi_ok ok]
  cases d with
  | tup xs =>
    simp only [kindB, decide_true, if_true, wpSs, wpS, wpE, wpEs, wpCs, wpP, wpPs, List.map, List.replicate, List.cons_append, List.nil_append, List.append_nil, List.getElem?_cons_zero, List.getElem?_cons_succ, jn, ws_some, List.length_cons, List.length_nil, List.set, at0, at1, at2, idx_tup, c_gt, c_lt, c_le, c_ge, c_is, c_isnt, c_eqI, c_neI, c_eqS, c_neS, c_eqB, c_neB, isS, isNonD, isBlD, t_bl, b_int, b_abs, b_max2, b_min2, b_lenT, o_add, o_sub, permD, Option.map_some]
    exact q
  | _ => simpa [kindB, isTupN] using q
def mannerD (free : Bool) : D := .str (if free = true then [102, 114, 101, 101] else [117, 110, 108, 105, 107, 101])
def hiM (m : Nat) : Option Int := some ((m : Int) - 1)
def isBkD (m words : Nat) : D → Bool
  | .tup xs => decide (xs.length = words) && xs.all (numB 0 (hiM m))
  | _ => false
def natD : D → Nat
  | .int i => i.toNat
  | _ => 0
def bkV : D → List Nat
  | .tup xs => xs.map natD
  | _ => []
theorem bk_of {m words : Nat} {v : D} (h : isBkD m words v = true) : v = bookD (bkV v) ∧ OKB m words (bkV v) := by
  unfold isBkD at h
  split at h
  · rename_i xs
    rw [Bool.and_eq_true, decide_eq_true_eq, List.all_eq_true] at h
    obtain ⟨hl, ha⟩ := h
    have e : ∀ x ∈ xs, x = .int ((natD x : Nat) : Int) ∧ natD x < m := fun x hx => by
      have := ha x hx
      cases x with
      | int i =>
        simp only [numB, hiM, Bool.and_eq_true, decide_eq_true_eq] at this
        simp only [natD]
        constructor
        · rw [Int.toNat_of_nonneg this.1]
        · omega
      | _ => simp [numB] at this
    constructor
    · simp only [bkV, bookD, List.map_map]
      congr 1
      conv => lhs; rw [← List.map_id xs]
      refine List.map_congr_left fun x hx => ?_
      exact (e x hx).1
    · exact ⟨by simp only [bkV, List.length_map]; exact hl, fun k hk => by
        obtain ⟨x, hx, rfl⟩ := List.mem_map.mp hk
        exact (e x hx).2⟩
  · cases h
theorem bkV_book (bk : List Nat) : bkV (bookD bk) = bk := by
  simp only [bookD, bkV, List.map_map]
  conv => rhs; rw [← List.map_id bk]
  refine List.map_congr_left fun k _ => ?_
  simp [natD]
theorem isBk_book {m words : Nat} {bk : List Nat} (ok : OKB m words bk) : isBkD m words (bookD bk) = true := by
  unfold isBkD bookD
  rw [Bool.and_eq_true, decide_eq_true_eq, List.all_eq_true]
  refine ⟨by rw [List.length_map]; exact ok.len, fun x hx => ?_⟩
  obtain ⟨k, hk, rfl⟩ := List.mem_map.mp hx
  have := ok.lt k hk
  simp only [numB, hiM, Bool.and_eq_true, decide_eq_true_eq]
  omega
def namedF (bk : List Nat) : List Int := (bk.filter fun k => decide (k ≠ 0)).map fun (k : Nat) => (k : Int)
def dis (bk : List Nat) : Bool := decide ((namedF bk).length = ((namedF bk).foldl uq []).length)
def nf : D → Option D
  | .int i => if decide (i.toNat ≠ 0) = true then some (.int i) else none
  | _ => none
theorem named_fm (bk : List Nat) : (bk.map fun (k : Nat) => D.int (k : Int)).filterMap nf = (namedF bk).map D.int := by
  rw [filterMap_map]
  unfold namedF
  rw [List.map_map]
  exact filterMap_if (fun k => decide (k ≠ 0)) (fun (k : Nat) => D.int (k : Int)) bk
theorem namedF_len (bk : List Nat) : (namedF bk).length ≤ bk.length := by
  unfold namedF
  rw [List.length_map]
  exact List.length_filter_le _ _
theorem kinds_spec {W : World} {n m q : Nat} (ok : OKW W n m q) {N : Nat} {h : Hm} {Q : VQ} {E : XP} (k : Q (.int m) h) : FW P (N + 1) 37 [worldD W] h Q E := by
  refine fw_open (d := D37) rfl rfl ?_
  unfold D37
  have h0 : 0 < W.steps.length := by rw [ok.ls]; exact ok.n1
  have e0 : idxS (stepsD W.steps) (.int 0) h = some (stepD W.steps[0]) := by
    unfold stepsD
    rw [idx_tup]
    exact at_nat (n := 0) (by rw [List.getElem?_map, List.getElem?_eq_getElem h0]; rfl)
  simp only [wpSs, wpS, wpE, wpEs, wpCs, wpP, wpPs, List.map, List.replicate, List.cons_append, List.nil_append, List.append_nil, List.getElem?_cons_zero, List.getElem?_cons_succ, jn, ws_some, List.length_cons, List.length_nil, List.set, at0, at1, at2, idx_tup, c_gt, c_lt, c_le, c_ge, c_is, c_isnt, c_eqI, c_neI, c_eqS, c_neS, c_eqB, c_neB, isS, isNonD, isBlD, t_bl, b_int, b_abs, b_max2, b_min2, b_lenT, o_add, o_sub, permD, Option.map_some, w_at0, e0]
  unfold stepD
  rw [b_lenT, List.length_map, (ok.row _ (List.getElem_mem h0)).1]
  exact k
theorem isbook_spec {W : World} {n m q words : Nat} (ok : OKW W n m q) {free : Bool} {v : D} {K N : Nat} {h : Hm} {Q : VQ} {E : XP} (hv : VA h 101 K v) (k : ∀ h', h <+: h' → Q (.bl (isBkD m words v && (free || dis (bkV v)))) h') : FW P (N + 4) 43 [worldD W, .tup [.int words, mannerD free], v] h Q E := by
  refine fw_open (d := D43) rfl rfl ?_
  unfold D43
  simp only [wpSs, wpS, wpE, wpEs, wpCs, wpP, wpPs, List.map, List.replicate, List.cons_append, List.nil_append, List.append_nil, List.getElem?_cons_zero, List.getElem?_cons_succ, jn, ws_some, List.length_cons, List.length_nil, List.set, at0, at1, at2, idx_tup, c_gt, c_lt, c_le, c_ge, c_is, c_isnt, c_eqI, c_neI, c_eqS, c_neS, c_eqB, c_neB, isS, isNonD, isBlD, t_bl, b_int, b_abs, b_max2, b_min2, b_lenT, o_add, o_sub, permD, Option.map_some]
  refine tupN_spec (N := N + 2) hv.ok ?_
  simp only [ws_some, t_bl]
  by_cases ct : isTupN (words : Int) v = true
  · cases v with
    | tup xs =>
      have hlen : xs.length = words := by
        simp only [isTupN, decide_eq_true_eq] at ct
        omega
      obtain ⟨K, rfl⟩ : ∃ K', K = K' + 1 := by
        cases K with
        | zero => exact hv.elim
        | succ K => exact ⟨K, rfl⟩
      simp only [ct, Bool.not_true, Bool.false_eq_true, if_false, it_tup, ws_some]
      refine comp_new (fun x => some (.bl (numB 0 (hiM m) x))) still_nil (by have := hv.1; unfold LIM; omega) (fun x hx h1 R p1 kk => ?_) fun h1 p1 e1 => ?_
      · simp only [wpSs, wpS, wpE, wpEs, wpCs, wpP, wpPs, List.map, List.replicate, List.cons_append, List.nil_append, List.append_nil, List.getElem?_cons_zero, List.getElem?_cons_succ, jn, ws_some, List.length_cons, List.length_nil, List.set, at0, at1, at2, idx_tup, c_gt, c_lt, c_le, c_ge, c_is, c_isnt, c_eqI, c_neI, c_eqS, c_neS, c_eqB, c_neB, isS, isNonD, isBlD, t_bl, b_int, b_abs, b_max2, b_min2, b_lenT, o_add, o_sub, permD, Option.map_some, wipeE]
        refine ⟨by simp, ?_⟩
        refine kinds_spec (N := N + 2) ok ?_
        simp only [o_sub, ws_some]
        exact num_spec (n := N + 1) (hi := hiM m) (okR_pre p1 x (hv.2 x hx).ok) (kk h1 (List.prefix_refl _))
      · rw [filterMap_some, show xs.map (fun x => D.bl (numB 0 (hiM m) x)) = (xs.map (numB 0 (hiM m))).map D.bl from by rw [List.map_map]; rfl] at e1
        rw [b_all e1]
        simp only [ws_some, t_bl, List.all_map]
        by_cases ca : xs.all (numB 0 (hiM m)) = true
        · have ca' : xs.all (id ∘ numB 0 (hiM m)) = true := ca
          have hbk : isBkD m words (.tup xs) = true := by simp [isBkD, hlen, ca]
          obtain ⟨eb, okb⟩ := bk_of hbk
          have k2 : ∀ h', h <+: h' → Q (.bl (free || dis (bkV (.tup xs)))) h' := fun h' p' => by
            have := k h' p'
            rw [hbk, Bool.true_and] at this
            exact this
          generalize hgb : bkV (.tup xs) = bk at eb okb k2
          simp only [ca', Bool.not_true, Bool.false_eq_true, if_false]
          have hbl : bk.length ≤ 101 := by rw [okb.len, ← hlen]; exact hv.1
          simp only [bookD, D.tup.injEq] at eb
          subst eb
          refine comp_new nf still_nil (by rw [List.length_map]; unfold LIM; omega) (fun x hx h2 R p2 kk => ?_) fun h2 p2 e2 => ?_
          · obtain ⟨w, _, rfl⟩ := List.mem_map.mp hx
            have := kk h2 (List.prefix_refl _)
            simp only [nf, Int.toNat_natCast] at this
            have hn := ne_nat0 (h := h2) (k := w)
            rw [c_neI] at hn
            have hn := Option.some.inj hn
            simp only [wpSs, wpS, wpE, wpEs, wpCs, wpP, wpPs, List.map, List.replicate, List.cons_append, List.nil_append, List.append_nil, List.getElem?_cons_zero, List.getElem?_cons_succ, jn, ws_some, List.length_cons, List.length_nil, List.set, at0, at1, at2, idx_tup, c_gt, c_lt, c_le, c_ge, c_is, c_isnt, c_eqI, c_neI, c_eqS, c_neS, c_eqB, c_neB, isS, isNonD, isBlD, t_bl, b_int, b_abs, b_max2, b_min2, b_lenT, o_add, o_sub, permD, Option.map_some, wipeE]
            refine ⟨by simp, ?_⟩
            simp only [wpSs, wpS, wpE, wpEs, wpCs, wpP, wpPs, List.map, List.replicate, List.cons_append, List.nil_append, List.append_nil, List.getElem?_cons_zero, List.getElem?_cons_succ, jn, ws_some, List.length_cons, List.length_nil, List.set, at0, at1, at2, idx_tup, c_gt, c_lt, c_le, c_ge, c_is, c_isnt, c_eqI, c_neI, c_eqS, c_neS, c_eqB, c_neB, isS, isNonD, isBlD, t_bl, b_int, b_abs, b_max2, b_min2, b_lenT, o_add, o_sub, permD, Option.map_some, hn]
            cases hd : decide (w ≠ 0) with
            | true => simp only [hd, if_true] at this ⊢; exact this
            | false => simp only [hd, Bool.false_eq_true, if_false] at this ⊢; exact this
          · rw [named_fm] at e2
            refine ⟨by simp, ?_⟩
            have p12 := p1.trans p2
            have hne : cmpS .ne (mannerD free) (.str [117, 110, 108, 105, 107, 101]) h2 = some free := by
              unfold mannerD
              rw [c_neS]
              cases free <;> decide
            rw [hne]
            simp only [ws_some, t_bl]
            cases free with
            | true =>
              simp only [if_true]
              have := k2 h2 p12
              simpa using this
            | false =>
              simp only [Bool.false_eq_true, if_false]
              rw [b_lenL e2]
              simp only [ws_some]
              rw [it_lst e2]
              simp only [ws_some, List.length_map]
              have hnl := namedF_len bk
              refine dcomp_new (fun x => (x, .bl true)) (still_one e2) (by rw [List.length_map]; unfold LIM; omega) (fun x hx => ?_) (fun x hx h3 R p3 kk => ?_) fun h3 kvs p3 e3 e4 => ?_
              · obtain ⟨w, _, rfl⟩ := List.mem_map.mp hx
                rfl
              · simp only [wpSs, wpS, wpE, wpEs, wpCs, wpP, wpPs, List.map, List.replicate, List.cons_append, List.nil_append, List.append_nil, List.getElem?_cons_zero, List.getElem?_cons_succ, jn, ws_some, List.length_cons, List.length_nil, List.set, at0, at1, at2, idx_tup, c_gt, c_lt, c_le, c_ge, c_is, c_isnt, c_eqI, c_neI, c_eqS, c_neS, c_eqB, c_neB, isS, isNonD, isBlD, t_bl, b_int, b_abs, b_max2, b_min2, b_lenT, o_add, o_sub, permD, Option.map_some, wipeE, if_true]
                exact ⟨by simp, kk _ (List.prefix_refl _)⟩
              · rw [b_lenD e4]
                simp only [ws_some, c_eqI]
                have e5 : kvs.length = ((namedF bk).foldl uq []).length := by
                  rw [← List.length_map (f := (·.1)), e3]
                  have := dk_ints (namedF bk) []
                  simp only [List.map_nil] at this
                  rw [show (((namedF bk).map D.int).map fun x => ((x, D.bl true) : D × D).1) = (namedF bk).map D.int from by rw [List.map_map]; rfl, this, List.length_map]
                have := k2 h3 (p12.trans p3)
                unfold dis at this
                rw [e5]
                have e6 : decide (((namedF bk).length : Int) = ((((namedF bk).foldl uq []).length : Nat) : Int)) = decide ((namedF bk).length = ((namedF bk).foldl uq []).length) := by
                  rw [decide_eq_decide]; omega
                rw [e6]
                simpa using this
        · rw [Bool.not_eq_true] at ca
          have ca' : xs.all (id ∘ numB 0 (hiM m)) = false := ca
          simp only [ca', Bool.not_false, if_true]
          have := k h1 p1
          have hbk : isBkD m words (.tup xs) = false := by simp [isBkD, ca]
          rw [hbk, Bool.false_and] at this
          exact this
    | _ => simp [isTupN] at ct
  · rw [Bool.not_eq_true] at ct
    simp only [ct, Bool.not_false, if_true]
    have := k h (List.prefix_refl _)
    have hbk : isBkD m words v = false := by
      cases v with
      | tup xs =>
        simp only [isTupN, decide_eq_false_iff_not] at ct
        have : ¬ xs.length = words := by omega
        simp [isBkD, this]
      | _ => rfl
    rw [hbk, Bool.false_and] at this
    exact this
def pagesD (ps : List Pg) : D := .tup (ps.map pgD)
theorem fits_spec {W : World} {n m q words : Nat} (ok : OKW W n m q) {bk : List Nat} (okb : OKB m words bk) {ps : List Pg} (okp : ∀ p ∈ ps, OKP words q p) (hl : ps.length ≤ 100) {N : Nat} {h : Hm} {Q : VQ} {E : XP} (k : ∀ h', h <+: h' → Q (.bl (ps.all (holdsF W bk))) h') : FW P (N + 4) 44 [worldD W, pagesD ps, bookD bk] h Q E := by
  refine fw_open (d := D44) rfl rfl ?_
  unfold D44
  simp only [wpSs, wpS, wpE, wpEs, wpCs, wpP, wpPs, List.map, List.replicate, List.cons_append, List.nil_append, List.append_nil, List.getElem?_cons_zero, List.getElem?_cons_succ, jn, ws_some, List.length_cons, List.length_nil, List.set, at0, at1, at2, idx_tup, c_gt, c_lt, c_le, c_ge, c_is, c_isnt, c_eqI, c_neI, c_eqS, c_neS, c_eqB, c_neB, isS, isNonD, isBlD, t_bl, b_int, b_abs, b_max2, b_min2, b_lenT, o_add, o_sub, permD, Option.map_some, pagesD, it_tup]
  have hcomp : ∀ (Q' : Hm → Prop) (step : D → Hm → (Option D → Hm → Prop) → Prop), (∀ p ∈ ps, ∀ (h1 : Hm) (R : Option D → Hm → Prop), h <+: h1 → (∀ h', h1 <+: h' → R (some (.bl (holdsF W bk p))) h') → step (pgD p) h1 R) → (∀ h', h <+: h' → h'[h.length]? = some (.lst ((ps.map (holdsF W bk)).map D.bl)) → Q' h') → compL [] h.length step Q' (ps.map pgD) (h ++ [.lst []]) := fun Q' step hs hq => by
    refine comp_inv (fun l acc hh => ∃ done rest, ps = done ++ rest ∧ l = rest.map pgD ∧ acc = (done.map (holdsF W bk)).map D.bl ∧ h <+: hh ∧ hh[h.length]? = some (.lst acc))
      (fun _ _ _ _ => still_nil) (fun x l acc hh R' hi k1 k2 => ?_) (fun acc hh hi => ?_) _ _ _ ⟨[], ps, rfl, rfl, rfl, pre_one, last_at⟩
    · obtain ⟨done, rest, hp, hx, rfl, pp, ca⟩ := hi
      cases rest with
      | nil => cases hx
      | cons p rest =>
        rw [List.map_cons] at hx
        cases hx
        refine hs p (by rw [hp]; simp) hh _ pp fun h' p' => ?_
        have ca' := pre_at p' ca
        refine k1 _ h' ca' (by
          rw [List.length_map, List.length_map]
          have := congrArg List.length hp
          rw [List.length_append] at this
          unfold LIM; omega) ⟨done ++ [p], rest, by rw [hp]; simp, rfl, by simp, pre_set (pp.trans p') (Nat.le_refl _) _, set_at ca'⟩
    · obtain ⟨done, rest, hp, hx, rfl, pp, ca⟩ := hi
      have hr0 : rest = [] := List.map_eq_nil_iff.mp hx.symm
      subst hr0
      rw [List.append_nil] at hp
      rw [← hp] at ca
      exact hq hh pp ca
  refine hcomp _ _ (fun p hp h1 R p1 kk => ?_) fun h1 p1 e1 => ?_
  · simp only [wpSs, wpS, wpE, wpEs, wpCs, wpP, wpPs, List.map, List.replicate, List.cons_append, List.nil_append, List.append_nil, List.getElem?_cons_zero, List.getElem?_cons_succ, jn, ws_some, List.length_cons, List.length_nil, List.set, at0, at1, at2, idx_tup, c_gt, c_lt, c_le, c_ge, c_is, c_isnt, c_eqI, c_neI, c_eqS, c_neS, c_eqB, c_neB, isS, isNonD, isBlD, t_bl, b_int, b_abs, b_max2, b_min2, b_lenT, o_add, o_sub, permD, Option.map_some, wipeE]
    refine ⟨by simp, ?_⟩
    simp only [wpSs, wpS, wpE, wpEs, wpCs, wpP, wpPs, List.map, List.replicate, List.cons_append, List.nil_append, List.append_nil, List.getElem?_cons_zero, List.getElem?_cons_succ, jn, ws_some, List.length_cons, List.length_nil, List.set, at0, at1, at2, idx_tup, c_gt, c_lt, c_le, c_ge, c_is, c_isnt, c_eqI, c_neI, c_eqS, c_neS, c_eqB, c_neB, isS, isNonD, isBlD, t_bl, b_int, b_abs, b_max2, b_min2, b_lenT, o_add, o_sub, permD, Option.map_some, if_true]
    exact holds_spec (N := N) ok okb (okp p hp) fun h' p' => kk h' p'
  · rw [b_all e1]
    have := k h1 p1
    rw [List.all_map]
    exact this
def fitV (W : World) (m words : Nat) (free : Bool) (ps : List Pg) (v : D) : Bool := (isBkD m words v && (free || dis (bkV v))) && ps.all (holdsF W (bkV v))
theorem fitting_spec {W : World} {n m q words : Nat} (ok : OKW W n m q) {free : Bool} {ps : List Pg} (okp : ∀ p ∈ ps, OKP words q p) (hl : ps.length ≤ 100) {v : D} {K N : Nat} {h : Hm} {Q : VQ} {E : XP} (hv : VA h 101 K v) (k : ∀ h', h <+: h' → Q (.bl (fitV W m words free ps v)) h') : FW P (N + 5) 45 [worldD W, .tup [.int words, mannerD free], pagesD ps, v] h Q E := by
  refine fw_open (d := D45) rfl rfl ?_
  unfold D45
  simp only [wpSs, wpS, wpE, wpEs, wpCs, wpP, wpPs, List.map, List.replicate, List.cons_append, List.nil_append, List.append_nil, List.getElem?_cons_zero, List.getElem?_cons_succ, jn, ws_some, List.length_cons, List.length_nil, List.set, at0, at1, at2, idx_tup, c_gt, c_lt, c_le, c_ge, c_is, c_isnt, c_eqI, c_neI, c_eqS, c_neS, c_eqB, c_neB, isS, isNonD, isBlD, t_bl, b_int, b_abs, b_max2, b_min2, b_lenT, o_add, o_sub, permD, Option.map_some]
  refine isbook_spec (N := N) ok hv fun h1 p1 => ?_
  simp only [ws_some, t_bl]
  by_cases c : (isBkD m words v && (free || dis (bkV v))) = true
  · simp only [c, if_true]
    have hb := (Bool.and_eq_true_iff.mp c).1
    obtain ⟨eb, okb⟩ := bk_of hb
    have k : ∀ h', h <+: h' → Q (.bl (ps.all (holdsF W (bkV v)))) h' := fun h' p' => by
      have := k h' p'
      unfold fitV at this
      rw [c, Bool.true_and] at this
      exact this
    rw [eb]
    exact fits_spec (N := N) ok okb okp hl fun h2 p2 => k h2 (p1.trans p2)
  · rw [Bool.not_eq_true] at c
    simp only [c, Bool.false_eq_true, if_false]
    have := k h1 p1
    unfold fitV at this
    rw [c, Bool.false_and] at this
    exact this
end M67

end
section
set_option Elab.async false
set_option linter.all false
set_option autoImplicit false
/-! the law's own look at a value; two books that fit -/
namespace M67
open M
theorem comp_enc {α : Type} {g : List (Nat × Cell)} {h0 : Hm} {step : D → Hm → (Option D → Hm → Prop) → Prop} {Q : Hm → Prop} (enc : α → D) (f : α → Option D) (st : still g h0) {xs : List α} (hl : xs.length ≤ LIM)
    (hs : ∀ x ∈ xs, ∀ (h : Hm) (R : Option D → Hm → Prop), h0 <+: h → (∀ h', h <+: h' → R (f x) h') → step (enc x) h R) (q : ∀ h', h0 <+: h' → h'[h0.length]? = some (.lst (xs.filterMap f)) → Q h') : compL g h0.length step Q (xs.map enc) (h0 ++ [.lst []]) := by
  refine comp_inv (fun l acc hh => ∃ done rest, xs = done ++ rest ∧ l = rest.map enc ∧ acc = done.filterMap f ∧ h0 <+: hh ∧ hh[h0.length]? = some (.lst acc))
    (fun l acc hh ⟨_, _, _, _, _, pp, _⟩ => still_pre st pp) (fun x l acc hh R' hi k1 k2 => ?_) (fun acc hh hi => ?_) _ _ _ ⟨[], xs, rfl, rfl, rfl, pre_one, last_at⟩
  · obtain ⟨done, rest, hp, hx, rfl, pp, ca⟩ := hi
    cases rest with
    | nil => cases hx
    | cons p rest =>
      rw [List.map_cons] at hx
      cases hx
      refine hs p (by rw [hp]; simp) hh _ pp fun h' p' => ?_
      have ca' := pre_at p' ca
      cases hf : f p with
      | none => exact k2 h' ⟨done ++ [p], rest, by rw [hp]; simp, rfl, by rw [List.filterMap_append]; simp [hf], pp.trans p', ca'⟩
      | some y =>
        refine k1 _ h' ca' (by
          have h1 := List.length_filterMap_le f done
          have := congrArg List.length hp
          rw [List.length_append, List.length_cons] at this
          omega) ⟨done ++ [p], rest, by rw [hp]; simp, rfl, by rw [List.filterMap_append]; simp [hf], pre_set (pp.trans p') (Nat.le_refl _) _, set_at ca'⟩
  · obtain ⟨done, rest, hp, hx, rfl, pp, ca⟩ := hi
    have hr0 : rest = [] := List.map_eq_nil_iff.mp hx.symm
    subst hr0
    rw [List.append_nil] at hp
    rw [← hp] at ca
    exact q hh pp ca
theorem eq_empty {h : Hm} {a b : Nat} {is : List Int} (e1 : h[a]? = some (.lst (is.map D.int))) (e2 : h[b]? = some (.lst [])) : cmpS .eq (.ref a) (.ref b) h = some (decide (is = [])) := eq_ints (js := []) e1 e2
/-- one for each that is not so -/
def notF {α : Type} (p : α → Bool) (x : α) : Option D := if (!p x) = true then some (.int 1) else none
theorem not_fm {α : Type} (p : α → Bool) (xs : List α) : xs.filterMap (notF p) = ((xs.filter fun x => !p x).map fun _ => (1 : Int)).map D.int := by
  rw [List.map_map]
  exact filterMap_if (fun x => !p x) (fun _ => D.int 1) xs
theorem not_nil {α : Type} (p : α → Bool) (xs : List α) : decide (((xs.filter fun x => !p x).map fun _ => (1 : Int)) = []) = xs.all p := by
  rw [Bool.eq_iff_iff, decide_eq_true_eq, List.map_eq_nil_iff, List.filter_eq_nil_iff, List.all_eq_true]
  refine forall_congr' fun x => forall_congr' fun _ => ?_
  cases p x <;> simp
theorem len0 {W : World} {n m q : Nat} (ok : OKW W n m q) {h : Hm} : ∃ rd, idxS (stepsD W.steps) (.int 0) h = some (.tup rd) ∧ rd.length = m := by
  have h0 : 0 < W.steps.length := by rw [ok.ls]; exact ok.n1
  refine ⟨W.steps[0].map optD, ?_, by rw [List.length_map, (ok.row _ (List.getElem_mem h0)).1]⟩
  unfold stepsD
  rw [idx_tup]
  exact at_nat (n := 0) (by rw [List.getElem?_map, List.getElem?_eq_getElem h0]; rfl)
theorem fitting2_spec {W : World} {n m q words : Nat} (ok : OKW W n m q) {free : Bool} {ps : List Pg} (okp : ∀ p ∈ ps, OKP words q p) (hl : ps.length ≤ 100) {v : D} {K N : Nat} {h : Hm} {Q : VQ} {E : XP} (hv : VA h 101 K v) (k : ∀ h', h <+: h' → Q (.bl (fitV W m words free ps v)) h') : FW P (N + 5) 63 [worldD W, .int words, mannerD free, pagesD ps, v] h Q E := by
  refine fw_open (d := D63) rfl rfl ?_
  unfold D63
  have no : ∀ h', h <+: h' → isBkD m words v = false → Q (.bl false) h' := fun h' p' e => by
    have := k h' p'
    unfold fitV at this
    rw [e, Bool.false_and, Bool.false_and] at this
    exact this
  simp only [wpSs, wpS, wpE, wpEs, wpCs, wpP, wpPs, List.map, List.replicate, List.cons_append, List.nil_append, List.append_nil, List.getElem?_cons_zero, List.getElem?_cons_succ, jn, ws_some, List.length_cons, List.length_nil, List.set, at0, at1, at2, idx_tup, c_gt, c_lt, c_le, c_ge, c_is, c_isnt, c_eqI, c_neI, c_eqS, c_neS, c_eqB, c_neB, isS, isNonD, isBlD, t_bl, b_int, b_abs, b_max2, b_min2, b_lenT, o_add, o_sub, permD, Option.map_some, isi_ok hv.ok]
  cases v with
  | tup xs =>
    obtain ⟨K, rfl⟩ : ∃ K', K = K' + 1 := by
      cases K with
      | zero => exact hv.elim
      | succ K => exact ⟨K, rfl⟩
    simp only [kindB, decide_true, Bool.not_true, Bool.false_eq_true, if_false, wpSs, wpS, wpE, wpEs, wpCs, wpP, wpPs, List.map, List.replicate, List.cons_append, List.nil_append, List.append_nil, List.getElem?_cons_zero, List.getElem?_cons_succ, jn, ws_some, List.length_cons, List.length_nil, List.set, at0, at1, at2, idx_tup, c_gt, c_lt, c_le, c_ge, c_is, c_isnt, c_eqI, c_neI, c_eqS, c_neS, c_eqB, c_neB, isS, isNonD, isBlD, t_bl, b_int, b_abs, b_max2, b_min2, b_lenT, o_add, o_sub, permD, Option.map_some, it_tup]
    by_cases cl : (xs.length : Int) = (words : Int)
    · have hlen : xs.length = words := by omega
      simp only [cl, decide_true, Bool.not_true, Bool.false_eq_true, if_false]
      refine comp_new (notF (numB 0 (hiM m))) still_nil (by have := hv.1; unfold LIM; omega) (fun x hx h1 R p1 kk => ?_) fun h1 p1 e1 => ?_
      · have kk := kk h1 (List.prefix_refl _)
        unfold notF at kk
        refine ⟨by simp [wipeE], ?_⟩
        obtain ⟨rd, r1, r2⟩ := len0 ok (h := h1)
        simp only [wpSs, wpS, wpE, wpEs, wpCs, wpP, wpPs, List.map, List.replicate, List.cons_append, List.nil_append, List.append_nil, List.getElem?_cons_zero, List.getElem?_cons_succ, jn, ws_some, List.length_cons, List.length_nil, List.set, at0, at1, at2, idx_tup, c_gt, c_lt, c_le, c_ge, c_is, c_isnt, c_eqI, c_neI, c_eqS, c_neS, c_eqB, c_neB, isS, isNonD, isBlD, t_bl, b_int, b_abs, b_max2, b_min2, b_lenT, o_add, o_sub, permD, Option.map_some, wipeE, w_at0, r1, r2]
        refine num2_spec (n := N + 3) (hi := hiM m) (okR_pre p1 x (hv.2 x hx).ok) ?_
        simp only [wpSs, wpS, wpE, wpEs, wpCs, wpP, wpPs, List.map, List.replicate, List.cons_append, List.nil_append, List.append_nil, List.getElem?_cons_zero, List.getElem?_cons_succ, jn, ws_some, List.length_cons, List.length_nil, List.set, at0, at1, at2, idx_tup, c_gt, c_lt, c_le, c_ge, c_is, c_isnt, c_eqI, c_neI, c_eqS, c_neS, c_eqB, c_neB, isS, isNonD, isBlD, t_bl, b_int, b_abs, b_max2, b_min2, b_lenT, o_add, o_sub, permD, Option.map_some]
        cases hb : numB 0 (hiM m) x with
        | true => rw [hb] at kk; simpa using kk
        | false => rw [hb] at kk; simpa using kk
      · rw [not_fm] at e1
        rw [ne_empty (pre_at pre_one e1) last_at]
        simp only [ws_some, not_nil]
        by_cases ca : xs.all (numB 0 (hiM m)) = true
        · have hbk : isBkD m words (.tup xs) = true := by simp [isBkD, hlen, ca]
          obtain ⟨eb, okb⟩ := bk_of hbk
          have k2 : ∀ h', h <+: h' → Q (.bl ((free || dis (bkV (.tup xs))) && ps.all (holdsF W (bkV (.tup xs))))) h' := fun h' p' => by
            have := k h' p'
            unfold fitV at this
            rw [hbk, Bool.true_and] at this
            exact this
          generalize hgb : bkV (.tup xs) = bk at eb okb k2
          simp only [ca, Bool.not_true, Bool.false_eq_true, if_false]
          have hbl : bk.length ≤ 101 := by rw [okb.len, ← hlen]; exact hv.1
          simp only [bookD, D.tup.injEq] at eb
          subst eb
          have p2 : h <+: h1 ++ [.lst []] := p1.trans pre_one
          generalize h1 ++ [Cell.lst []] = h2 at p2
          refine comp_enc (xs := bk) (fun (k : Nat) => D.int (k : Int)) (fun (k : Nat) => nf (.int (k : Int))) still_nil (by unfold LIM; omega) (fun w hw h3 R p3 kk => ?_) fun h3 p3 e3 => ?_
          · have := kk h3 (List.prefix_refl _)
            simp only [nf, Int.toNat_natCast] at this
            have hn := gt_nat0 (h := h3) (k := w)
            rw [c_gt] at hn
            have hn := Option.some.inj hn
            simp only [wpSs, wpS, wpE, wpEs, wpCs, wpP, wpPs, List.map, List.replicate, List.cons_append, List.nil_append, List.append_nil, List.getElem?_cons_zero, List.getElem?_cons_succ, jn, ws_some, List.length_cons, List.length_nil, List.set, at0, at1, at2, idx_tup, c_gt, c_lt, c_le, c_ge, c_is, c_isnt, c_eqI, c_neI, c_eqS, c_neS, c_eqB, c_neB, isS, isNonD, isBlD, t_bl, b_int, b_abs, b_max2, b_min2, b_lenT, o_add, o_sub, permD, Option.map_some, wipeE]
            refine ⟨by simp, ?_⟩
            simp only [wpSs, wpS, wpE, wpEs, wpCs, wpP, wpPs, List.map, List.replicate, List.cons_append, List.nil_append, List.append_nil, List.getElem?_cons_zero, List.getElem?_cons_succ, jn, ws_some, List.length_cons, List.length_nil, List.set, at0, at1, at2, idx_tup, c_gt, c_lt, c_le, c_ge, c_is, c_isnt, c_eqI, c_neI, c_eqS, c_neS, c_eqB, c_neB, isS, isNonD, isBlD, t_bl, b_int, b_abs, b_max2, b_min2, b_lenT, o_add, o_sub, permD, Option.map_some, hn]
            cases hd : decide (w ≠ 0) with
            | true => simp only [hd, if_true] at this ⊢; exact this
            | false => simp only [hd, Bool.false_eq_true, if_false] at this ⊢; exact this
          · have enf : bk.filterMap (fun (k : Nat) => nf (.int (k : Int))) = (namedF bk).map D.int := by
              rw [← named_fm, filterMap_map]
            rw [enf] at e3
            refine ⟨by simp, ?_⟩
            have p23 := p2.trans p3
            have hne : cmpS .eq (mannerD free) (.str [102, 114, 101, 101]) h3 = some free := by
              unfold mannerD
              rw [c_eqS]
              cases free <;> decide
            rw [hne]
            simp only [ws_some, t_bl]
            have pagesOK : ∀ h4, h <+: h4 → (free || dis bk) = true → ∀ (step : D → Hm → (Option D → Hm → Prop) → Prop), (∀ p ∈ ps, ∀ (h5 : Hm) (R : Option D → Hm → Prop), h4 <+: h5 → (∀ h', h5 <+: h' → R (notF (holdsF W bk) p) h') → step (pgD p) h5 R) → compL [] h4.length step (fun h5 => ws (cmpS .eq (.ref h4.length) (.ref h5.length) (h5 ++ [.lst []])) fun k => Q (.bl k) (h5 ++ [.lst []])) (ps.map pgD) (h4 ++ [.lst []]) := fun h4 p4 hd step hs => by
              refine comp_enc (xs := ps) pgD (notF (holdsF W bk)) still_nil (by unfold LIM; omega) hs fun h5 p5 e5 => ?_
              rw [not_fm] at e5
              rw [eq_empty (pre_at pre_one e5) last_at]
              simp only [ws_some, not_nil]
              have := k2 (h5 ++ [.lst []]) (p4.trans (p5.trans pre_one))
              rw [hd, Bool.true_and] at this
              exact this
            cases free with
            | true =>
              simp only [if_true, ws_some, t_bl, pagesD, it_tup]
              refine pagesOK h3 p23 rfl _ fun p hp h5 R p5 kk => ?_
              simp only [wpSs, wpS, wpE, wpEs, wpCs, wpP, wpPs, List.map, List.replicate, List.cons_append, List.nil_append, List.append_nil, List.getElem?_cons_zero, List.getElem?_cons_succ, jn, ws_some, List.length_cons, List.length_nil, List.set, at0, at1, at2, idx_tup, c_gt, c_lt, c_le, c_ge, c_is, c_isnt, c_eqI, c_neI, c_eqS, c_neS, c_eqB, c_neB, isS, isNonD, isBlD, t_bl, b_int, b_abs, b_max2, b_min2, b_lenT, o_add, o_sub, permD, Option.map_some, wipeE]
              refine ⟨by simp, ?_⟩
              refine holds2_spec (N := N + 1) ok okb (okp p hp) fun h' p' => ?_
              have := kk h' p'
              unfold notF at this
              simp only [wpSs, wpS, wpE, wpEs, wpCs, wpP, wpPs, List.map, List.replicate, List.cons_append, List.nil_append, List.append_nil, List.getElem?_cons_zero, List.getElem?_cons_succ, jn, ws_some, List.length_cons, List.length_nil, List.set, at0, at1, at2, idx_tup, c_gt, c_lt, c_le, c_ge, c_is, c_isnt, c_eqI, c_neI, c_eqS, c_neS, c_eqB, c_neB, isS, isNonD, isBlD, t_bl, b_int, b_abs, b_max2, b_min2, b_lenT, o_add, o_sub, permD, Option.map_some]
              cases hb : holdsF W bk p with
              | true => rw [hb] at this; simpa using this
              | false => rw [hb] at this; simpa using this
            | false =>
              simp only [Bool.false_eq_true, if_false]
              rw [b_lenL e3]
              simp only [ws_some]
              rw [it_lst e3]
              simp only [ws_some, List.length_map]
              have hnl := namedF_len bk
              refine comp_enc (xs := namedF bk) D.int (fun i => some (.tup [.int i, .int 1])) (still_one e3) (by unfold LIM; omega) (fun w hw h4 R p4 kk => ?_) fun h4 p4 e4 => ?_
              · simp only [wpSs, wpS, wpE, wpEs, wpCs, wpP, wpPs, List.map, List.replicate, List.cons_append, List.nil_append, List.append_nil, List.getElem?_cons_zero, List.getElem?_cons_succ, jn, ws_some, List.length_cons, List.length_nil, List.set, at0, at1, at2, idx_tup, c_gt, c_lt, c_le, c_ge, c_is, c_isnt, c_eqI, c_neI, c_eqS, c_neS, c_eqB, c_neB, isS, isNonD, isBlD, t_bl, b_int, b_abs, b_max2, b_min2, b_lenT, o_add, o_sub, permD, Option.map_some, wipeE, if_true]
                exact ⟨by simp, kk _ (List.prefix_refl _)⟩
              · have e5 : (namedF bk).filterMap (fun i => some (D.tup [.int i, .int 1])) = ((namedF bk).map fun i => (D.int i, D.int 1)).map fun p => D.tup [p.1, p.2] := by
                  rw [filterMap_some, List.map_map]
                  rfl
                rw [e5] at e4
                obtain ⟨kvs, d1, d2⟩ := b_dictL e4 (by rw [List.length_map]; unfold LIM; omega) fun p hp => by
                  obtain ⟨r, _, rfl⟩ := List.mem_map.mp hp
                  rfl
                rw [d1]
                simp only [ws_some]
                rw [b_lenD last_at]
                simp only [ws_some, c_eqI]
                have e6 : kvs.length = ((namedF bk).foldl uq []).length := by
                  rw [← List.length_map (f := (·.1)), d2]
                  have := dk_ints (namedF bk) []
                  simp only [List.map_nil] at this
                  rw [show (((namedF bk).map fun i => (D.int i, D.int 1)).map (·.1)) = (namedF bk).map D.int from by rw [List.map_map]; rfl, this, List.length_map]
                have e7 : decide (((namedF bk).length : Int) = ((kvs.length : Nat) : Int)) = dis bk := by
                  unfold dis
                  rw [e6, decide_eq_decide]; omega
                rw [e7]
                have p34 : h <+: h4 ++ [.dct kvs] := p23.trans (p4.trans pre_one)
                cases hdis : dis bk with
                | true =>
                  simp only [if_true, pagesD, it_tup, ws_some, t_bl]
                  refine pagesOK _ p34 (by simp [hdis]) _ fun p hp h5 R p5 kk => ?_
                  simp only [wpSs, wpS, wpE, wpEs, wpCs, wpP, wpPs, List.map, List.replicate, List.cons_append, List.nil_append, List.append_nil, List.getElem?_cons_zero, List.getElem?_cons_succ, jn, ws_some, List.length_cons, List.length_nil, List.set, at0, at1, at2, idx_tup, c_gt, c_lt, c_le, c_ge, c_is, c_isnt, c_eqI, c_neI, c_eqS, c_neS, c_eqB, c_neB, isS, isNonD, isBlD, t_bl, b_int, b_abs, b_max2, b_min2, b_lenT, o_add, o_sub, permD, Option.map_some, wipeE]
                  refine ⟨by simp, ?_⟩
                  refine holds2_spec (N := N + 1) ok okb (okp p hp) fun h' p' => ?_
                  have := kk h' p'
                  unfold notF at this
                  simp only [wpSs, wpS, wpE, wpEs, wpCs, wpP, wpPs, List.map, List.replicate, List.cons_append, List.nil_append, List.append_nil, List.getElem?_cons_zero, List.getElem?_cons_succ, jn, ws_some, List.length_cons, List.length_nil, List.set, at0, at1, at2, idx_tup, c_gt, c_lt, c_le, c_ge, c_is, c_isnt, c_eqI, c_neI, c_eqS, c_neS, c_eqB, c_neB, isS, isNonD, isBlD, t_bl, b_int, b_abs, b_max2, b_min2, b_lenT, o_add, o_sub, permD, Option.map_some]
                  cases hb : holdsF W bk p with
                  | true => rw [hb] at this; simpa using this
                  | false => rw [hb] at this; simpa using this
                | false =>
                  simp only [Bool.false_eq_true, if_false, ws_some, t_bl]
                  have := k2 _ p34
                  rw [hdis] at this
                  exact this
        · rw [Bool.not_eq_true] at ca
          simp only [ca, Bool.not_false, if_true]
          refine no _ (p1.trans pre_one) ?_
          simp [isBkD, ca]
    · simp only [cl, decide_false, Bool.not_false, if_true]
      refine no h (List.prefix_refl _) ?_
      have : ¬ xs.length = words := by omega
      simp [isBkD, this]
  | _ =>
    simp only [kindB, Bool.not_false, if_true, decide_true, decide_false, reduceCtorEq, or_self, or_false]
    exact no h (List.prefix_refl _) rfl
end M67

end
section
set_option Elab.async false
set_option linter.all false
set_option autoImplicit false
/-! open_holds -/
namespace M67
open M
def openV (W : World) (m words : Nat) (free : Bool) (ps : List Pg) (ask : Ask) : D → Bool
  | .tup [a, b] => (fitV W m words free ps a && fitV W m words free ps b) && !eqD (worthD W (bkV a) ask) (worthD W (bkV b) ask)
  | _ => false
theorem fitV_book {W : World} {m words : Nat} {free : Bool} {ps : List Pg} {v : D} (h : fitV W m words free ps v = true) : v = bookD (bkV v) ∧ OKB m words (bkV v) := by
  unfold fitV at h
  rw [Bool.and_eq_true, Bool.and_eq_true] at h
  exact bk_of h.1.1
theorem open_spec {W : World} {n m q words : Nat} (ok : OKW W n m q) {free : Bool} {ps : List Pg} (okp : ∀ p ∈ ps, OKP words q p) (hl : ps.length ≤ 100) {ask : Ask} (oka : OKA words q ask) {v : D} {K N : Nat} {h : Hm} {Q : VQ} {E : XP} (hv : VA h 101 K v) (k : ∀ h', h <+: h' → Q (.bl (openV W m words free ps ask v)) h') : FW P (N + 6) 46 [worldD W, .tup [.int words, mannerD free], pagesD ps, askD ask, v] h Q E := by
  refine fw_open (d := D46) rfl rfl ?_
  unfold D46
  simp only [wpSs, wpS, wpE, wpEs, wpCs, wpP, wpPs, List.map, List.replicate, List.cons_append, List.nil_append, List.append_nil, List.getElem?_cons_zero, List.getElem?_cons_succ, jn, ws_some, List.length_cons, List.length_nil, List.set, at0, at1, at2, idx_tup, c_gt, c_lt, c_le, c_ge, c_is, c_isnt, c_eqI, c_neI, c_eqS, c_neS, c_eqB, c_neB, isS, isNonD, isBlD, t_bl, b_int, b_abs, b_max2, b_min2, b_lenT, o_add, o_sub, permD, Option.map_some]
  refine tupN_spec (N := N + 4) (n := 2) hv.ok ?_
  simp only [ws_some, t_bl]
  have no : isTupN 2 v = false → openV W m words free ps ask v = false := fun e => by
    unfold openV
    split
    · simp [isTupN] at e
    · rfl
  by_cases ct : isTupN 2 v = true
  · obtain ⟨a, b, rfl⟩ : ∃ a b, v = .tup [a, b] := by
      unfold isTupN at ct
      split at ct
      · rename_i xs
        rw [decide_eq_true_eq] at ct
        match xs, ct with
        | [a, b], _ => exact ⟨a, b, rfl⟩
        | [], c => exact absurd c (by decide)
        | [_], c => exact absurd c (show ¬ (((1 : Nat) : Int) = 2) by decide)
        | _ :: _ :: _ :: l, c => rw [List.length_cons, List.length_cons, List.length_cons] at c; omega
      · cases ct
    obtain ⟨K, rfl⟩ : ∃ K', K = K' + 1 := by
      cases K with
      | zero => exact hv.elim
      | succ K => exact ⟨K, rfl⟩
    simp only [ct, Bool.not_true, Bool.false_eq_true, if_false, it_tup, ws_some]
    refine comp_new (fun x => some (.bl (fitV W m words free ps x))) still_nil (by simp; unfold LIM; omega) (fun x hx h1 R p1 kk => ?_) fun h1 p1 e1 => ?_
    · simp only [wpSs, wpS, wpE, wpEs, wpCs, wpP, wpPs, List.map, List.replicate, List.cons_append, List.nil_append, List.append_nil, List.getElem?_cons_zero, List.getElem?_cons_succ, jn, ws_some, List.length_cons, List.length_nil, List.set, at0, at1, at2, idx_tup, c_gt, c_lt, c_le, c_ge, c_is, c_isnt, c_eqI, c_neI, c_eqS, c_neS, c_eqB, c_neB, isS, isNonD, isBlD, t_bl, b_int, b_abs, b_max2, b_min2, b_lenT, o_add, o_sub, permD, Option.map_some, wipeE]
      refine ⟨by simp, ?_⟩
      refine fitting_spec (N := N) (K := K) ok okp hl (VA.mono (Nat.le_refl _) (okR_pre p1) K K x (Nat.le_refl _) (hv.2 x hx)) fun h' p' => ?_
      exact kk h' p'
    · have e1' : h1[h.length]? = some (.lst ([fitV W m words free ps a, fitV W m words free ps b].map D.bl)) := e1
      rw [b_all e1']
      simp only [ws_some, t_bl, List.all_cons, List.all_nil, Bool.and_true, id]
      have k3 := k h1 p1
      simp only [openV] at k3
      cases hf : (fitV W m words free ps a && fitV W m words free ps b) with
      | true =>
        rw [hf, Bool.true_and] at k3
        rw [Bool.and_eq_true] at hf
        obtain ⟨ea, oa⟩ := fitV_book hf.1
        obtain ⟨eb, ob⟩ := fitV_book hf.2
        simp only [Bool.not_true, Bool.false_eq_true, if_false, wpSs, wpS, wpE, wpEs, wpCs, wpP, wpPs, List.map, List.replicate, List.cons_append, List.nil_append, List.append_nil, List.getElem?_cons_zero, List.getElem?_cons_succ, jn, ws_some, List.length_cons, List.length_nil, List.set, at0, at1, at2, idx_tup, c_gt, c_lt, c_le, c_ge, c_is, c_isnt, c_eqI, c_neI, c_eqS, c_neS, c_eqB, c_neB, isS, isNonD, isBlD, t_bl, b_int, b_abs, b_max2, b_min2, b_lenT, o_add, o_sub, permD, Option.map_some]
        generalize hA : bkV a = ba at ea oa k3
        generalize hB : bkV b = bb at eb ob k3
        subst ea eb
        refine told_spec (N := N + 2) ok oa oka ?_
        refine told_spec (N := N + 2) ok ob oka ?_
        rw [ne_worth]
        exact k3
      | false =>
        rw [hf, Bool.false_and] at k3
        simp only [Bool.not_false, if_true]
        exact k3
  · rw [Bool.not_eq_true] at ct
    simp only [ct, Bool.not_false, if_true]
    have := k h (List.prefix_refl _)
    rw [no ct] at this
    exact this
end M67

end
section
set_option Elab.async false
set_option linter.all false
set_option autoImplicit false
/-! from which boards an end can be come to -/
namespace M67
open M
def natsD (l : List Nat) : List D := l.map fun (k : Nat) => D.int (k : Int)
theorem nats_map (l : List Nat) : natsD l = (l.map fun (k : Nat) => (k : Int)).map D.int := by
  unfold natsD
  rw [List.map_map]
  rfl
theorem snap_nats {f : Nat → Option (List D)} (l : List Nat) : snapDs f (natsD l) = some (natsD l) := by
  rw [nats_map]; exact snap_ints _
theorem deps_nats (l : List Nat) : deps (natsD l) = 0 := by
  rw [nats_map]; exact (pure_ints _).2
def inO (g : List Nat) : Option Nat → Bool
  | none => false
  | some t => decide (t ∈ g)
theorem any_opt (g : List Nat) (o : Option Nat) : ((natsD g).any fun b => eqD b (optD o)) = inO g o := by
  cases o with
  | none =>
    unfold natsD
    rw [List.any_map]
    show g.any _ = false
    rw [List.any_eq_false]
    intro x _
    simp [optD, eqD]
  | some t =>
    induction g with
    | nil => rfl
    | cons x g ih =>
      unfold natsD at ih ⊢
      rw [List.map_cons, List.any_cons, ih]
      by_cases h : t = x
      · subst h; simp [eqD, optD, inO]
      · have h2 : ¬ (x : Int) = (t : Int) := by omega
        simp [eqD, optD, inO, h, h2]
theorem isin_opt {h : Hm} {a : Nat} {g : List Nat} (e : h[a]? = some (.lst (natsD g))) (o : Option Nat) : cmpS .isin (optD o) (.ref a) h = some (inO g o) := by
  have e1 : snap h (optD o) = some (optD o) := snapD_pure _ _ (by cases o <;> rfl)
  simp only [cmpS, inS, e, anyEq, e1, snap_nats, deps_nats]
  rw [if_pos (by omega), any_opt]
theorem isin_nat {h : Hm} {a : Nat} {g : List Nat} (e : h[a]? = some (.lst (natsD g))) (t : Nat) : cmpS .isin (.int (t : Int)) (.ref a) h = some (decide (t ∈ g)) := isin_opt e (some t)
theorem notin_nat {h : Hm} {a : Nat} {g : List Nat} (e : h[a]? = some (.lst (natsD g))) (t : Nat) : cmpS .notin (.int (t : Int)) (.ref a) h = some (!decide (t ∈ g)) := by
  have := isin_nat e t
  simp only [cmpS] at this ⊢
  rw [this]; rfl
def good0 (n : Nat) (ends : List Bool) : List Nat := (List.range n).filter fun b => ends.getD b false
def goodN (S : List (List (Option Nat))) (g : List Nat) : List Nat := (List.range S.length).filter fun b => decide (b ∈ g) || (S.getD b []).any (inO g)
def goodI (S : List (List (Option Nat))) (ends : List Bool) : Nat → List Nat
  | 0 => good0 S.length ends
  | i + 1 => goodN S (goodI S ends i)
theorem it_enum {h : Hm} {a : Nat} {xs : List D} (e : h[a]? = some (.lst xs)) : iterS .enum [.ref a] h = some (enumD xs, [(a, .lst xs)]) := by simp [iterS, getL, leanOn, e]
theorem range_map (n : Nat) : rngD 0 n = (List.range n).map fun (k : Nat) => D.int (k : Int) := by
  unfold rngD
  refine List.map_congr_left fun k _ => ?_
  rw [Int.zero_add]
theorem enum_map (xs : List D) : enumD xs = (List.range xs.length).map fun (k : Nat) => D.tup [.int (k : Int), xs.getD k .non] := by
  unfold enumD
  refine List.ext_getElem (by simp) fun i h1 h2 => ?_
  simp only [List.getElem_map, List.getElem_zipIdx, List.getElem_range, Nat.zero_add]
  have hi : i < xs.length := by simpa using h1
  rw [List.getD_eq_getElem?_getD, List.getElem?_eq_getElem hi]
  rfl
theorem s_at {h : Hm} {a : Nat} {S : List (List (Option Nat))} (e : h[a]? = some (.lst (S.map stepD))) {b : Nat} (hb : b < S.length) : idxS (.ref a) (.int (b : Int)) h = some (stepD (S.getD b [])) := by
  rw [idx_lst e]
  refine at_nat ?_
  rw [List.getElem?_map, List.getElem?_eq_getElem hb, List.getD_eq_getElem?_getD, List.getElem?_eq_getElem hb]
  rfl
theorem good_spec {S : List (List (Option Nat))} {ends : List Bool} (hl : S.length ≤ 100) (he : ends.length = S.length) (hw : ∀ r ∈ S, r.length ≤ 100) {N : Nat} {h : Hm} {a b : Nat} {Q : VQ} {E : XP} (ea : h[a]? = some (.lst (S.map stepD))) (eb : h[b]? = some (.lst (ends.map D.bl)))
    (k : ∀ r h', h <+: h' → h'[r]? = some (.lst (natsD (goodI S ends S.length))) → Q (.ref r) h') : FW P (N + 1) 47 [.ref a, .ref b] h Q E := by
  refine fw_open (d := D47) rfl rfl ?_
  unfold D47
  simp only [wpSs, wpS, wpE, wpEs, wpCs, wpP, wpPs, List.map, List.replicate, List.cons_append, List.nil_append, List.append_nil, List.getElem?_cons_zero, List.getElem?_cons_succ, jn, ws_some, List.length_cons, List.length_nil, List.set, at0, at1, at2, idx_tup, c_gt, c_lt, c_le, c_ge, c_is, c_isnt, c_eqI, c_neI, c_eqS, c_neS, c_eqB, c_neB, isS, isNonD, isBlD, t_bl, b_int, b_abs, b_max2, b_min2, b_lenT, o_add, o_sub, permD, Option.map_some]
  rw [it_enum eb]
  simp only [ws_some]
  rw [enum_map]
  refine comp_enc (xs := List.range (ends.map D.bl).length) _ (fun (k : Nat) => if ends.getD k false = true then some (D.int (k : Int)) else none) (still_one eb) (by simp; unfold LIM; omega) (fun x hx h1 R p1 kk => ?_) fun h1 p1 e1 => ?_
  · have hx' : x < ends.length := by simpa using hx
    have kk := kk h1 (List.prefix_refl _)
    have e : (ends.map D.bl).getD x .non = .bl (ends.getD x false) := by
      rw [List.getD_eq_getElem?_getD, List.getElem?_map, List.getElem?_eq_getElem hx', List.getD_eq_getElem?_getD, List.getElem?_eq_getElem hx']
      rfl
    rw [e]
    simp only [wpSs, wpS, wpE, wpEs, wpCs, wpP, wpPs, List.map, List.replicate, List.cons_append, List.nil_append, List.append_nil, List.getElem?_cons_zero, List.getElem?_cons_succ, jn, ws_some, List.length_cons, List.length_nil, List.set, at0, at1, at2, idx_tup, c_gt, c_lt, c_le, c_ge, c_is, c_isnt, c_eqI, c_neI, c_eqS, c_neS, c_eqB, c_neB, isS, isNonD, isBlD, t_bl, b_int, b_abs, b_max2, b_min2, b_lenT, o_add, o_sub, permD, Option.map_some, wipeE]
    refine ⟨by simp, by simp, ?_⟩
    cases hd : ends.getD x false with
    | true => simp only [hd, if_true] at kk ⊢; exact kk
    | false => simp only [hd, Bool.false_eq_true, if_false] at kk ⊢; exact kk
  · refine ⟨by simp, ?_⟩
    have e2 : (List.range (ends.map D.bl).length).filterMap (fun (k : Nat) => if ends.getD k false = true then some (D.int (k : Int)) else none) = natsD (goodI S ends 0) := by
      rw [List.length_map, he]
      exact filterMap_if (fun k => ends.getD k false) (fun (k : Nat) => D.int (k : Int)) _
    rw [e2] at e1
    rw [b_lenL (pre_at p1 ea)]
    simp only [ws_some, List.length_map]
    rw [it_range (by omega) (by omega)]
    simp only [ws_some, Int.toNat_natCast]
    refine forL_inv (fun l env h' => ∃ (j r : Nat) (e3 e4 e5 e6 : Option D), l = (rngD 0 S.length).drop j ∧ j ≤ S.length ∧ h <+: h' ∧ h'[r]? = some (.lst (natsD (goodI S ends j))) ∧ env = [some (.ref a), some (.ref b), some (.ref r), e3, e4, e5, e6])
      (fun _ _ _ _ => still_nil) (fun x l env h' R hi kk => ?_) (fun env h' hi => ?_) _ _ _ ⟨0, h.length, none, none, none, none, rfl, by omega, p1, e1, rfl⟩
    · obtain ⟨j, r, e3, e4, e5, e6, hj, hjl, ph, er, rfl⟩ := hi
      have hjn : j < S.length := by
        rcases Nat.lt_or_ge j S.length with z | z
        · exact z
        · rw [rng_end z] at hj; cases hj
      rw [rng_drop hjn] at hj
      cases hj
      simp only [wpSs, wpS, wpE, wpEs, wpCs, wpP, wpPs, List.map, List.replicate, List.cons_append, List.nil_append, List.append_nil, List.getElem?_cons_zero, List.getElem?_cons_succ, jn, ws_some, List.length_cons, List.length_nil, List.set, at0, at1, at2, idx_tup, c_gt, c_lt, c_le, c_ge, c_is, c_isnt, c_eqI, c_neI, c_eqS, c_neS, c_eqB, c_neB, isS, isNonD, isBlD, t_bl, b_int, b_abs, b_max2, b_min2, b_lenT, o_add, o_sub, permD, Option.map_some]
      refine ⟨by simp, ?_⟩
      rw [b_lenL (pre_at ph ea)]
      simp only [ws_some, List.length_map]
      rw [it_range (by omega) (by omega)]
      simp only [ws_some, Int.toNat_natCast]
      rw [range_map]
      refine comp_enc (xs := List.range S.length) (fun (k : Nat) => D.int (k : Int)) (fun (k : Nat) => if (decide (k ∈ goodI S ends j) || (S.getD k []).any (inO (goodI S ends j))) = true then some (D.int (k : Int)) else none) still_nil (by simp; unfold LIM; omega) (fun x hx h2 R' p2 kk2 => ?_) fun h2 p2 e2 => ?_
      · have hx' : x < S.length := List.mem_range.mp hx
        have er2 := pre_at p2 er
        simp only [wpSs, wpS, wpE, wpEs, wpCs, wpP, wpPs, List.map, List.replicate, List.cons_append, List.nil_append, List.append_nil, List.getElem?_cons_zero, List.getElem?_cons_succ, jn, ws_some, List.length_cons, List.length_nil, List.set, at0, at1, at2, idx_tup, c_gt, c_lt, c_le, c_ge, c_is, c_isnt, c_eqI, c_neI, c_eqS, c_neS, c_eqB, c_neB, isS, isNonD, isBlD, t_bl, b_int, b_abs, b_max2, b_min2, b_lenT, o_add, o_sub, permD, Option.map_some, wipeE]
        refine ⟨by simp, ?_⟩
        rw [isin_nat er2]
        simp only [ws_some, t_bl]
        by_cases c : x ∈ goodI S ends j
        · have := kk2 h2 (List.prefix_refl _)
          simp only [c, decide_true, Bool.true_or, if_true] at this ⊢
          exact this
        · simp only [c, decide_false, Bool.false_eq_true, if_false, Bool.false_or] at kk2 ⊢
          rw [s_at (pre_at (ph.trans p2) ea) hx']
          simp only [ws_some, stepD, it_tup]
          have hrow : (S.getD x []).length ≤ 100 := by
            rw [List.getD_eq_getElem?_getD, List.getElem?_eq_getElem hx']
            exact hw _ (List.getElem_mem hx')
          refine comp_enc (xs := S.getD x []) optD (fun o => if inO (goodI S ends j) o = true then some (.int 1) else none) still_nil (by unfold LIM; omega) (fun o ho h3 R3 p3 kk3 => ?_) fun h3 p3 e3 => ?_
          · have kk3 := kk3 h3 (List.prefix_refl _)
            refine ⟨by simp, ?_⟩
            rw [isin_opt (pre_at p3 er2)]
            simp only [ws_some, t_bl]
            cases hd : inO (goodI S ends j) o with
            | true => simp only [hd, if_true] at kk3 ⊢; exact kk3
            | false => simp only [hd, Bool.false_eq_true, if_false] at kk3 ⊢; exact kk3
          · have e4 : (S.getD x []).filterMap (fun o => if inO (goodI S ends j) o = true then some (D.int 1) else none) = (((S.getD x []).filter (inO (goodI S ends j))).map fun _ => (1 : Int)).map D.int := by
              rw [List.map_map]
              exact filterMap_if (inO (goodI S ends j)) (fun _ => D.int 1) _
            rw [e4] at e3
            rw [ne_empty (pre_at pre_one e3) last_at]
            simp only [ws_some, t_bl]
            have e5 : (!decide ((((S.getD x []).filter (inO (goodI S ends j))).map fun _ => (1 : Int)) = [])) = (S.getD x []).any (inO (goodI S ends j)) := by
              rw [Bool.eq_iff_iff, Bool.not_eq_true', decide_eq_false_iff_not, List.map_eq_nil_iff, List.filter_eq_nil_iff, List.any_eq_true]
              constructor
              · intro hh
                exact Classical.byContradiction fun z => hh fun y hy hz => z ⟨y, hy, hz⟩
              · rintro ⟨y, hy, hz⟩ hh
                exact hh y hy hz
            rw [e5]
            have kk2 := kk2 (h3 ++ [.lst []]) (p3.trans pre_one)
            cases hd : (S.getD x []).any (inO (goodI S ends j)) with
            | true => simp only [hd, if_true] at kk2 ⊢; exact kk2
            | false => simp only [hd, Bool.false_eq_true, if_false] at kk2 ⊢; exact kk2
      · have e3 : (List.range S.length).filterMap (fun (k : Nat) => if (decide (k ∈ goodI S ends j) || (S.getD k []).any (inO (goodI S ends j))) = true then some (D.int (k : Int)) else none) = natsD (goodI S ends (j + 1)) :=
          filterMap_if (fun k => decide (k ∈ goodI S ends j) || (S.getD k []).any (inO (goodI S ends j))) (fun (k : Nat) => D.int (k : Int)) _
        rw [e3] at e2
        refine ⟨by simp, ?_⟩
        exact kk _ _ ⟨j + 1, h'.length, _, _, _, _, rfl, by omega, ph.trans p2, e2, rfl⟩
    · obtain ⟨j, r, e3, e4, e5, e6, hj, hjl, ph, er, rfl⟩ := hi
      have hjn : S.length ≤ j := by
        rcases Nat.lt_or_ge j S.length with z | z
        · rw [rng_drop z] at hj; cases hj
        · exact z
      have : j = S.length := by omega
      subst this
      exact k r h' ph er
end M67

end
section
set_option Elab.async false
set_option linter.all false
set_option autoImplicit false
/-! plain: rounds of kinds, and what can be come to -/
namespace M67
open M
inductive KV where
  | non
  | tup (l : List Int)
  | int (i : Nat)
  deriving DecidableEq
def kvD : KV → D
  | .non => .non
  | .tup l => .tup (l.map D.int)
  | .int i => .int (i : Int)
abbrev Key := KV × List KV
def keyD (k : Key) : D := .tup [kvD k.1, .tup (k.2.map kvD)]
theorem eq_kv (a b : KV) : eqD (kvD a) (kvD b) = decide (a = b) := by
  cases a <;> cases b <;> simp [kvD, eqD, eqDs_ints] <;> omega
theorem eq_kvs : ∀ a b : List KV, eqDs (a.map kvD) (b.map kvD) = decide (a = b)
  | [], [] => by simp [eqDs]
  | [], _ :: _ => by simp [eqDs]
  | _ :: _, [] => by simp [eqDs]
  | x :: a, y :: b => by
    simp only [List.map_cons, eqDs, eq_kv, eq_kvs a b]
    by_cases h1 : x = y <;> by_cases h2 : a = b <;> simp [h1, h2]
theorem pure_kv (a : KV) : pureD (kvD a) = true ∧ dep (kvD a) ≤ 1 := by
  cases a with
  | non => exact ⟨rfl, Nat.zero_le _⟩
  | int i => exact ⟨rfl, Nat.zero_le _⟩
  | tup l =>
    obtain ⟨p, q⟩ := pure_ints l
    exact ⟨by simp only [kvD, pureD]; exact p, by simp only [kvD, dep, q]; omega⟩
theorem pure_kvs : ∀ a : List KV, pureDs (a.map kvD) = true ∧ deps (a.map kvD) ≤ 1
  | [] => ⟨rfl, Nat.zero_le _⟩
  | x :: a => by
    obtain ⟨h1, h2⟩ := pure_kvs a
    obtain ⟨h3, h4⟩ := pure_kv x
    exact ⟨by simp [pureDs, h1, h3], by simp only [List.map_cons, deps]; omega⟩
def encKey : Enc Key where
  e := keyD
  eq := fun a b => by
    obtain ⟨a1, a2⟩ := a
    obtain ⟨b1, b2⟩ := b
    simp only [keyD, eqD, eqDs, eq_kv, eq_kvs, Bool.and_true]
    by_cases h : a1 = b1 <;> by_cases h2 : a2 = b2 <;> simp [h, h2]
  ok := fun a => by
    obtain ⟨h1, h2⟩ := pure_kvs a.2
    obtain ⟨h3, h4⟩ := pure_kv a.1
    have h5 : deps [kvD a.1, .tup (a.2.map kvD)] ≤ 7 := by simp only [deps, dep]; omega
    simp [keyD, keyOK, pureDs, pureD, h1, h3, h5]
  tup := true
  tp := fun _ => rfl
def encNat : Enc Nat where
  e := fun i => .int (i : Int)
  eq := fun a b => by
    simp only [eqD]
    rw [decide_eq_decide]
    omega
  ok := fun _ => rfl
  tup := false
  tp := fun _ => rfl
def natd (i : Nat) : D := .int (i : Int)
/-- what one round looks at -/
def sucF (K : List KV) : Option Nat → KV
  | none => .non
  | some t => K.getD t .non
def keyF (S : List (List (Option Nat))) (K : List KV) (b : Nat) : Key := (K.getD b .non, (S.getD b []).map (sucF K))
structure Ref (S : List (List (Option Nat))) (K : List KV) (L : List Nat) : Prop where
  len : L.length = S.length
  lt : ∀ x ∈ L, x < S.length
  eq : ∀ b b', b < S.length → b' < S.length → L.getD b 0 = L.getD b' 0 → keyF S K b = keyF S K b'
def Rch (S : List (List (Option Nat))) (ends : List Bool) : Nat → Nat → Prop
  | 0, b => ends.getD b false = true
  | i + 1, b => Rch S ends i b ∨ ∃ t, some t ∈ S.getD b [] ∧ Rch S ends i t
structure Pj (S : List (List (Option Nat))) (ends : List Bool) (j : Nat) (K : List KV) : Prop where
  len : K.length = S.length
  same : ∀ b b', b < S.length → b' < S.length → K.getD b .non = K.getD b' .non → ∀ i, i ≤ j → Rch S ends i b → Rch S ends i b'
  non : ∀ t, t < S.length → ∀ i, i ≤ j → Rch S ends i t → K.getD t .non ≠ .non
theorem getD_map_int {L : List Nat} {b : Nat} (h : b < L.length) : (L.map KV.int).getD b .non = .int (L.getD b 0) := by
  rw [List.getD_eq_getElem?_getD, List.getElem?_map, List.getElem?_eq_getElem h, List.getD_eq_getElem?_getD, List.getElem?_eq_getElem h]
  rfl
theorem Pj.next {S : List (List (Option Nat))} {ends : List Bool} {j : Nat} {K : List KV} {L : List Nat} (hS : ∀ r ∈ S, ∀ t, some t ∈ r → t < S.length) (p : Pj S ends j K) (r : Ref S K L) : Pj S ends (j + 1) (L.map KV.int) := by
  refine ⟨by rw [List.length_map]; exact r.len, fun b b' hb hb' e i hi hR => ?_, fun t ht i hi hR => ?_⟩
  · rw [getD_map_int (by rw [r.len]; exact hb), getD_map_int (by rw [r.len]; exact hb')] at e
    injection e with e
    have hk := r.eq b b' hb hb' e
    unfold keyF at hk
    injection hk with hk1 hk2
    have low : ∀ i, i ≤ j → Rch S ends i b → Rch S ends i b' := p.same b b' hb hb' hk1
    rcases Nat.lt_or_ge j i with hji | hji
    · have : i = j + 1 := by omega
      subst this
      rcases hR with hR | ⟨t, ht, hR⟩
      · exact .inl (low j (Nat.le_refl _) hR)
      · obtain ⟨d, hd, e1⟩ := List.mem_iff_getElem.mp ht
        have hrow : S.getD b [] ∈ S := by
          rw [List.getD_eq_getElem?_getD, List.getElem?_eq_getElem hb]
          exact List.getElem_mem hb
        have htl : t < S.length := hS _ hrow t ht
        have hnn := p.non t htl j (Nat.le_refl _) hR
        have hl := congrArg List.length hk2
        rw [List.length_map, List.length_map] at hl
        have hd' : d < (S.getD b' []).length := by omega
        have e2 : ((S.getD b []).map (sucF K))[d]? = ((S.getD b' []).map (sucF K))[d]? := by rw [hk2]
        rw [List.getElem?_map, List.getElem?_map, List.getElem?_eq_getElem hd, List.getElem?_eq_getElem hd', e1] at e2
        simp only [Option.map_some, Option.some.injEq] at e2
        cases hx : (S.getD b' [])[d] with
        | none =>
          rw [hx] at e2
          exact absurd e2 hnn
        | some t' =>
          rw [hx] at e2
          have ht' : some t' ∈ S.getD b' [] := by rw [← hx]; exact List.getElem_mem hd'
          have hrow' : S.getD b' [] ∈ S := by
            rw [List.getD_eq_getElem?_getD, List.getElem?_eq_getElem hb']
            exact List.getElem_mem hb'
          exact .inr ⟨t', ht', p.same t t' htl (hS _ hrow' t' ht') e2 j (Nat.le_refl _) hR⟩
    · exact low i hji hR
  · rw [getD_map_int (by rw [r.len]; exact ht)]
    exact fun z => nomatch z
/-- the boards that can still end, and the steps that stay among them -/
def cutS (S : List (List (Option Nat))) (g : List Nat) : List (List (Option Nat)) := S.map fun r => r.map fun o => if inO g o = true then o else none
theorem cutS_len (S : List (List (Option Nat))) (g : List Nat) : (cutS S g).length = S.length := by unfold cutS; rw [List.length_map]
theorem cut_get {S : List (List (Option Nat))} {g : List Nat} {b : Nat} (hb : b < S.length) : (cutS S g).getD b [] = (S.getD b []).map fun o => if inO g o = true then o else none := by
  unfold cutS
  rw [List.getD_eq_getElem?_getD, List.getElem?_map, List.getElem?_eq_getElem hb, List.getD_eq_getElem?_getD, List.getElem?_eq_getElem hb]
  rfl
theorem good_mono {S : List (List (Option Nat))} {ends : List Bool} {b : Nat} : ∀ {i : Nat}, b ∈ goodI S ends i → b < S.length ∧ b ∈ goodI S ends (i + 1)
  | 0, h => by
    have hb : b < S.length := List.mem_range.mp (List.mem_filter.mp h).1
    exact ⟨hb, List.mem_filter.mpr ⟨List.mem_range.mpr hb, by simp [h]⟩⟩
  | i + 1, h => by
    have hb : b < S.length := List.mem_range.mp (List.mem_filter.mp h).1
    exact ⟨hb, List.mem_filter.mpr ⟨List.mem_range.mpr hb, by simp [h]⟩⟩
theorem good_le {S : List (List (Option Nat))} {ends : List Bool} {b i : Nat} (h : b ∈ goodI S ends i) : ∀ d, b ∈ goodI S ends (i + d)
  | 0 => h
  | d + 1 => (good_mono (good_le h d)).2
theorem good_rch {S : List (List (Option Nat))} {ends : List Bool} {m : Nat} : ∀ (i b : Nat), i ≤ m → b ∈ goodI S ends i → Rch (cutS S (goodI S ends m)) ends i b
  | 0, b, _, h => (List.mem_filter.mp h).2
  | i + 1, b, hi, h => by
    obtain ⟨h1, h2⟩ := List.mem_filter.mp h
    have hb := List.mem_range.mp h1
    rw [Bool.or_eq_true, decide_eq_true_eq] at h2
    rcases h2 with h2 | h2
    · exact .inl (good_rch i b (by omega) h2)
    · obtain ⟨o, ho, hin⟩ := List.any_eq_true.mp h2
      cases o with
      | none => cases hin
      | some t =>
        have ht : t ∈ goodI S ends i := of_decide_eq_true hin
        refine .inr ⟨t, ?_, good_rch i t (by omega) ht⟩
        rw [cut_get hb]
        refine List.mem_map.mpr ⟨some t, ho, ?_⟩
        have : t ∈ goodI S ends m := by
          have := good_le ht (m - i)
          rwa [show i + (m - i) = m from by omega] at this
        have h3 : inO (goodI S ends m) (some t) = true := decide_eq_true this
        rw [if_pos h3]
/-- an end among the boards that stand for all -/
theorem end_in {S : List (List (Option Nat))} {ends : List Bool} {j : Nat} {K : List KV} (p : Pj S ends j K) {order : List Nat} (ho : ∀ o ∈ order, o < S.length) (hS : ∀ r ∈ S, ∀ t, some t ∈ r → t < S.length) (hc : ∀ o ∈ order, ∀ t, some t ∈ S.getD o [] → ∃ o' ∈ order, K.getD o' .non = K.getD t .non) :
    ∀ i, i ≤ j → (∃ o ∈ order, Rch S ends i o) → ∃ o ∈ order, ends.getD o false = true
  | 0, _, h => h
  | i + 1, hi, ⟨o, hom, hR⟩ => by
    rcases hR with hR | ⟨t, ht, hR⟩
    · exact end_in p ho hS hc i (by omega) ⟨o, hom, hR⟩
    · obtain ⟨o', ho', e⟩ := hc o hom t ht
      have hol := ho o hom
      have hrow : S.getD o [] ∈ S := by
        rw [List.getD_eq_getElem?_getD, List.getElem?_eq_getElem hol]
        exact List.getElem_mem hol
      exact end_in p ho hS hc i (by omega) ⟨o', ho', p.same t o' (hS _ hrow t ht) (ho o' ho') e.symm i (by omega) hR⟩
end M67

end
section
set_option Elab.async false
set_option linter.all false
set_option autoImplicit false
/-! plain: the dicts of a round, of the boards met -/
namespace M67
open M
theorem look_mem {α β : Type} [DecidableEq α] : ∀ {ps : List (α × β)} {k : α} {v : β}, look ps k = some v → (k, v) ∈ ps
  | [], k, v, h => by simp [look] at h
  | p :: ps, k, v, h => by
    unfold look at h
    rw [List.find?_cons] at h
    by_cases hp : p.1 = k
    · simp only [hp, decide_true, Option.map_some, Option.some.injEq] at h
      subst hp h
      exact List.mem_cons_self
    · simp only [hp, decide_false] at h
      exact List.mem_cons_of_mem _ (look_mem h)
theorem look_none {α β : Type} [DecidableEq α] {ps : List (α × β)} {k : α} (h : look ps k = none) : k ∉ ps.map (·.1) := fun hm => by
  obtain ⟨p, hp, rfl⟩ := List.mem_map.mp hm
  unfold look at h
  rw [Option.map_eq_none_iff, List.find?_eq_none] at h
  exact h p hp (by simp)
theorem look_some_of {α β : Type} [DecidableEq α] {ps : List (α × β)} {k : α} (h : k ∈ ps.map (·.1)) : ∃ v, look ps k = some v := by
  cases e : look ps k with
  | none => exact absurd h (look_none e)
  | some v => exact ⟨v, rfl⟩
theorem put_new {α β : Type} [DecidableEq α] {ps : List (α × β)} {k : α} {v : β} (h : look ps k = none) : put ps k v = ps ++ [(k, v)] := by
  unfold put
  rw [if_neg]
  intro z
  obtain ⟨p, hp, e⟩ := List.any_eq_true.mp z
  exact look_none h (List.mem_map.mpr ⟨p, hp, of_decide_eq_true e⟩)
theorem vals_inj {α : Type} {ps : List (α × Nat)} {n : Nat} (h : ps.map (·.2) = List.range n) {p p' : α × Nat} (hp : p ∈ ps) (hp' : p' ∈ ps) (e : p.2 = p'.2) : p = p' := by
  obtain ⟨i, hi, rfl⟩ := List.mem_iff_getElem.mp hp
  obtain ⟨j, hj, rfl⟩ := List.mem_iff_getElem.mp hp'
  have gi : ∀ (i : Nat) (hi : i < ps.length), ps[i].2 = i := fun i hi => by
    have e1 : (ps.map (·.2))[i]? = (List.range n)[i]? := by rw [h]
    rw [List.getElem?_map, List.getElem?_eq_getElem hi] at e1
    have hl : ps.length = n := by rw [← List.length_map (f := (·.2)), h, List.length_range]
    rw [List.getElem?_range (by omega)] at e1
    exact Option.some.inj e1
  rw [gi i hi, gi j hj] at e
  subst e
  rfl
structure NI (S : List (List (Option Nat))) (K : List KV) (j : Nat) (ps : List (Key × Nat)) (L : List Nat) : Prop where
  vals : ps.map (·.2) = List.range ps.length
  len : L.length = j
  pl : ps.length ≤ j
  lk : ∀ b, b < j → look ps (keyF S K b) = some (L.getD b 0)
  lt : ∀ x ∈ L, x < ps.length
theorem getD_app {L : List Nat} {v b : Nat} (h : b < L.length) : (L ++ [v]).getD b 0 = L.getD b 0 := by
  rw [List.getD_eq_getElem?_getD, List.getElem?_append_left h, List.getD_eq_getElem?_getD]
theorem getD_last {L : List Nat} {v : Nat} : (L ++ [v]).getD L.length 0 = v := by
  rw [List.getD_eq_getElem?_getD]; simp
theorem NI.hit {S : List (List (Option Nat))} {K : List KV} {j v : Nat} {ps : List (Key × Nat)} {L : List Nat} (a : NI S K j ps L) (h : look ps (keyF S K j) = some v) : NI S K (j + 1) ps (L ++ [v]) := by
  have hv : v < ps.length := by
    have hm := look_mem h
    have : v ∈ ps.map (·.2) := List.mem_map.mpr ⟨_, hm, rfl⟩
    rw [a.vals] at this
    exact List.mem_range.mp this
  refine ⟨a.vals, by simp [a.len], by have := a.pl; omega, fun b hb => ?_, fun x hx => ?_⟩
  · rcases Nat.lt_or_eq_of_le (Nat.le_of_lt_succ hb) with z | z
    · rw [getD_app (by rw [a.len]; exact z)]
      exact a.lk b z
    · subst z
      have e : (L ++ [v]).getD b 0 = v := by rw [← a.len]; exact getD_last
      rw [e]; exact h
  · rcases List.mem_append.mp hx with hx | hx
    · exact a.lt x hx
    · rw [List.mem_singleton.mp hx]; exact hv
theorem NI.new {S : List (List (Option Nat))} {K : List KV} {j : Nat} {ps : List (Key × Nat)} {L : List Nat} (a : NI S K j ps L) (h : look ps (keyF S K j) = none) : NI S K (j + 1) (put ps (keyF S K j) ps.length) (L ++ [ps.length]) := by
  have hp := put_new (v := ps.length) h
  refine ⟨by rw [hp]; simp [List.range_succ, a.vals], by simp [a.len], by rw [hp]; simp; exact a.pl, fun b hb => ?_, fun x hx => ?_⟩
  · rcases Nat.lt_or_eq_of_le (Nat.le_of_lt_succ hb) with z | z
    · rw [getD_app (by rw [a.len]; exact z)]
      have hb := a.lk b z
      have hne : keyF S K b ≠ keyF S K j := fun e => by rw [e, h] at hb; cases hb
      rw [look_put_ne ps _ hne]
      exact hb
    · subst z
      have e : (L ++ [ps.length]).getD b 0 = ps.length := by rw [← a.len]; exact getD_last
      rw [e]; exact look_put_same ps _ _
  · rw [hp, List.length_append, List.length_singleton]
    rcases List.mem_append.mp hx with hx | hx
    · have := a.lt x hx; omega
    · rw [List.mem_singleton.mp hx]; omega
theorem NI.ref {S : List (List (Option Nat))} {K : List KV} {ps : List (Key × Nat)} {L : List Nat} (a : NI S K S.length ps L) : Ref S K L := by
  refine ⟨a.len, fun x hx => ?_, fun b b' hb hb' e => ?_⟩
  · have := a.lt x hx
    have := a.pl
    omega
  · have h1 := look_mem (a.lk b hb)
    have h2 := look_mem (a.lk b' hb')
    have := vals_inj a.vals h1 h2 e
    exact congrArg (·.1) this
/-- the boards met: by kind their places -/
structure BI (L : List Nat) (order : List Nat) (ps : List (Nat × Nat)) : Prop where
  keys : ps.map (·.1) = order.map fun o => L.getD o 0
  vals : ps.map (·.2) = List.range order.length
  lt : ∀ o ∈ order, o < L.length
  nd : (order.map fun o => L.getD o 0).Nodup
theorem BI.start {L : List Nat} (h : 0 < L.length) : BI L [0] [(L.getD 0 0, 0)] := ⟨rfl, rfl, fun o ho => by rw [List.mem_singleton.mp ho]; exact h, by simp⟩
theorem BI.put_ {L order : List Nat} {ps : List (Nat × Nat)} (a : BI L order ps) {t : Nat} (ht : t < L.length) (h : look ps (L.getD t 0) = none) : BI L (order ++ [t]) (put ps (L.getD t 0) order.length) := by
  have hn := look_none h
  rw [a.keys] at hn
  refine ⟨by rw [put_new h]; simp [a.keys], by rw [put_new h]; simp [List.range_succ, a.vals], fun o ho => ?_, ?_⟩
  · rcases List.mem_append.mp ho with ho | ho
    · exact a.lt o ho
    · rw [List.mem_singleton.mp ho]; exact ht
  · rw [List.map_append, List.nodup_append]
    refine ⟨a.nd, by simp, fun x hx y hy e => ?_⟩
    rw [List.map_singleton, List.mem_singleton] at hy
    rw [e, hy] at hx
    exact hn hx
theorem BI.get {L order : List Nat} {ps : List (Nat × Nat)} (a : BI L order ps) {k v : Nat} (h : look ps k = some v) : v < order.length ∧ ∃ o ∈ order, L.getD o 0 = k := by
  have hm := look_mem h
  constructor
  · have : v ∈ ps.map (·.2) := List.mem_map.mpr ⟨_, hm, rfl⟩
    rw [a.vals] at this
    exact List.mem_range.mp this
  · have : k ∈ ps.map (·.1) := List.mem_map.mpr ⟨_, hm, rfl⟩
    rw [a.keys] at this
    obtain ⟨o, ho, e⟩ := List.mem_map.mp this
    exact ⟨o, ho, e⟩
theorem BI.len {L order : List Nat} {ps : List (Nat × Nat)} (a : BI L order ps) {n : Nat} (hL : ∀ x ∈ L, x < n) : order.length ≤ n := by
  have h1 : (order.map fun o => L.getD o 0).length ≤ (List.range n).length := a.nd.length_le_of_subset fun x hx => by
    obtain ⟨o, ho, rfl⟩ := List.mem_map.mp hx
    have hl := a.lt o ho
    rw [List.getD_eq_getElem?_getD, List.getElem?_eq_getElem hl]
    exact List.mem_range.mpr (hL _ (List.getElem_mem hl))
  rw [List.length_map, List.length_range] at h1
  exact h1
theorem BI.plen {L order : List Nat} {ps : List (Nat × Nat)} (a : BI L order ps) : ps.length = order.length := by
  rw [← List.length_map (f := (·.1)), a.keys, List.length_map]
end M67

end
section
set_option Elab.async false
set_option linter.all false
set_option autoImplicit false
/-! least machines -/
namespace M67
open M
theorem b_listL {h : Hm} {a : Nat} {xs : List D} (e : h[a]? = some (.lst xs)) : bltS .list [.ref a] h = some (.ref h.length, h ++ [.lst xs]) := by
  simp [bltS, itemsOf, e, newC]
theorem drop_range {α : Type} {n j : Nat} (f : Nat → α) (h : j < n) : ((List.range n).map f).drop j = f j :: ((List.range n).map f).drop (j + 1) := by
  have hl : ((List.range n).map f).length = n := by simp
  rw [List.drop_eq_getElem_cons (by omega)]
  simp
theorem drop_end {α : Type} {n j : Nat} (f : Nat → α) (h : n ≤ j) : ((List.range n).map f).drop j = [] := List.drop_eq_nil_of_le (by simp; exact h)
theorem kv_at {h : Hm} {a : Nat} {K : List KV} (e : h[a]? = some (.lst (K.map kvD))) {b : Nat} (hb : b < K.length) : idxS (.ref a) (.int (b : Int)) h = some (kvD (K.getD b .non)) := by
  rw [idx_lst e]
  refine at_nat ?_
  rw [List.getElem?_map, List.getElem?_eq_getElem hb, List.getD_eq_getElem?_getD, List.getElem?_eq_getElem hb]
  rfl
theorem nats_kv (L : List Nat) : natsD L = (L.map KV.int).map kvD := by
  unfold natsD
  rw [List.map_map]
  rfl
structure OKM (S : List (List (Option Nat))) (ends : List Bool) (A : List (List Int)) (n m q : Nat) : Prop where
  n1 : 1 ≤ n
  n2 : n ≤ 20
  m1 : 1 ≤ m
  m2 : m ≤ 20
  q1 : 1 ≤ q
  q2 : q ≤ 20
  ls : S.length = n
  le : ends.length = n
  la : A.length = n
  row : ∀ r ∈ S, r.length = m ∧ ∀ t, some t ∈ r → t < n
  ans : ∀ l ∈ A, l.length = q
def F5 : CS :=
  .for_ (.slot 5) .range [(.bin .add (.blt .len [(.loc 0)]) (.lit (.int (1))))] [
    .asg (.tup [(.slot 12), (.slot 13)]) (.tup [(.dct []), (.lst [])]),
    .for_ (.tup [(.slot 11), (.slot 9)]) .enum [(.loc 0)] [
      .expr (.meth .append (.loc 13) [(.meth .setdefault (.loc 12) [(.tup [(.idx (.loc 4) (.loc 11)), (.blt .tuple [(.comp [10] (.slot 10) .val [(.loc 9)] [] (.ife (.cmp .is (.loc 10) (.lit .non)) (.lit .non) (.idx (.loc 4) (.loc 10))))])]), (.blt .len [(.loc 12)])])])],
    .asg (.slot 4) (.loc 13)]
def W7 : CS :=
  .whil (.cmp .lt (.blt .len [(.loc 8)]) (.blt .len [(.loc 6)])) [
    .asg (.slot 9) (.lst []),
    .for_ (.slot 10) .val [(.idx (.loc 0) (.idx (.loc 6) (.blt .len [(.loc 8)])))] [
      .ite (.and (.cmp .isnt (.loc 10) (.lit .non)) (.cmp .notin (.idx (.loc 4) (.loc 10)) (.loc 7))) [
        .set (.loc 7) (.idx (.loc 4) (.loc 10)) (.blt .len [(.loc 6)]),
        .expr (.meth .append (.loc 6) [(.loc 10)])] [],
      .expr (.meth .append (.loc 9) [(.ife (.cmp .is (.loc 10) (.lit .non)) (.lit .non) (.idx (.loc 7) (.idx (.loc 4) (.loc 10))))])],
    .expr (.meth .append (.loc 8) [(.blt .tuple [(.loc 9)])])]
theorem d48_eq : D48 = ⟨3, 14, [
  .asg (.slot 3) (.call 47 [(.blt .list [(.loc 0)]), (.blt .list [(.loc 1)])] [] [0, 1]),
  .ite (.cmp .notin (.lit (.int (0))) (.loc 3)) [
    .ret (.lit .non)] [],
  .asg (.slot 0) (.comp [9] (.slot 9) .val [(.loc 0)] [] (.blt .tuple [(.comp [10] (.slot 10) .val [(.loc 9)] [] (.ife (.cmp .isin (.loc 10) (.loc 3)) (.loc 10) (.lit .non)))])),
  .asg (.slot 4) (.comp [11] (.slot 11) .range [(.blt .len [(.loc 0)])] [] (.ife (.idx (.loc 1) (.loc 11)) (.idx (.loc 2) (.loc 11)) (.lit .non))),
  F5,
  .asg (.tup [(.slot 6), (.slot 7), (.slot 8)]) (.tup [(.lst [(.lit (.int (0)))]), (.dctP [(.idx (.loc 4) (.lit (.int (0)))), (.lit (.int (0)))]), (.lst [])]),
  W7,
  .ret (.tup [(.blt .tuple [(.loc 8)]), (.blt .tuple [(.comp [11] (.slot 11) .val [(.loc 6)] [] (.idx (.loc 1) (.loc 11)))]), (.blt .tuple [(.comp [11] (.slot 11) .val [(.loc 6)] [] (.ife (.idx (.loc 1) (.loc 11)) (.idx (.loc 2) (.loc 11)) (.lit .non)))])])]⟩ := rfl
def tupI (l : List Int) : D := .tup (l.map D.int)
set_option maxRecDepth 20000 in
theorem rounds_spec {Z : List (List (Option Nat))} {ends : List Bool} {n m : Nat} (hn1 : 1 ≤ n) (hn2 : n ≤ 20) (hm2 : m ≤ 20) (hZn : Z.length = n) (hSr : ∀ r ∈ Z, r.length = m ∧ ∀ t, some t ∈ r → t < Z.length) {K0 : List KV} (p0K : Pj Z ends 0 K0) {h3 : Hm} {z c0 : Nat} {xb xc xr : Option D} (e2' : h3[z]? = some (.lst (Z.map stepD))) (e3 : h3[c0]? = some (.lst (K0.map kvD))) {N : Nat} {E : XP} {Zt : Ends}
    (kz : ∀ (L : List Nat) (c4 : Nat) (e5 e9 e10 e11 e12 e13 : Option D) (h' : Hm), h3 <+: h' → h'[c4]? = some (.lst (natsD L)) → L.length = n → (∀ x ∈ L, x < n) → Pj Z ends (n + 1) (L.map KV.int) → Zt.nx [some (.ref z), xb, xc, xr, some (.ref c4), e5, none, none, none, e9, e10, e11, e12, e13] h') : wpS (FW P N) E F5 [some (.ref z), xb, xc, xr, some (.ref c0), none, none, none, none, none, none, none, none, none] h3 Zt := by
  have hZ : ∀ r ∈ Z, ∀ t, some t ∈ r → t < Z.length := fun r hr t ht => (hSr r hr).2 t ht
  unfold F5
  simp only [wpSs, wpS, wpE, wpEs, wpCs, wpP, wpPs, List.map, List.replicate, List.cons_append, List.nil_append, List.append_nil, List.getElem?_cons_zero, List.getElem?_cons_succ, jn, ws_some, List.length_cons, List.length_nil, List.set, at0, at1, at2, idx_tup, c_gt, c_lt, c_le, c_ge, c_is, c_isnt, c_eqI, c_neI, c_eqS, c_neS, c_eqB, c_neB, isS, isNonD, isBlD, t_bl, b_int, b_abs, b_max2, b_min2, b_lenT, o_add, o_sub, permD, Option.map_some]
  rw [b_lenL e2', ws_some, o_add, ws_some, List.length_map, it_range (by omega) (by omega), ws_some]
  have en1 : ((Z.length : Int) + 1).toNat = n + 1 := by omega
  rw [en1]
  refine forL_inv (fun l env h' => ∃ (j : Nat) (K : List KV) (c4 : Nat) (e5 e9 e10 e11 e12 e13 : Option D), l = (rngD 0 (n + 1)).drop j ∧ j ≤ n + 1 ∧ h3 <+: h' ∧ h'[c4]? = some (.lst (K.map kvD)) ∧ Pj Z ends j K ∧ (0 < j → ∃ L : List Nat, K = L.map KV.int ∧ ∀ x ∈ L, x < n) ∧ env = [some (.ref z), xb, xc, xr, some (.ref c4), e5, none, none, none, e9, e10, e11, e12, e13])
    (fun _ _ _ _ => still_nil) (fun x l env h' R hi kk => ?_) (fun env h' hi => ?_) _ _ _ ⟨0, K0, c0, none, none, none, none, none, none, rfl, by omega, List.prefix_refl _, e3, p0K, (fun z => absurd z (Nat.lt_irrefl 0)), rfl⟩
  · obtain ⟨j, K, c4, e5, e9, e10, e11, e12, e13, hj, hjl, ph, eK, pj, _, rfl⟩ := hi
    have hjn : j < n + 1 := by
      rcases Nat.lt_or_ge j (n + 1) with z | z
      · exact z
      · rw [rng_end z] at hj; cases hj
    rw [rng_drop hjn] at hj
    cases hj
    simp only [wpSs, wpS, wpE, wpEs, wpCs, wpP, wpPs, List.map, List.replicate, List.cons_append, List.nil_append, List.append_nil, List.getElem?_cons_zero, List.getElem?_cons_succ, jn, ws_some, List.length_cons, List.length_nil, List.set, at0, at1, at2, idx_tup, c_gt, c_lt, c_le, c_ge, c_is, c_isnt, c_eqI, c_neI, c_eqS, c_neS, c_eqB, c_neB, isS, isNonD, isBlD, t_bl, b_int, b_abs, b_max2, b_min2, b_lenT, o_add, o_sub, permD, Option.map_some]
    refine ⟨by simp, ?_⟩
    simp only [evens, mergeK, ws_some]
    refine ⟨by simp, by simp, ?_⟩
    have ez : (h' ++ [Cell.dct []] ++ [Cell.lst []])[z]? = some (.lst (Z.map stepD)) := pre_at (ph.trans (pre_one.trans pre_one)) e2'
    rw [it_enum ez]
    simp only [ws_some]
    rw [enum_map, List.length_map]
    have pA : (h' ++ [Cell.dct []] ++ [Cell.lst []])[h'.length]? = some (.dct (encL encKey natd [])) := pre_at pre_one last_at
    have pB : (h' ++ [Cell.dct []] ++ [Cell.lst []])[(h' ++ [Cell.dct []]).length]? = some (.lst (natsD [])) := last_at
    have hAB : (h' ++ [Cell.dct []]).length = h'.length + 1 := by simp
    refine forL_inv (fun l env hh => ∃ (j2 : Nat) (ps : List (Key × Nat)) (L : List Nat) (e9 e10 e11 : Option D), l = ((List.range Z.length).map fun (k : Nat) => D.tup [.int (k : Int), (Z.map stepD).getD k .non]).drop j2 ∧ j2 ≤ Z.length ∧ h' <+: hh ∧ hh[h'.length]? = some (.dct (encL encKey natd ps)) ∧ hh[(h' ++ [Cell.dct []]).length]? = some (.lst (natsD L)) ∧ NI Z K j2 ps L ∧ env = [some (.ref z), xb, xc, xr, some (.ref c4), some (.int (j : Int)), none, none, none, e9, e10, e11, some (.ref h'.length), some (.ref (h' ++ [Cell.dct []]).length)])
      (fun l env hh ⟨_, _, _, _, _, _, _, _, pp, _⟩ => still_one (pre_at pp (pre_at ph e2'))) (fun x l env hh R' hi kk2 => ?_) (fun env hh hi => ?_) _ _ _ ⟨0, [], [], _, _, _, rfl, by omega, pre_one.trans pre_one, pA, pB, ⟨rfl, rfl, by simp, (fun b hb => absurd hb (Nat.not_lt_zero b)), (fun x hx => absurd hx List.not_mem_nil)⟩, rfl⟩
    · obtain ⟨j2, ps, L, e9, e10, e11, hj2, hjl2, pp, eA, eB, ni, rfl⟩ := hi
      have hjn2 : j2 < Z.length := by
        rcases Nat.lt_or_ge j2 Z.length with z | z
        · exact z
        · rw [drop_end _ z] at hj2; cases hj2
      rw [drop_range _ hjn2] at hj2
      cases hj2
      have ero : (Z.map stepD).getD j2 .non = stepD (Z.getD j2 []) := by
        rw [List.getD_eq_getElem?_getD, List.getElem?_map, List.getElem?_eq_getElem hjn2, List.getD_eq_getElem?_getD, List.getElem?_eq_getElem hjn2]
        rfl
      rw [ero]
      have hrowm : Z.getD j2 [] ∈ Z := by
        rw [List.getD_eq_getElem?_getD, List.getElem?_eq_getElem hjn2]
        exact List.getElem_mem hjn2
      have eKh := pre_at pp eK
      have hKl : K.length = Z.length := pj.len
      have gB : getL hh (h' ++ [Cell.dct []]).length = some (natsD L) := by unfold getL; rw [eB]
      have gA : getK hh h'.length = some (encL encKey natd ps) := by unfold getK; rw [eA]
      simp only [wpSs, wpS, wpE, wpEs, wpCs, wpP, wpPs, List.map, List.replicate, List.cons_append, List.nil_append, List.append_nil, List.getElem?_cons_zero, List.getElem?_cons_succ, jn, ws_some, List.length_cons, List.length_nil, List.set, at0, at1, at2, idx_tup, c_gt, c_lt, c_le, c_ge, c_is, c_isnt, c_eqI, c_neI, c_eqS, c_neS, c_eqB, c_neB, isS, isNonD, isBlD, t_bl, b_int, b_abs, b_max2, b_min2, b_lenT, o_add, o_sub, permD, Option.map_some]
      refine ⟨by simp, by simp, (by show (getL hh _).isSome = true; rw [gB]; rfl), (by show (getK hh _).isSome = true; rw [gA]; rfl), ?_⟩
      rw [kv_at eKh (by omega)]
      simp only [ws_some, stepD, it_tup]
      refine comp_enc (xs := Z.getD j2 []) optD (fun o => some (kvD (sucF K o))) still_nil (by rw [(hSr _ hrowm).1]; unfold LIM; omega) (fun o ho h4 R4 p4 kk4 => ?_) fun h4 p4 e4 => ?_
      · have kk4 := kk4 h4 (List.prefix_refl _)
        simp only [wpSs, wpS, wpE, wpEs, wpCs, wpP, wpPs, List.map, List.replicate, List.cons_append, List.nil_append, List.append_nil, List.getElem?_cons_zero, List.getElem?_cons_succ, jn, ws_some, List.length_cons, List.length_nil, List.set, at0, at1, at2, idx_tup, c_gt, c_lt, c_le, c_ge, c_is, c_isnt, c_eqI, c_neI, c_eqS, c_neS, c_eqB, c_neB, isS, isNonD, isBlD, t_bl, b_int, b_abs, b_max2, b_min2, b_lenT, o_add, o_sub, permD, Option.map_some, wipeE]
        refine ⟨by simp, ?_⟩
        cases o with
        | none =>
          simp only [optD, if_true]
          exact kk4
        | some t =>
          have htl := (hSr _ hrowm).2 t ho
          simp only [optD, Bool.false_eq_true, if_false, wpSs, wpS, wpE, wpEs, wpCs, wpP, wpPs, List.map, List.replicate, List.cons_append, List.nil_append, List.append_nil, List.getElem?_cons_zero, List.getElem?_cons_succ, jn, ws_some, List.length_cons, List.length_nil, List.set, at0, at1, at2, idx_tup, c_gt, c_lt, c_le, c_ge, c_is, c_isnt, c_eqI, c_neI, c_eqS, c_neS, c_eqB, c_neB, isS, isNonD, isBlD, t_bl, b_int, b_abs, b_max2, b_min2, b_lenT, o_add, o_sub, permD, Option.map_some]
          rw [kv_at (pre_at p4 eKh) (by omega)]
          exact kk4
      · rw [filterMap_some] at e4
        rw [b_tupleL e4]
        simp only [ws_some]
        have eA4 := pre_at p4 eA
        have eB4 := pre_at p4 eB
        rw [b_lenD eA4]
        simp only [ws_some]
        have hkey : D.tup [kvD (K.getD j2 .non), .tup ((Z.getD j2 []).map fun o => kvD (sucF K o))] = keyD (keyF Z K j2) := by
          simp only [keyD, keyF, List.map_map]
          rfl
        rw [hkey]
        have hlen : (encL encKey natd ps).length = ps.length := by unfold encL; rw [List.length_map]
        rw [hlen]
        have hin : keyIn (encL encKey natd ps) (keyD (keyF Z K j2)) = true := enc_in encKey natd ps _
        have hgt : dget (encL encKey natd ps) (keyD (keyF Z K j2)) = (look ps (keyF Z K j2)).map natd := enc_get encKey natd ps _
        have gA4 : getK h4 h'.length = some (encL encKey natd ps) := by unfold getK; rw [eA4]
        have hpl := ni.pl
        have hpb := hh.length
        have hA : h'.length < h4.length := (List.getElem?_eq_some_iff.mp eA4).1
        have hLl := ni.len
        cases hlk : look ps (keyF Z K j2) with
        | some v =>
          have hs : bltS .setdefault [.ref h'.length, keyD (keyF Z K j2), .int (ps.length : Int)] h4 = some (.int (v : Int), h4) := by
            simp only [bltS, gA4, Option.bind_some]
            rw [if_pos ⟨hin, by rw [hlen]; unfold LIM; omega⟩, hgt, hlk]
            rfl
          rw [hs]
          simp only [ws_some]
          have gB4 : getM h4 (h' ++ [Cell.dct []]).length = some (natsD L) := by unfold getM; rw [eB4]
          have ha : bltS .append [.ref (h' ++ [Cell.dct []]).length, .int (v : Int)] h4 = some (.non, h4.set (h' ++ [Cell.dct []]).length (.lst (natsD (L ++ [v])))) := by
            simp only [bltS, gB4, Option.bind_some]
            rw [if_pos (by unfold natsD; rw [List.length_map]; unfold LIM; omega)]
            simp [natsD]
          rw [ha]
          simp only [ws_some]
          refine kk2 _ _ ⟨j2 + 1, ps, L ++ [v], _, _, _, rfl, by omega, pre_set (pp.trans p4) (by rw [hAB]; omega) _, ?_, set_at eB4, ni.hit hlk, rfl⟩
          rw [List.getElem?_set_ne (by rw [hAB]; omega)]
          exact eA4
        | none =>
          have hput : dput (encL encKey natd ps) (keyD (keyF Z K j2)) (.int (ps.length : Int)) = encL encKey natd (put ps (keyF Z K j2) ps.length) := enc_put encKey natd ps _ _
          have hs : bltS .setdefault [.ref h'.length, keyD (keyF Z K j2), .int (ps.length : Int)] h4 = some (.int (ps.length : Int), h4.set h'.length (.dct (encL encKey natd (put ps (keyF Z K j2) ps.length)))) := by
            simp only [bltS, gA4, Option.bind_some]
            rw [if_pos ⟨hin, by rw [hlen]; unfold LIM; omega⟩, hgt, hlk]
            simp only [Option.map_none, hput]
          rw [hs]
          simp only [ws_some]
          have eB5 : (h4.set h'.length (.dct (encL encKey natd (put ps (keyF Z K j2) ps.length))))[(h' ++ [Cell.dct []]).length]? = some (.lst (natsD L)) := by
            rw [List.getElem?_set_ne (by rw [hAB]; omega)]
            exact eB4
          have gB5 : getM (h4.set h'.length (.dct (encL encKey natd (put ps (keyF Z K j2) ps.length)))) (h' ++ [Cell.dct []]).length = some (natsD L) := by unfold getM; rw [eB5]
          have ha : bltS .append [.ref (h' ++ [Cell.dct []]).length, .int (ps.length : Int)] (h4.set h'.length (.dct (encL encKey natd (put ps (keyF Z K j2) ps.length)))) = some (.non, (h4.set h'.length (.dct (encL encKey natd (put ps (keyF Z K j2) ps.length)))).set (h' ++ [Cell.dct []]).length (.lst (natsD (L ++ [ps.length])))) := by
            simp only [bltS, gB5, Option.bind_some]
            rw [if_pos (by unfold natsD; rw [List.length_map]; unfold LIM; omega)]
            simp [natsD]
          rw [ha]
          simp only [ws_some]
          refine kk2 _ _ ⟨j2 + 1, _, L ++ [ps.length], _, _, _, rfl, by omega, pre_set (pre_set (pp.trans p4) (Nat.le_refl _) _) (by rw [hAB]; omega) _, ?_, set_at eB5, ni.new hlk, rfl⟩
          rw [List.getElem?_set_ne (by rw [hAB]; omega)]
          exact set_at eA4
    · obtain ⟨j2, ps, L, e9, e10, e11, hj2, hjl2, pp, eA, eB, ni, rfl⟩ := hi
      have hjn2 : Z.length ≤ j2 := by
        rcases Nat.lt_or_ge j2 Z.length with z | z
        · rw [drop_range _ z] at hj2; cases hj2
        · exact z
      have : j2 = Z.length := by omega
      subst this
      have rf := ni.ref
      simp only [wpSs, wpS, wpE, wpEs, wpCs, wpP, wpPs, List.map, List.replicate, List.cons_append, List.nil_append, List.append_nil, List.getElem?_cons_zero, List.getElem?_cons_succ, jn, ws_some, List.length_cons, List.length_nil, List.set, at0, at1, at2, idx_tup, c_gt, c_lt, c_le, c_ge, c_is, c_isnt, c_eqI, c_neI, c_eqS, c_neS, c_eqB, c_neB, isS, isNonD, isBlD, t_bl, b_int, b_abs, b_max2, b_min2, b_lenT, o_add, o_sub, permD, Option.map_some]
      refine ⟨by simp, ?_⟩
      rw [nats_kv] at eB
      exact kk _ _ ⟨j + 1, L.map KV.int, _, _, _, _, _, _, _, rfl, by omega, ph.trans pp, eB, pj.next hZ rf, fun _ => ⟨L, rfl, fun x hx => by have := rf.lt x hx; omega⟩, rfl⟩
  · obtain ⟨j, K, c4, e5, e9, e10, e11, e12, e13, hj, hjl, ph, eK, pj, hL, rfl⟩ := hi
    have hjn : n + 1 ≤ j := by
      rcases Nat.lt_or_ge j (n + 1) with z | z
      · rw [rng_drop z] at hj; cases hj
      · exact z
    obtain ⟨L, rfl, hLn⟩ := hL (by omega)
    have hLl : L.length = n := by have := pj.len; rw [List.length_map] at this; omega
    rw [← nats_kv] at eK
    have : j = n + 1 := by omega
    subst this
    exact kz L c4 _ _ _ _ _ _ h' ph eK hLl hLn pj
/-- what stands when the boards are gone through -/
structure BO (Z : List (List (Option Nat))) (L : List Nat) (m : Nat) (order : List Nat) (ps : List (Nat × Nat)) (found : List (List (Option Nat))) : Prop where
  bi : BI L order ps
  zero : 0 ∈ order
  le : found.length ≤ order.length
  row : ∀ r ∈ found, r.length = m ∧ ∀ t, some t ∈ r → t < order.length
  done : ∀ (i o : Nat), i < found.length → order[i]? = some o → ∀ t, some t ∈ Z.getD o [] → ∃ o' ∈ order, L.getD o' 0 = L.getD t 0
theorem dk_set {h : Hm} {a : Nat} {ps : List (Nat × Nat)} {k v : Nat} (e : h[a]? = some (.dct (encL encNat natd ps))) (hl : ps.length ≤ 1000) : setS (.ref a) (.int (k : Int)) (.int (v : Int)) h = some (h.set a (.dct (encL encNat natd (put ps k v)))) := by
  have hin : keyIn (encL encNat natd ps) (.int (k : Int)) = true := enc_in encNat natd ps k
  have hput : dput (encL encNat natd ps) (.int (k : Int)) (.int (v : Int)) = encL encNat natd (put ps k v) := enc_put encNat natd ps k v
  simp only [setS, e]
  rw [if_pos ⟨hin, by unfold encL; rw [List.length_map]; unfold LIM; omega⟩, hput]
theorem dk_get {h : Hm} {a : Nat} {ps : List (Nat × Nat)} {k v : Nat} (e : h[a]? = some (.dct (encL encNat natd ps))) (hk : look ps k = some v) : idxS (.ref a) (.int (k : Int)) h = some (.int (v : Int)) := by
  have hin : keyIn (encL encNat natd ps) (.int (k : Int)) = true := enc_in encNat natd ps k
  have hg : dget (encL encNat natd ps) (.int (k : Int)) = (look ps k).map natd := enc_get encNat natd ps k
  simp only [idxS, e, hin, if_true, hg, hk]
  rfl
theorem dk_in {h : Hm} {a : Nat} {ps : List (Nat × Nat)} {k : Nat} (e : h[a]? = some (.dct (encL encNat natd ps))) : cmpS .notin (.int (k : Int)) (.ref a) h = some (!(look ps k).isSome) := by
  have hin : keyIn (encL encNat natd ps) (.int (k : Int)) = true := enc_in encNat natd ps k
  have hg : dget (encL encNat natd ps) (.int (k : Int)) = (look ps k).map natd := enc_get encNat natd ps k
  rw [in_dict e hin, hg, Option.isSome_map]
theorem n_at {h : Hm} {a : Nat} {L : List Nat} (e : h[a]? = some (.lst (natsD L))) {b : Nat} (hb : b < L.length) : idxS (.ref a) (.int (b : Int)) h = some (.int ((L.getD b 0 : Nat) : Int)) := by
  rw [idx_lst e]
  refine at_nat ?_
  unfold natsD
  rw [List.getElem?_map, List.getElem?_eq_getElem hb, List.getD_eq_getElem?_getD, List.getElem?_eq_getElem hb]
  rfl
theorem app_at {h : Hm} {a : Nat} {xs : List D} {x : D} (e : h[a]? = some (.lst xs)) (hl : xs.length ≤ 1000) : bltS .append [.ref a, x] h = some (.non, h.set a (.lst (xs ++ [x]))) := by
  have g : getM h a = some xs := by unfold getM; rw [e]
  simp only [bltS, g, Option.bind_some]
  rw [if_pos (by unfold LIM; omega)]
theorem rec_app {h : Hm} {a : Nat} {xs : List D} (e : h[a]? = some (.lst xs)) : recvOK .append (.ref a) h = true := by
  show (getL h a).isSome = true
  unfold getL; rw [e]; rfl
set_option maxRecDepth 20000 in
theorem bfs_spec {Z : List (List (Option Nat))} {n m : Nat} (hn2 : n ≤ 20) (hm2 : m ≤ 20) (hZn : Z.length = n) (hSr : ∀ r ∈ Z, r.length = m ∧ ∀ t, some t ∈ r → t < Z.length) {L : List Nat} (hLl : L.length = n) (hLn : ∀ x ∈ L, x < n) {hb h0 : Hm} {z c4 O : Nat} {xb xc xr e5 e9 e10 e11 e12 e13 : Option D} (ez : hb[z]? = some (.lst (Z.map stepD))) (eK : hb[c4]? = some (.lst (natsD L))) (pb : hb <+: h0) (hO : hb.length ≤ O) (eO : h0[O]? = some (.lst (natsD [0]))) (eP : h0[O + 1]? = some (.dct (encL encNat natd [(L.getD 0 0, 0)]))) (eF : h0[O + 2]? = some (.lst [])) (hn1 : 1 ≤ n) {N : Nat} {E : XP} {Zt : Ends}
    (kz : ∀ (order : List Nat) (ps : List (Nat × Nat)) (found : List (List (Option Nat))) (e9 e10 e11 e12 e13 : Option D) (hh : Hm), hb <+: hh → BO Z L m order ps found → found.length = order.length → hh[O]? = some (.lst (natsD order)) → hh[O + 2]? = some (.lst (found.map stepD)) → Zt.nx [some (.ref z), xb, xc, xr, some (.ref c4), e5, some (.ref O), some (.ref (O + 1)), some (.ref (O + 2)), e9, e10, e11, e12, e13] hh) :
    wpS (FW P N) E W7 [some (.ref z), xb, xc, xr, some (.ref c4), e5, some (.ref O), some (.ref (O + 1)), some (.ref (O + 2)), e9, e10, e11, e12, e13] h0 Zt := by
  have hbl : ∀ {o : Nat} {order : List Nat} {ps : List (Nat × Nat)}, BI L order ps → o ∈ order → o < Z.length := fun bi ho => by rw [hZn, ← hLl]; exact bi.lt _ ho
  unfold W7
  simp only [wpSs, wpS, wpE, wpEs, wpCs, wpP, wpPs, List.map, List.replicate, List.cons_append, List.nil_append, List.append_nil, List.getElem?_cons_zero, List.getElem?_cons_succ, jn, ws_some, List.length_cons, List.length_nil, List.set, at0, at1, at2, idx_tup, c_gt, c_lt, c_le, c_ge, c_is, c_isnt, c_eqI, c_neI, c_eqS, c_neS, c_eqB, c_neB, isS, isNonD, isBlD, t_bl, b_int, b_abs, b_max2, b_min2, b_lenT, o_add, o_sub, permD, Option.map_some]
  refine ⟨fun w env hh => ∃ (order : List Nat) (ps : List (Nat × Nat)) (found : List (List (Option Nat))) (e9 e10 e11 e12 e13 : Option D), w + found.length = n + 1 ∧ hb <+: hh ∧ BO Z L m order ps found ∧ hh[O]? = some (.lst (natsD order)) ∧ hh[O + 1]? = some (.dct (encL encNat natd ps)) ∧ hh[O + 2]? = some (.lst (found.map stepD)) ∧ env = [some (.ref z), xb, xc, xr, some (.ref c4), e5, some (.ref O), some (.ref (O + 1)), some (.ref (O + 2)), e9, e10, e11, e12, e13], ⟨n + 1, [0], _, [], _, _, _, _, _, rfl, pb, ⟨BI.start (by omega), by simp, by simp, (fun r hr => absurd hr List.not_mem_nil), (fun i o hi => absurd hi (Nat.not_lt_zero i))⟩, eO, eP, eF, rfl⟩, fun w env hh hi => ?_⟩
  obtain ⟨order, ps, found, e9, e10, e11, e12, e13, hw, pp, bo, qO, qP, qF, rfl⟩ := hi
  have bi := bo.bi
  have hol := bi.len hLn
  have hfl := bo.le
  simp only [wpSs, wpS, wpE, wpEs, wpCs, wpP, wpPs, List.map, List.replicate, List.cons_append, List.nil_append, List.append_nil, List.getElem?_cons_zero, List.getElem?_cons_succ, jn, ws_some, List.length_cons, List.length_nil, List.set, at0, at1, at2, idx_tup, c_gt, c_lt, c_le, c_ge, c_is, c_isnt, c_eqI, c_neI, c_eqS, c_neS, c_eqB, c_neB, isS, isNonD, isBlD, t_bl, b_int, b_abs, b_max2, b_min2, b_lenT, o_add, o_sub, permD, Option.map_some]
  rw [b_lenL qF, ws_some, b_lenL qO, ws_some, c_lt, ws_some]
  by_cases cl : found.length < order.length
  · have cl' : (((found.map stepD).length : Nat) : Int) < (((natsD order).length : Nat) : Int) := by
      unfold natsD
      rw [List.length_map, List.length_map]; omega
    rw [decide_eq_true cl', if_pos rfl]
    refine ⟨by simp, ?_⟩
    rw [b_lenL (pre_at pre_one qF), ws_some, List.length_map]
    rw [n_at (pre_at pre_one qO) cl, ws_some]
    have hoe : order.getD found.length 0 = order[found.length] := by rw [List.getD_eq_getElem?_getD, List.getElem?_eq_getElem cl]; rfl
    generalize hob : order.getD found.length 0 = o at hoe
    have hom : o ∈ order := by rw [hoe]; exact List.getElem_mem cl
    have hoz := hbl bi hom
    rw [s_at (pre_at (pp.trans pre_one) ez) hoz, ws_some]
    have hrowm : Z.getD o [] ∈ Z := by
      rw [List.getD_eq_getElem?_getD, List.getElem?_eq_getElem hoz]
      exact List.getElem_mem hoz
    unfold stepD
    rw [it_tup, ws_some]
    have hOl : O + 2 < hh.length := (List.getElem?_eq_some_iff.mp qF).1
    refine forL_inv (fun l env h' => ∃ (dn rest : List (Option Nat)) (order' : List Nat) (ps' : List (Nat × Nat)) (out : List (Option Nat)) (e10 : Option D), Z.getD o [] = dn ++ rest ∧ l = rest.map optD ∧ hb <+: h' ∧ order <+: order' ∧ BI L order' ps' ∧ h'[O]? = some (.lst (natsD order')) ∧ h'[O + 1]? = some (.dct (encL encNat natd ps')) ∧ h'[O + 2]? = some (.lst (found.map stepD)) ∧ h'[hh.length]? = some (.lst (out.map optD)) ∧ out.length = dn.length ∧ (∀ t, some t ∈ out → t < order'.length) ∧ (∀ t, some t ∈ dn → ∃ o' ∈ order', L.getD o' 0 = L.getD t 0) ∧ env = [some (.ref z), xb, xc, xr, some (.ref c4), e5, some (.ref O), some (.ref (O + 1)), some (.ref (O + 2)), some (.ref hh.length), e10, e11, e12, e13])
      (fun _ _ _ _ => still_nil) (fun x l env h' R hi kk => ?_) (fun env h' hi => ?_) _ _ _ ⟨[], Z.getD o [], order, ps, [], _, rfl, rfl, pp.trans pre_one, List.prefix_refl _, bi, pre_at pre_one qO, pre_at pre_one qP, pre_at pre_one qF, last_at, rfl, (fun t ht => absurd ht List.not_mem_nil), (fun t ht => absurd ht List.not_mem_nil), rfl⟩
    · obtain ⟨dn, rest, order', ps', out, e10', hdr, hx, pb', po, bi', rO, rP, rF, rR, hout, hot, hdt, rfl⟩ := hi
      cases rest with
      | nil => cases hx
      | cons ot rest =>
        rw [List.map_cons] at hx
        cases hx
        have hotm : ot ∈ Z.getD o [] := by rw [hdr]; simp
        have hol' := bi'.len hLn
        have hpl' := bi'.plen
        have hrl := (hSr _ hrowm).1
        have hdl : dn.length + 1 ≤ m := by
          have := congrArg List.length hdr
          rw [List.length_append, List.length_cons] at this
          omega
        have hol2 : out.length ≤ 20 := by omega
        cases ot with
        | none =>
          simp only [optD, wpSs, wpS, wpE, wpEs, wpCs, wpP, wpPs, List.map, List.replicate, List.cons_append, List.nil_append, List.append_nil, List.getElem?_cons_zero, List.getElem?_cons_succ, jn, ws_some, List.length_cons, List.length_nil, List.set, at0, at1, at2, idx_tup, c_gt, c_lt, c_le, c_ge, c_is, c_isnt, c_eqI, c_neI, c_eqS, c_neS, c_eqB, c_neB, isS, isNonD, isBlD, t_bl, b_int, b_abs, b_max2, b_min2, b_lenT, o_add, o_sub, permD, Option.map_some]
          refine ⟨by simp, ?_⟩
          simp only [Bool.not_true, Bool.false_eq_true, if_false]
          refine ⟨rec_app rR, ?_⟩
          rw [if_pos trivial]
          rw [app_at rR (by rw [List.length_map]; omega), ws_some]
          refine kk _ _ ⟨dn ++ [none], rest, order', ps', out ++ [none], _, by rw [hdr]; simp, rfl, pre_set pb' (by omega) _, po, bi', ?_, ?_, ?_, by rw [set_at rR]; simp [optD], by simp [hout], fun t ht => ?_, fun t ht => ?_, rfl⟩
          · rw [List.getElem?_set_ne (by omega)]; exact rO
          · rw [List.getElem?_set_ne (by omega)]; exact rP
          · rw [List.getElem?_set_ne (by omega)]; exact rF
          · exact hot t (by simpa using ht)
          · exact hdt t (by simpa using ht)
        | some t =>
          have htz := (hSr _ hrowm).2 t hotm
          have htl : t < L.length := by omega
          simp only [optD, wpSs, wpS, wpE, wpEs, wpCs, wpP, wpPs, List.map, List.replicate, List.cons_append, List.nil_append, List.append_nil, List.getElem?_cons_zero, List.getElem?_cons_succ, jn, ws_some, List.length_cons, List.length_nil, List.set, at0, at1, at2, idx_tup, c_gt, c_lt, c_le, c_ge, c_is, c_isnt, c_eqI, c_neI, c_eqS, c_neS, c_eqB, c_neB, isS, isNonD, isBlD, t_bl, b_int, b_abs, b_max2, b_min2, b_lenT, o_add, o_sub, permD, Option.map_some]
          refine ⟨by simp, ?_⟩
          simp only [Bool.not_false, if_true]
          rw [n_at (pre_at pb' eK) htl, ws_some, dk_in rP, ws_some]
          cases hlk : look ps' (L.getD t 0) with
          | some v =>
            obtain ⟨hv, o', ho', eo'⟩ := bi'.get hlk
            simp only [Option.isSome_some, Bool.not_true, Bool.false_eq_true, if_false]
            refine ⟨rec_app rR, ?_⟩
            rw [ws_some, dk_get rP hlk, ws_some]
            rw [app_at rR (by rw [List.length_map]; omega), ws_some]
            refine kk _ _ ⟨dn ++ [some t], rest, order', ps', out ++ [some v], _, by rw [hdr]; simp, rfl, pre_set pb' (by omega) _, po, bi', ?_, ?_, ?_, by rw [set_at rR]; simp [optD], by simp [hout], fun u hu => ?_, fun u hu => ?_, rfl⟩
            · rw [List.getElem?_set_ne (by omega)]; exact rO
            · rw [List.getElem?_set_ne (by omega)]; exact rP
            · rw [List.getElem?_set_ne (by omega)]; exact rF
            · rcases List.mem_append.mp hu with hu | hu
              · exact hot u hu
              · rw [List.mem_singleton] at hu; cases hu; exact hv
            · rcases List.mem_append.mp hu with hu | hu
              · exact hdt u hu
              · rw [List.mem_singleton] at hu; cases hu; exact ⟨o', ho', eo'⟩
          | none =>
            have bi2 := bi'.put_ htl hlk
            simp only [Option.isSome_none, Bool.not_false, if_true]
            rw [b_lenL rO, ws_some]
            rw [n_at (pre_at pb' eK) htl, ws_some]
            have hnl : (natsD order').length = order'.length := by unfold natsD; rw [List.length_map]
            rw [hnl]
            rw [dk_set rP (by omega), ws_some]
            have rO2 : (h'.set (O + 1) (.dct (encL encNat natd (put ps' (L.getD t 0) order'.length))))[O]? = some (.lst (natsD order')) := by
              rw [List.getElem?_set_ne (by omega)]; exact rO
            refine ⟨rec_app rO2, ?_⟩
            rw [app_at rO2 (by rw [hnl]; omega), ws_some]
            have rP3 : ((h'.set (O + 1) (.dct (encL encNat natd (put ps' (L.getD t 0) order'.length)))).set O (.lst (natsD order' ++ [.int (t : Int)])))[O + 1]? = some (.dct (encL encNat natd (put ps' (L.getD t 0) order'.length))) := by
              rw [List.getElem?_set_ne (by omega)]; exact set_at rP
            have rR3 : ((h'.set (O + 1) (.dct (encL encNat natd (put ps' (L.getD t 0) order'.length)))).set O (.lst (natsD order' ++ [.int (t : Int)])))[hh.length]? = some (.lst (out.map optD)) := by
              rw [List.getElem?_set_ne (by omega), List.getElem?_set_ne (by omega)]; exact rR
            have rF3 : ((h'.set (O + 1) (.dct (encL encNat natd (put ps' (L.getD t 0) order'.length)))).set O (.lst (natsD order' ++ [.int (t : Int)])))[O + 2]? = some (.lst (found.map stepD)) := by
              rw [List.getElem?_set_ne (by omega), List.getElem?_set_ne (by omega)]; exact rF
            have rO3 : ((h'.set (O + 1) (.dct (encL encNat natd (put ps' (L.getD t 0) order'.length)))).set O (.lst (natsD order' ++ [.int (t : Int)])))[O]? = some (.lst (natsD (order' ++ [t]))) := by
              rw [set_at rO2]
              simp [natsD]
            have pb3 : hb <+: (h'.set (O + 1) (.dct (encL encNat natd (put ps' (L.getD t 0) order'.length)))).set O (.lst (natsD order' ++ [.int (t : Int)])) := pre_set (pre_set pb' (by omega) _) (by omega) _
            generalize (h'.set (O + 1) (.dct (encL encNat natd (put ps' (L.getD t 0) order'.length)))).set O (.lst (natsD order' ++ [.int (t : Int)])) = h9 at rP3 rR3 rF3 rO3 pb3
            refine ⟨rec_app rR3, ?_⟩
            simp only [Bool.false_eq_true, if_false]
            rw [n_at (pre_at pb3 eK) htl, ws_some, dk_get rP3 (look_put_same _ _ _), ws_some]
            rw [app_at rR3 (by rw [List.length_map]; omega), ws_some]
            refine kk _ _ ⟨dn ++ [some t], rest, order' ++ [t], _, out ++ [some order'.length], _, by rw [hdr]; simp, rfl, pre_set pb3 (by omega) _, po.trans (List.prefix_append _ _), bi2, ?_, ?_, ?_, by rw [set_at rR3]; simp [optD], by simp [hout], fun u hu => ?_, fun u hu => ?_, rfl⟩
            · rw [List.getElem?_set_ne (by omega)]; exact rO3
            · rw [List.getElem?_set_ne (by omega)]; exact rP3
            · rw [List.getElem?_set_ne (by omega)]; exact rF3
            · rw [List.length_append, List.length_singleton]
              rcases List.mem_append.mp hu with hu | hu
              · have := hot u hu; omega
              · rw [List.mem_singleton] at hu; cases hu; omega
            · rcases List.mem_append.mp hu with hu | hu
              · obtain ⟨o', ho', eo'⟩ := hdt u hu
                exact ⟨o', List.mem_append_left _ ho', eo'⟩
              · rw [List.mem_singleton] at hu; cases hu; exact ⟨_, List.mem_append_right _ (List.mem_singleton_self _), rfl⟩
    · obtain ⟨dn, rest, order', ps', out, e10', hdr, hx, pb', po, bi', rO, rP, rF, rR, hout, hot, hdt, rfl⟩ := hi
      have hr0 : rest = [] := List.map_eq_nil_iff.mp hx.symm
      subst hr0
      rw [List.append_nil] at hdr
      simp only [wpSs, wpS, wpE, wpEs, wpCs, wpP, wpPs, List.map, List.replicate, List.cons_append, List.nil_append, List.append_nil, List.getElem?_cons_zero, List.getElem?_cons_succ, jn, ws_some, List.length_cons, List.length_nil, List.set, at0, at1, at2, idx_tup, c_gt, c_lt, c_le, c_ge, c_is, c_isnt, c_eqI, c_neI, c_eqS, c_neS, c_eqB, c_neB, isS, isNonD, isBlD, t_bl, b_int, b_abs, b_max2, b_min2, b_lenT, o_add, o_sub, permD, Option.map_some]
      refine ⟨rec_app rF, ?_⟩
      rw [b_tupleL rR, ws_some]
      rw [app_at rF (by rw [List.length_map]; have := bi.len hLn; omega), ws_some]
      have hol' := bi'.len hLn
      have hpol := po.length_le
      refine ⟨w - 1, by omega, order', ps', found ++ [out], _, _, _, _, _, by rw [List.length_append, List.length_singleton]; omega, pre_set pb' (by omega) _, ⟨bi', po.subset bo.zero, by rw [List.length_append, List.length_singleton]; omega, fun r hr => ?_, fun i o2 hi hio t ht => ?_⟩, ?_, ?_, by rw [set_at rF]; simp [stepD], rfl⟩
      · rcases List.mem_append.mp hr with hr | hr
        · exact ⟨(bo.row r hr).1, fun t ht => by have := (bo.row r hr).2 t ht; omega⟩
        · rw [List.mem_singleton.mp hr]
          exact ⟨by rw [hout, ← hdr]; exact (hSr _ hrowm).1, hot⟩
      · rw [List.length_append, List.length_singleton] at hi
        rcases Nat.lt_or_eq_of_le (Nat.le_of_lt_succ hi) with hi2 | hi2
        · have hio2 : order[i]? = some o2 := by
            obtain ⟨ext, rfl⟩ := po
            rw [List.getElem?_append_left (by omega)] at hio
            exact hio
          obtain ⟨o', ho', eo'⟩ := bo.done i o2 hi2 hio2 t ht
          exact ⟨o', po.subset ho', eo'⟩
        · have : o2 = o := by
            rw [hi2] at hio
            obtain ⟨ext, rfl⟩ := po
            rw [List.getElem?_append_left (by omega), List.getElem?_eq_getElem cl] at hio
            rw [hoe]
            exact (Option.some.inj hio).symm
          subst this
          exact hdt t (by rw [← hdr]; exact ht)
      · rw [List.getElem?_set_ne (by omega)]; exact rO
      · rw [List.getElem?_set_ne (by omega)]; exact rP
  · have cl' : ¬ (((found.map stepD).length : Nat) : Int) < (((natsD order).length : Nat) : Int) := by
      unfold natsD
      rw [List.length_map, List.length_map]; omega
    rw [decide_eq_false cl', if_neg (by decide)]
    exact kz order ps found _ _ _ _ _ hh pp bo (by omega) qO qF
set_option maxRecDepth 20000 in
theorem least_spec {S : List (List (Option Nat))} {ends : List Bool} {A : List (List Int)} {n m q : Nat} (ok : OKM S ends A n m q) {N : Nat} {h : Hm} {a b c : Nat} {Q : VQ} {E : XP} (ea : h[a]? = some (.lst (S.map stepD))) (eb : h[b]? = some (.lst (ends.map D.bl))) (ec : h[c]? = some (.lst (A.map tupI)))
    (q0 : ∀ h', h <+: h' → Q .non h') (q1 : ∀ W n' h', OKW W n' m q → h <+: h' → Q (worldD W) h') : FW P (N + 2) 48 [.ref a, .ref b, .ref c] h Q E := by
  have hn1 := ok.n1
  have hn2 := ok.n2
  have hm2 := ok.m2
  have hls := ok.ls
  have hle := ok.le
  have hla := ok.la
  refine fw_open (d := D48) rfl rfl ?_
  rw [d48_eq]
  simp only [wpSs, wpS, wpE, wpEs, wpCs, wpP, wpPs, List.map, List.replicate, List.cons_append, List.nil_append, List.append_nil, List.getElem?_cons_zero, List.getElem?_cons_succ, jn, ws_some, List.length_cons, List.length_nil, List.set, at0, at1, at2, idx_tup, c_gt, c_lt, c_le, c_ge, c_is, c_isnt, c_eqI, c_neI, c_eqS, c_neS, c_eqB, c_neB, isS, isNonD, isBlD, t_bl, b_int, b_abs, b_max2, b_min2, b_lenT, o_add, o_sub, permD, Option.map_some]
  rw [b_listL ea]
  simp only [ws_some]
  rw [b_listL (pre_at pre_one eb)]
  simp only [ws_some]
  refine good_spec (S := S) (ends := ends) (by omega) (by omega) (fun r hr => by rw [(ok.row r hr).1]; omega) (pre_at pre_one last_at) last_at fun r h1 p1 e1 => ?_
  have p01 : h <+: h1 := (pre_one.trans pre_one).trans p1
  refine ⟨by simp, ?_⟩
  have hni : cmpS .notin (.int 0) (.ref r) h1 = some (!decide (0 ∈ goodI S ends S.length)) := notin_nat e1 0
  rw [hni]
  simp only [ws_some]
  by_cases c0 : 0 ∈ goodI S ends S.length
  · simp only [c0, decide_true, Bool.not_true, Bool.false_eq_true, if_false]
    generalize hg : goodI S ends S.length = g at e1 c0
    rw [it_lst (pre_at p01 ea)]
    simp only [ws_some]
    refine comp_enc (xs := S) stepD (fun r => some (stepD (r.map fun o => if inO g o = true then o else none))) (still_one (pre_at p01 ea)) (by unfold LIM; omega) (fun rw_ hr h2 R p2 kk => ?_) fun h2 p2 e2 => ?_
    · simp only [wpSs, wpS, wpE, wpEs, wpCs, wpP, wpPs, List.map, List.replicate, List.cons_append, List.nil_append, List.append_nil, List.getElem?_cons_zero, List.getElem?_cons_succ, jn, ws_some, List.length_cons, List.length_nil, List.set, at0, at1, at2, idx_tup, c_gt, c_lt, c_le, c_ge, c_is, c_isnt, c_eqI, c_neI, c_eqS, c_neS, c_eqB, c_neB, isS, isNonD, isBlD, t_bl, b_int, b_abs, b_max2, b_min2, b_lenT, o_add, o_sub, permD, Option.map_some, wipeE, stepD, it_tup]
      refine ⟨by simp, ?_⟩
      have hrl := (ok.row rw_ hr).1
      refine comp_enc (xs := rw_) optD (fun o => some (optD (if inO g o = true then o else none))) still_nil (by unfold LIM; omega) (fun o ho h3 R3 p3 kk3 => ?_) fun h3 p3 e3 => ?_
      · have kk3 := kk3 h3 (List.prefix_refl _)
        refine ⟨by simp, ?_⟩
        rw [isin_opt (pre_at (p2.trans p3) e1)]
        simp only [ws_some, t_bl]
        cases hd : inO g o with
        | true => simp only [hd, if_true] at kk3 ⊢; exact kk3
        | false => simp only [hd, Bool.false_eq_true, if_false] at kk3 ⊢; exact kk3
      · rw [filterMap_some] at e3
        rw [b_tupleL e3]
        simp only [ws_some]
        have := kk h3 p3
        simp only [stepD, List.map_map] at this
        exact this
    · rw [filterMap_some] at e2
      have e2 : h2[h1.length]? = some (.lst ((cutS S g).map stepD)) := by
        rw [e2]
        unfold cutS
        rw [List.map_map]
        rfl
      refine ⟨by simp, ?_⟩
      have p02 := p01.trans p2
      rw [b_lenL e2]
      simp only [ws_some, List.length_map, cutS_len]
      rw [it_range (by omega) (by omega)]
      simp only [ws_some, Int.toNat_natCast]
      rw [range_map]
      refine comp_enc (xs := List.range S.length) (fun (k : Nat) => D.int (k : Int)) (fun (k : Nat) => some (kvD (if ends.getD k false = true then .tup (A.getD k []) else .non))) still_nil (by simp; unfold LIM; omega) (fun x hx h3 R3 p3 kk3 => ?_) fun h3 p3 e3 => ?_
      · have kk3 := kk3 h3 (List.prefix_refl _)
        have hx' : x < S.length := List.mem_range.mp hx
        have p03 := p02.trans p3
        simp only [wpSs, wpS, wpE, wpEs, wpCs, wpP, wpPs, List.map, List.replicate, List.cons_append, List.nil_append, List.append_nil, List.getElem?_cons_zero, List.getElem?_cons_succ, jn, ws_some, List.length_cons, List.length_nil, List.set, at0, at1, at2, idx_tup, c_gt, c_lt, c_le, c_ge, c_is, c_isnt, c_eqI, c_neI, c_eqS, c_neS, c_eqB, c_neB, isS, isNonD, isBlD, t_bl, b_int, b_abs, b_max2, b_min2, b_lenT, o_add, o_sub, permD, Option.map_some, wipeE]
        refine ⟨by simp, ?_⟩
        have ae : idxS (.ref b) (.int (x : Int)) h3 = some (.bl (ends.getD x false)) := by
          rw [idx_lst (pre_at p03 eb)]
          exact at_nat (by rw [List.getElem?_map, List.getElem?_eq_getElem (by omega), List.getD_eq_getElem?_getD, List.getElem?_eq_getElem (by omega)]; rfl)
        have aa : idxS (.ref c) (.int (x : Int)) h3 = some (tupI (A.getD x [])) := by
          rw [idx_lst (pre_at p03 ec)]
          exact at_nat (by rw [List.getElem?_map, List.getElem?_eq_getElem (by omega), List.getD_eq_getElem?_getD, List.getElem?_eq_getElem (by omega)]; rfl)
        rw [ae]
        simp only [ws_some, t_bl]
        cases hd : ends.getD x false with
        | true =>
          simp only [hd, if_true] at kk3 ⊢
          rw [aa]
          exact kk3
        | false => simp only [hd, Bool.false_eq_true, if_false] at kk3 ⊢; exact kk3
      · rw [filterMap_some] at e3
        have hSl : (cutS S g).length = S.length := cutS_len S g
        have hSr : ∀ r ∈ cutS S g, r.length = m ∧ ∀ t, some t ∈ r → t < (cutS S g).length := fun r hr => by
          unfold cutS at hr
          obtain ⟨r0, hr0, rfl⟩ := List.mem_map.mp hr
          have h0 := ok.row r0 hr0
          refine ⟨by rw [List.length_map]; exact h0.1, fun t ht => ?_⟩
          obtain ⟨o, ho, e⟩ := List.mem_map.mp ht
          split at e
          · rw [hSl, hls]; exact h0.2 t (by rw [← e]; exact ho)
          · cases e
        have p0K : Pj (cutS S g) ends 0 ((List.range S.length).map fun k => if ends.getD k false = true then KV.tup (A.getD k []) else KV.non) := by
          have gt : ∀ b, b < S.length → ((List.range S.length).map fun k => if ends.getD k false = true then KV.tup (A.getD k []) else KV.non).getD b .non = if ends.getD b false = true then KV.tup (A.getD b []) else KV.non := fun b hb => by
            rw [List.getD_eq_getElem?_getD, List.getElem?_map, List.getElem?_range hb]
            rfl
          refine ⟨by simp [hSl], fun x y hx hy e i hi hR => ?_, fun t ht i hi hR => ?_⟩
          · have : i = 0 := by omega
            subst this
            rw [hSl] at hx hy
            rw [gt x hx, gt y hy] at e
            have hR : ends.getD x false = true := hR
            rw [if_pos hR] at e
            show ends.getD y false = true
            cases hy2 : ends.getD y false with
            | true => rfl
            | false => rw [hy2, if_neg (by decide)] at e; cases e
          · have : i = 0 := by omega
            subst this
            rw [hSl] at ht
            rw [gt t ht]
            have hR : ends.getD t false = true := hR
            rw [if_pos hR]
            exact fun z => nomatch z
        have e3 : h3[h2.length]? = some (.lst (((List.range S.length).map fun k => if ends.getD k false = true then KV.tup (A.getD k []) else KV.non).map kvD)) := by
          rw [e3, List.map_map]
          rfl
        generalize ((List.range S.length).map fun k => if ends.getD k false = true then KV.tup (A.getD k []) else KV.non) = K0 at p0K e3
        have e2' := pre_at p3 e2
        have hgr : Rch (cutS S g) ends S.length 0 := by
          rw [← hg]
          exact good_rch S.length 0 (Nat.le_refl _) (by rw [hg]; exact c0)
        have p03 := p02.trans p3
        generalize hcs : cutS S g = Z at hSl hSr p0K e2' hgr
        have hZ : ∀ r ∈ Z, ∀ t, some t ∈ r → t < Z.length := fun r hr t ht => (hSr r hr).2 t ht
        have hZn : Z.length = n := by omega
        refine ⟨by omega, ?_⟩
        refine rounds_spec (Z := Z) (ends := ends) (n := n) (m := m) hn1 hn2 hm2 hZn hSr p0K e2' e3 fun L c4 e5 e9 e10 e11 e12 e13 h4 p4 eK hLl hLn pj => ?_
        simp only [wpSs, wpS, wpE, wpEs, wpCs, wpP, wpPs, List.map, List.replicate, List.cons_append, List.nil_append, List.append_nil, List.getElem?_cons_zero, List.getElem?_cons_succ, jn, ws_some, List.length_cons, List.length_nil, List.set, at0, at1, at2, idx_tup, c_gt, c_lt, c_le, c_ge, c_is, c_isnt, c_eqI, c_neI, c_eqS, c_neS, c_eqB, c_neB, isS, isNonD, isBlD, t_bl, b_int, b_abs, b_max2, b_min2, b_lenT, o_add, o_sub, permD, Option.map_some]
        have p04 := p03.trans p4
        have g0 : idxS (.ref c4) (.int 0) (h4 ++ [Cell.lst [D.int 0]] ++ [Cell.dct []]) = some (.int ((L.getD 0 0 : Nat) : Int)) := n_at (pre_at (pre_one.trans pre_one) eK) (b := 0) (by omega)
        rw [g0, ws_some]
        have g1 : evens [D.int ((L.getD 0 0 : Nat) : Int), D.int 0] = some [(D.int ((L.getD 0 0 : Nat) : Int), D.int 0)] := rfl
        rw [g1, ws_some]
        refine ⟨last_at, rfl, by simp, ?_⟩
        have g2 : mergeK [] [(D.int ((L.getD 0 0 : Nat) : Int), D.int 0)] = some (encL encNat natd [(L.getD 0 0, 0)]) := rfl
        rw [g2, ws_some]
        refine ⟨by omega, by omega, by omega, ?_⟩
        have l1 : (h4 ++ [Cell.lst [D.int 0]]).length = h4.length + 1 := by simp
        have l2 : ((h4 ++ [Cell.lst [D.int 0]] ++ [Cell.dct []]).set (h4 ++ [Cell.lst [D.int 0]]).length (.dct (encL encNat natd [(L.getD 0 0, 0)]))).length = h4.length + 2 := by simp
        have qO : ((h4 ++ [Cell.lst [D.int 0]] ++ [Cell.dct []]).set (h4 ++ [Cell.lst [D.int 0]]).length (.dct (encL encNat natd [(L.getD 0 0, 0)])) ++ [Cell.lst []])[h4.length]? = some (.lst (natsD [0])) := by
          refine pre_at pre_one ?_
          rw [List.getElem?_set_ne (by omega)]
          exact pre_at pre_one last_at
        have qP : ((h4 ++ [Cell.lst [D.int 0]] ++ [Cell.dct []]).set (h4 ++ [Cell.lst [D.int 0]]).length (.dct (encL encNat natd [(L.getD 0 0, 0)])) ++ [Cell.lst []])[h4.length + 1]? = some (.dct (encL encNat natd [(L.getD 0 0, 0)])) := by
          refine pre_at pre_one ?_
          rw [← l1]
          exact set_at last_at
        have qF : ((h4 ++ [Cell.lst [D.int 0]] ++ [Cell.dct []]).set (h4 ++ [Cell.lst [D.int 0]]).length (.dct (encL encNat natd [(L.getD 0 0, 0)])) ++ [Cell.lst []])[h4.length + 2]? = some (.lst []) := by
          rw [← l2]
          exact last_at
        have pq : h4 <+: (h4 ++ [Cell.lst [D.int 0]] ++ [Cell.dct []]).set (h4 ++ [Cell.lst [D.int 0]]).length (.dct (encL encNat natd [(L.getD 0 0, 0)])) ++ [Cell.lst []] := (pre_set (pre_one.trans pre_one) (by rw [l1]; omega) _).trans pre_one
        rw [l2]
        generalize (h4 ++ [Cell.lst [D.int 0]] ++ [Cell.dct []]).set (h4 ++ [Cell.lst [D.int 0]]).length (.dct (encL encNat natd [(L.getD 0 0, 0)])) ++ [Cell.lst []] = h5 at qO qP qF pq
        rw [l1]
        refine bfs_spec (Z := Z) (n := n) (m := m) (hb := h4) hn2 hm2 hZn hSr hLl hLn (pre_at p4 e2') eK pq (Nat.le_refl _) qO qP qF hn1 fun order ps found e9 e10 e11 e12 e13 hh ph bo hfo rO rF => ?_
        have p0h := p04.trans ph
        simp only [wpSs, wpS, wpE, wpEs, wpCs, wpP, wpPs, List.map, List.replicate, List.cons_append, List.nil_append, List.append_nil, List.getElem?_cons_zero, List.getElem?_cons_succ, jn, ws_some, List.length_cons, List.length_nil, List.set, at0, at1, at2, idx_tup, c_gt, c_lt, c_le, c_ge, c_is, c_isnt, c_eqI, c_neI, c_eqS, c_neS, c_eqB, c_neB, isS, isNonD, isBlD, t_bl, b_int, b_abs, b_max2, b_min2, b_lenT, o_add, o_sub, permD, Option.map_some]
        rw [b_tupleL rF, ws_some, it_lst rO, ws_some]
        have hol := bo.bi.len hLn
        have holt : ∀ o ∈ order, o < n := fun o ho => by have := bo.bi.lt o ho; omega
        have ae : ∀ (h7 : Hm) (x : Nat), h <+: h7 → x < n → idxS (.ref b) (.int (x : Int)) h7 = some (.bl (ends.getD x false)) := fun h7 x p7 hx => by
          rw [idx_lst (pre_at p7 eb)]
          exact at_nat (by rw [List.getElem?_map, List.getElem?_eq_getElem (by omega), List.getD_eq_getElem?_getD, List.getElem?_eq_getElem (by omega)]; rfl)
        have aa : ∀ (h7 : Hm) (x : Nat), h <+: h7 → x < n → idxS (.ref c) (.int (x : Int)) h7 = some (tupI (A.getD x [])) := fun h7 x p7 hx => by
          rw [idx_lst (pre_at p7 ec)]
          exact at_nat (by rw [List.getElem?_map, List.getElem?_eq_getElem (by omega), List.getD_eq_getElem?_getD, List.getElem?_eq_getElem (by omega)]; rfl)
        refine comp_enc (xs := order) (fun (k : Nat) => D.int (k : Int)) (fun o => some (D.bl (ends.getD o false))) (still_one rO) (by unfold LIM; omega) (fun x hx h7 R7 p7 k7 => ?_) fun h7 p7 e7 => ?_
        · have k7 := k7 h7 (List.prefix_refl _)
          simp only [wpSs, wpS, wpE, wpEs, wpCs, wpP, wpPs, List.map, List.replicate, List.cons_append, List.nil_append, List.append_nil, List.getElem?_cons_zero, List.getElem?_cons_succ, jn, ws_some, List.length_cons, List.length_nil, List.set, at0, at1, at2, idx_tup, c_gt, c_lt, c_le, c_ge, c_is, c_isnt, c_eqI, c_neI, c_eqS, c_neS, c_eqB, c_neB, isS, isNonD, isBlD, t_bl, b_int, b_abs, b_max2, b_min2, b_lenT, o_add, o_sub, permD, Option.map_some, wipeE]
          refine ⟨by simp, ?_⟩
          rw [if_pos trivial, ae h7 x (p0h.trans p7) (holt x hx)]
          exact k7
        · rw [filterMap_some] at e7
          rw [b_tupleL e7, ws_some, it_lst (pre_at p7 rO), ws_some]
          refine comp_enc (xs := order) (fun (k : Nat) => D.int (k : Int)) (fun o => some (ansD (if ends.getD o false = true then some (A.getD o []) else none))) (still_one (pre_at p7 rO)) (by unfold LIM; omega) (fun x hx h8 R8 p8 k8 => ?_) fun h8 p8 e8 => ?_
          · have k8 := k8 h8 (List.prefix_refl _)
            simp only [wpSs, wpS, wpE, wpEs, wpCs, wpP, wpPs, List.map, List.replicate, List.cons_append, List.nil_append, List.append_nil, List.getElem?_cons_zero, List.getElem?_cons_succ, jn, ws_some, List.length_cons, List.length_nil, List.set, at0, at1, at2, idx_tup, c_gt, c_lt, c_le, c_ge, c_is, c_isnt, c_eqI, c_neI, c_eqS, c_neS, c_eqB, c_neB, isS, isNonD, isBlD, t_bl, b_int, b_abs, b_max2, b_min2, b_lenT, o_add, o_sub, permD, Option.map_some, wipeE]
            refine ⟨by simp, ?_⟩
            rw [if_pos trivial, ae h8 x (p0h.trans (p7.trans p8)) (holt x hx), ws_some, t_bl, ws_some]
            cases hd : ends.getD x false with
            | true =>
              rw [if_pos rfl, aa h8 x (p0h.trans (p7.trans p8)) (holt x hx)]
              rw [hd, if_pos rfl] at k8
              exact k8
            | false =>
              rw [if_neg (by decide)]
              rw [hd, if_neg (by decide)] at k8
              exact k8
          · rw [filterMap_some] at e8
            rw [b_tupleL e8, ws_some]
            have fin := end_in pj (order := order) (fun o ho => by have := holt o ho; omega) (fun r hr t ht => (hSr r hr).2 t ht) (fun o ho t ht => by
              obtain ⟨i, hi, rfl⟩ := List.mem_iff_getElem.mp ho
              obtain ⟨o', ho', eo'⟩ := bo.done i _ (by omega) (List.getElem?_eq_getElem hi) t ht
              have htl : t < L.length := by
                have hz : Z.getD order[i] [] ∈ Z := by
                  have : order[i] < Z.length := by have := holt _ ho; omega
                  rw [List.getD_eq_getElem?_getD, List.getElem?_eq_getElem this]
                  exact List.getElem_mem this
                have := (hSr _ hz).2 t ht
                omega
              refine ⟨o', ho', ?_⟩
              rw [getD_map_int (bo.bi.lt o' ho'), getD_map_int htl, eo']) S.length (by omega) ⟨0, bo.zero, hgr⟩
            obtain ⟨of, hof, hef⟩ := fin
            have okW : OKW ⟨found, order.map fun o => ends.getD o false, order.map fun o => if ends.getD o false = true then some (A.getD o []) else none⟩ order.length m q := by
              refine ⟨List.length_pos_of_mem bo.zero, by omega, ok.m1, ok.m2, ok.q1, ok.q2, hfo, by simp, by simp, bo.row, fun b e a hb ha => ?_, List.mem_map.mpr ⟨of, hof, hef⟩⟩
              rw [List.getElem?_map] at hb ha
              cases ho : order[b]? with
              | none => rw [ho] at hb; cases hb
              | some o =>
                rw [ho] at hb ha
                simp only [Option.map_some, Option.some.injEq] at hb ha
                have hon := holt o (List.mem_of_getElem? ho)
                constructor
                · intro ht
                  rw [hb, if_pos ht] at ha
                  refine ⟨A.getD o [], ha.symm, ?_⟩
                  rw [List.getD_eq_getElem?_getD, List.getElem?_eq_getElem (by omega)]
                  exact ok.ans _ (List.getElem_mem _)
                · intro hf
                  rw [hb, hf, if_neg (by decide)] at ha
                  exact ha.symm
            have q1 := q1 _ _ h8 okW (p0h.trans (p7.trans p8))
            simp only [worldD, stepsD, List.map_map] at q1
            exact q1
  · simp only [c0, decide_false, Bool.not_false, if_true]
    exact q0 h1 p01
end M67

end
section
set_option Elab.async false
set_option linter.all false
set_option autoImplicit false
/-! worlds by kinds, typed worlds, drawn worlds -/
namespace M67
open M
theorem pure_opts : ∀ c : List (Option Nat), pureDs (c.map optD) = true ∧ deps (c.map optD) = 0
  | [] => ⟨rfl, rfl⟩
  | o :: c => by
    obtain ⟨a, b⟩ := pure_opts c
    cases o with
    | none => exact ⟨by simp [pureDs, pureD, optD, a], by simp [deps, dep, optD, b]⟩
    | some t => exact ⟨by simp [pureDs, pureD, optD, a], by simp [deps, dep, optD, b]⟩
theorem pure_cols : ∀ C : List (List (Option Nat)), pureDs (C.map stepD) = true ∧ deps (C.map stepD) ≤ 1
  | [] => ⟨rfl, Nat.zero_le _⟩
  | c :: C => by
    obtain ⟨a, b⟩ := pure_cols C
    obtain ⟨d, e⟩ := pure_opts c
    exact ⟨by simp [pureDs, pureD, stepD, a, d], by simp only [List.map_cons, deps, stepD, dep, e]; omega⟩
theorem notin_col {h : Hm} {a : Nat} {C : List (List (Option Nat))} (e : h[a]? = some (.lst (C.map stepD))) (c : List (Option Nat)) : ∃ b, cmpS .notin (stepD c) (.ref a) h = some b := by
  obtain ⟨p1, p2⟩ := pure_cols C
  obtain ⟨p3, p4⟩ := pure_opts c
  have e1 : snap h (stepD c) = some (stepD c) := snapD_pure _ _ (by simp only [stepD, pureD]; exact p3)
  have e2 : snapDs (snapN h 6) (C.map stepD) = some (C.map stepD) := snapDs_pure _ _ p1
  refine ⟨!((C.map stepD).any fun b => eqD b (stepD c)), ?_⟩
  simp only [cmpS, inS, e, anyEq, e1, e2]
  rw [if_pos (by omega)]
  rfl
def colsW (n : Nat) (C : List (List (Option Nat))) : List (List (Option Nat)) := (List.range n).map fun b => C.map fun c => c.getD b none
theorem kinds_of_spec {W : World} {n m q : Nat} (ok : OKW W n m q) (hm : m ≤ 19) {N : Nat} {h : Hm} {Q : VQ} {E : XP} (k : ∀ W' m' h', OKW W' n m' q → h <+: h' → Q (worldD W') h') : FW P (N + 1) 49 [worldD W] h Q E := by
  have hn2 := ok.n2
  have hls := ok.ls
  have hle := ok.le
  have hla := ok.la
  obtain ⟨rd, r1, r2⟩ := len0 ok (h := h)
  refine fw_open (d := D49) rfl rfl ?_
  unfold D49
  simp only [wpSs, wpS, wpE, wpEs, wpCs, wpP, wpPs, List.map, List.replicate, List.cons_append, List.nil_append, List.append_nil, List.getElem?_cons_zero, List.getElem?_cons_succ, jn, ws_some, List.length_cons, List.length_nil, List.set, at0, at1, at2, idx_tup, c_gt, c_lt, c_le, c_ge, c_is, c_isnt, c_eqI, c_neI, c_eqS, c_neS, c_eqB, c_neB, isS, isNonD, isBlD, t_bl, b_int, b_abs, b_max2, b_min2, b_lenT, o_add, o_sub, permD, Option.map_some, w_at0]
  have hlen : ∀ h', bltS .len [stepsD W.steps] h' = some (.int (n : Int), h') := fun h' => by
    unfold stepsD
    rw [b_lenT, List.length_map, hls]
  rw [hlen, ws_some]
  have htr : bltS .tupRange [.int (n : Int)] h = some (stepD ((List.range n).map some), h) := by
    have hs : small (n : Int) = true := by simp [small]; omega
    simp only [bltS, hs, if_true, Int.toNat_natCast]
    rw [range_map]
    simp [stepD, optD]
  rw [htr, ws_some]
  refine ⟨by omega, ?_⟩
  obtain ⟨rd, r1, r2⟩ := len0 ok (h := h ++ [.lst [stepD ((List.range n).map some)]])
  rw [r1, ws_some, b_lenT, ws_some, r2, it_range (by omega) (by omega), ws_some, Int.toNat_natCast]
  refine forL_inv (fun l env h' => ∃ (j : Nat) (C : List (List (Option Nat))) (e2 e3 e4 e5 : Option D), l = (rngD 0 m).drop j ∧ j ≤ m ∧ h <+: h' ∧ h'[h.length]? = some (.lst (C.map stepD)) ∧ 1 ≤ C.length ∧ C.length ≤ j + 1 ∧ (∀ c ∈ C, c.length = n ∧ ∀ t, some t ∈ c → t < n) ∧ env = [some (worldD W), some (.ref h.length), e2, e3, e4, e5])
    (fun _ _ _ _ => still_nil) (fun x l env h' R hi kk => ?_) (fun env h' hi => ?_) _ _ _ ⟨0, [(List.range n).map some], none, none, none, none, rfl, by omega, pre_one, last_at, by simp, by simp, (fun c hc => by
      rw [List.mem_singleton.mp hc]
      refine ⟨by simp, fun t ht => ?_⟩
      obtain ⟨u, hu, e⟩ := List.mem_map.mp ht
      cases e
      exact List.mem_range.mp hu), rfl⟩
  · obtain ⟨j, C, e2, e3, e4, e5, hj, hjl, pp, eC, hC1, hC2, hC3, rfl⟩ := hi
    have hjn : j < m := by
      rcases Nat.lt_or_ge j m with z | z
      · exact z
      · rw [rng_end z] at hj; cases hj
    rw [rng_drop hjn] at hj
    cases hj
    simp only [wpSs, wpS, wpE, wpEs, wpCs, wpP, wpPs, List.map, List.replicate, List.cons_append, List.nil_append, List.append_nil, List.getElem?_cons_zero, List.getElem?_cons_succ, jn, ws_some, List.length_cons, List.length_nil, List.set, at0, at1, at2, idx_tup, c_gt, c_lt, c_le, c_ge, c_is, c_isnt, c_eqI, c_neI, c_eqS, c_neS, c_eqB, c_neB, isS, isNonD, isBlD, t_bl, b_int, b_abs, b_max2, b_min2, b_lenT, o_add, o_sub, permD, Option.map_some, w_at0]
    refine ⟨by simp, ?_⟩
    unfold stepsD
    rw [it_tup, ws_some]
    refine comp_enc (xs := W.steps) stepD (fun r => some (optD (r.getD j none))) still_nil (by unfold LIM; omega) (fun r hr h2 R2 p2 k2 => ?_) fun h2 p2 e2 => ?_
    · have k2 := k2 h2 (List.prefix_refl _)
      simp only [wpSs, wpS, wpE, wpEs, wpCs, wpP, wpPs, List.map, List.replicate, List.cons_append, List.nil_append, List.append_nil, List.getElem?_cons_zero, List.getElem?_cons_succ, jn, ws_some, List.length_cons, List.length_nil, List.set, at0, at1, at2, idx_tup, c_gt, c_lt, c_le, c_ge, c_is, c_isnt, c_eqI, c_neI, c_eqS, c_neS, c_eqB, c_neB, isS, isNonD, isBlD, t_bl, b_int, b_abs, b_max2, b_min2, b_lenT, o_add, o_sub, permD, Option.map_some, wipeE]
      refine ⟨by simp, ?_⟩
      have hrl := (ok.row r hr).1
      have ha : atI (r.map optD) (j : Int) = some (optD (r.getD j none)) := at_nat (by rw [List.getElem?_map, List.getElem?_eq_getElem (by omega), List.getD_eq_getElem?_getD, List.getElem?_eq_getElem (by omega)]; rfl)
      simp only [stepD, wpSs, wpS, wpE, wpEs, wpCs, wpP, wpPs, List.map, List.replicate, List.cons_append, List.nil_append, List.append_nil, List.getElem?_cons_zero, List.getElem?_cons_succ, jn, ws_some, List.length_cons, List.length_nil, List.set, at0, at1, at2, idx_tup, c_gt, c_lt, c_le, c_ge, c_is, c_isnt, c_eqI, c_neI, c_eqS, c_neS, c_eqB, c_neB, isS, isNonD, isBlD, t_bl, b_int, b_abs, b_max2, b_min2, b_lenT, o_add, o_sub, permD, Option.map_some, ha]
      exact k2
    · rw [filterMap_some] at e2
      rw [b_tupleL e2, ws_some]
      refine ⟨by simp, ?_⟩
      have eC2 := pre_at p2 eC
      have hcol : D.tup (W.steps.map fun r => optD (r.getD j none)) = stepD (W.steps.map fun r => r.getD j none) := by
        unfold stepD
        rw [List.map_map]
        rfl
      have hcok : (W.steps.map fun r => r.getD j none).length = n ∧ ∀ t, some t ∈ (W.steps.map fun r => r.getD j none) → t < n := by
        refine ⟨by rw [List.length_map]; exact hls, fun t ht => ?_⟩
        obtain ⟨r, hr, e⟩ := List.mem_map.mp ht
        have hrl := (ok.row r hr).1
        rw [List.getD_eq_getElem?_getD, List.getElem?_eq_getElem (by omega), Option.getD_some] at e
        exact (ok.row r hr).2 t (by rw [← e]; exact List.getElem_mem _)
      rw [hcol]
      obtain ⟨bb, hb⟩ := notin_col eC2 (W.steps.map fun r => r.getD j none)
      rw [hb, ws_some]
      cases bb with
      | true =>
        rw [if_pos rfl]
        refine ⟨rec_app eC2, ?_⟩
        rw [app_at eC2 (by rw [List.length_map]; omega), ws_some]
        refine kk _ _ ⟨j + 1, C ++ [W.steps.map fun r => r.getD j none], _, _, _, _, rfl, by omega, pre_set (pp.trans p2) (Nat.le_refl _) _, by rw [set_at eC2]; simp, by simp, by simp; omega, fun c hc => ?_, rfl⟩
        rcases List.mem_append.mp hc with hc | hc
        · exact hC3 c hc
        · rw [List.mem_singleton.mp hc]; exact hcok
      | false =>
        rw [if_neg (by decide)]
        exact kk _ _ ⟨j + 1, C, _, _, _, _, rfl, by omega, pp.trans p2, eC2, hC1, by omega, hC3, rfl⟩
  · obtain ⟨j, C, e2, e3, e4, e5, hj, hjl, pp, eC, hC1, hC2, hC3, rfl⟩ := hi
    simp only [wpSs, wpS, wpE, wpEs, wpCs, wpP, wpPs, List.map, List.replicate, List.cons_append, List.nil_append, List.append_nil, List.getElem?_cons_zero, List.getElem?_cons_succ, jn, ws_some, List.length_cons, List.length_nil, List.set, at0, at1, at2, idx_tup, c_gt, c_lt, c_le, c_ge, c_is, c_isnt, c_eqI, c_neI, c_eqS, c_neS, c_eqB, c_neB, isS, isNonD, isBlD, t_bl, b_int, b_abs, b_max2, b_min2, b_lenT, o_add, o_sub, permD, Option.map_some, w_at0]
    rw [hlen, ws_some, it_range (by omega) (by omega), ws_some, Int.toNat_natCast, range_map]
    refine comp_enc (xs := List.range n) (fun (k : Nat) => D.int (k : Int)) (fun b => some (stepD (C.map fun c => c.getD b none))) still_nil (by simp; unfold LIM; omega) (fun b hb h2 R2 p2 k2 => ?_) fun h2 p2 e2 => ?_
    · have hbn := List.mem_range.mp hb
      simp only [wpSs, wpS, wpE, wpEs, wpCs, wpP, wpPs, List.map, List.replicate, List.cons_append, List.nil_append, List.append_nil, List.getElem?_cons_zero, List.getElem?_cons_succ, jn, ws_some, List.length_cons, List.length_nil, List.set, at0, at1, at2, idx_tup, c_gt, c_lt, c_le, c_ge, c_is, c_isnt, c_eqI, c_neI, c_eqS, c_neS, c_eqB, c_neB, isS, isNonD, isBlD, t_bl, b_int, b_abs, b_max2, b_min2, b_lenT, o_add, o_sub, permD, Option.map_some, wipeE]
      refine ⟨by simp, ?_⟩
      rw [it_lst (pre_at p2 eC), ws_some]
      refine comp_enc (xs := C) stepD (fun c => some (optD (c.getD b none))) (still_one (pre_at p2 eC)) (by unfold LIM; omega) (fun c hc h3 R3 p3 k3 => ?_) fun h3 p3 e3 => ?_
      · have k3 := k3 h3 (List.prefix_refl _)
        have hcl := (hC3 c hc).1
        have ha : atI (c.map optD) (b : Int) = some (optD (c.getD b none)) := at_nat (by rw [List.getElem?_map, List.getElem?_eq_getElem (by omega), List.getD_eq_getElem?_getD, List.getElem?_eq_getElem (by omega)]; rfl)
        refine ⟨by simp, ?_⟩
        simp only [stepD, wpSs, wpS, wpE, wpEs, wpCs, wpP, wpPs, List.map, List.replicate, List.cons_append, List.nil_append, List.append_nil, List.getElem?_cons_zero, List.getElem?_cons_succ, jn, ws_some, List.length_cons, List.length_nil, List.set, at0, at1, at2, idx_tup, c_gt, c_lt, c_le, c_ge, c_is, c_isnt, c_eqI, c_neI, c_eqS, c_neS, c_eqB, c_neB, isS, isNonD, isBlD, t_bl, b_int, b_abs, b_max2, b_min2, b_lenT, o_add, o_sub, permD, Option.map_some, ha, if_true]
        exact k3
      · rw [filterMap_some] at e3
        rw [b_tupleL e3, ws_some]
        have := k2 h3 p3
        simp only [stepD, List.map_map] at this
        exact this
    · rw [filterMap_some] at e2
      rw [b_tupleL e2, ws_some]
      simp only [w_at1, w_at2, ws_some]
      have okW : OKW ⟨colsW n C, W.ends, W.answers⟩ n C.length q := by
        refine ⟨ok.n1, ok.n2, hC1, by omega, ok.q1, ok.q2, by simp [colsW], ok.le, ok.la, fun r hr => ?_, ok.ans, ok.fin⟩
        obtain ⟨b, hb, rfl⟩ := List.mem_map.mp hr
        have hbn := List.mem_range.mp hb
        refine ⟨by simp, fun t ht => ?_⟩
        obtain ⟨c, hc, e⟩ := List.mem_map.mp ht
        have hcl := (hC3 c hc).1
        rw [List.getD_eq_getElem?_getD, List.getElem?_eq_getElem (by omega), Option.getD_some] at e
        exact (hC3 c hc).2 t (by rw [← e]; exact List.getElem_mem _)
      have := k _ _ h2 okW (pp.trans p2)
      simp only [worldD, stepsD, colsW, List.map_map] at this
      exact this
def W0 : World := ⟨[[some 0, some 1, none], [some 1, some 2, some 0], [some 2, none, some 1]], [true, true, true], [some [0], some [1], some [2]]⟩
def W1 : World := ⟨[[some 0, some 1, some 0], [some 1, some 1, some 0]], [true, true], [some [0], some [1]]⟩
def W2 : World := ⟨[[some 0, some 1], [some 1, some 0]], [true, false], [some [0], none]⟩
def W3 : World := ⟨[[some 0, some 1, some 2], [some 1, none, some 0], [some 2, some 0, none]], [true, true, true], [some [0], some [1], some [1]]⟩
theorem ans_ok {E : List Bool} {A : List (Option (List Int))} {q : Nat} (h : (E.zip A).all (fun p => match p with
    | (true, some l) => decide (l.length = q)
    | (false, none) => true
    | _ => false) = true) : ∀ (b : Nat) (e : Bool) (a : Option (List Int)), E[b]? = some e → A[b]? = some a → (e = true → ∃ l, a = some l ∧ l.length = q) ∧ (e = false → a = none) := fun b e a he ha => by
  have hm : (e, a) ∈ E.zip A := by
    rw [List.mem_iff_getElem?]
    exact ⟨b, by rw [List.getElem?_zip_eq_some]; exact ⟨he, ha⟩⟩
  have := List.all_eq_true.mp h _ hm
  cases e with
  | true =>
    cases a with
    | some l => exact ⟨fun _ => ⟨l, rfl, of_decide_eq_true this⟩, fun z => nomatch z⟩
    | none => cases this
  | false =>
    cases a with
    | some l => cases this
    | none => exact ⟨(fun z => nomatch z), fun _ => rfl⟩
theorem row_ok {S : List (List (Option Nat))} {n m : Nat} (h : S.all (fun r => decide (r.length = m) && r.all fun o => match o with
    | some t => decide (t < n)
    | none => true) = true) : ∀ r ∈ S, r.length = m ∧ ∀ t, some t ∈ r → t < n := fun r hr => by
  have := List.all_eq_true.mp h r hr
  rw [Bool.and_eq_true, decide_eq_true_eq] at this
  exact ⟨this.1, fun t ht => of_decide_eq_true (List.all_eq_true.mp this.2 _ ht)⟩
theorem ok0 : OKW W0 3 3 1 := ⟨by decide, by decide, by decide, by decide, by decide, by decide, rfl, rfl, rfl, row_ok (by decide), ans_ok (by decide), by decide⟩
theorem ok1 : OKW W1 2 3 1 := ⟨by decide, by decide, by decide, by decide, by decide, by decide, rfl, rfl, rfl, row_ok (by decide), ans_ok (by decide), by decide⟩
theorem ok2 : OKW W2 2 2 1 := ⟨by decide, by decide, by decide, by decide, by decide, by decide, rfl, rfl, rfl, row_ok (by decide), ans_ok (by decide), by decide⟩
theorem ok3 : OKW W3 3 3 1 := ⟨by decide, by decide, by decide, by decide, by decide, by decide, rfl, rfl, rfl, row_ok (by decide), ans_ok (by decide), by decide⟩
set_option maxRecDepth 20000 in
theorem typed_spec {N : Nat} {way : Int} {h : Hm} {Q : VQ} {E : XP} (k : ∀ W n m q, OKW W n m q → Q (worldD W) h) : FW P (N + 1) 50 [.int way] h Q E := by
  refine fw_open (d := D50) rfl rfl ?_
  unfold D50
  simp only [wpSs, wpS, wpE, wpEs, wpCs, wpP, wpPs, List.map, List.replicate, List.cons_append, List.nil_append, List.append_nil, List.getElem?_cons_zero, List.getElem?_cons_succ, jn, ws_some, List.length_cons, List.length_nil, List.set, at0, at1, at2, idx_tup, c_gt, c_lt, c_le, c_ge, c_is, c_isnt, c_eqI, c_neI, c_eqS, c_neS, c_eqB, c_neB, isS, isNonD, isBlD, t_bl, b_int, b_abs, b_max2, b_min2, b_lenT, o_add, o_sub, permD, Option.map_some]
  refine ⟨by simp, ?_⟩
  by_cases c0 : way = 0
  · rw [decide_eq_true c0, if_pos rfl]
    exact k W0 _ _ _ ok0
  rw [decide_eq_false c0, if_neg (by decide)]
  by_cases c1 : way = 1
  · rw [decide_eq_true c1, if_pos rfl]
    exact k W1 _ _ _ ok1
  rw [decide_eq_false c1, if_neg (by decide)]
  by_cases c2 : way = 2
  · rw [decide_eq_true c2, if_pos rfl]
    exact k W2 _ _ _ ok2
  rw [decide_eq_false c2, if_neg (by decide)]
  exact k W3 _ _ _ ok3
end M67

end
section
set_option Elab.async false
set_option linter.all false
set_option autoImplicit false
/-! drawn worlds -/
namespace M67
open M
/-- a comprehension that draws -/
theorem comp_draw {α : Type} {a : Nat} {h0 : Hm} {step : D → Hm → (Option D → Hm → Prop) → Prop} {Q : Hm → Prop} (dec : α → D) (Pa : α → Prop) (bx : BX h0 a) {xs : List D} (hl : xs.length ≤ 1000)
    (hs : ∀ x ∈ xs, ∀ (h : Hm) (R : Option D → Hm → Prop), BX h a → MX a h0 h → (∀ v h', Pa v → BX h' a → MX a h h' → R (some (dec v)) h') → step x h R) (q : ∀ (vs : List α) (h' : Hm), vs.length = xs.length → (∀ v ∈ vs, Pa v) → BX h' a → MX a h0 h' → h'[h0.length]? = some (.lst (vs.map dec)) → Q h') : compL [] h0.length step Q xs (h0 ++ [.lst []]) := by
  have hal := bx.lt
  refine comp_inv (fun l acc hh => ∃ (done : List D) (vs : List α), xs = done ++ l ∧ vs.length = done.length ∧ (∀ v ∈ vs, Pa v) ∧ acc = vs.map dec ∧ BX hh a ∧ MX a h0 hh ∧ hh[h0.length]? = some (.lst acc))
    (fun _ _ _ _ => still_nil) (fun x l acc hh R' hi k1 k2 => ?_) (fun acc hh hi => ?_) _ _ _ ⟨[], [], rfl, rfl, (fun v hv => absurd hv List.not_mem_nil), rfl, bx.pre pre_one, MX.pre pre_one, last_at⟩
  · obtain ⟨done, vs, hd, hv, hp, rfl, bh, mh, ca⟩ := hi
    refine hs x (by rw [hd]; simp) hh _ bh mh fun v h' pv b' m' => ?_
    have ca' := m'.cell ca (by omega)
    refine k1 _ h' ca' (by
      have := congrArg List.length hd
      rw [List.length_append] at this
      rw [List.length_map]
      unfold LIM; omega) ⟨done ++ [x], vs ++ [v], by rw [hd]; simp, by simp [hv], fun w hw => ?_, by simp, b'.set (by omega) _, (mh.trans m').set_new (Nat.le_refl _) _, set_at ca'⟩
    rcases List.mem_append.mp hw with hw | hw
    · exact hp w hw
    · rw [List.mem_singleton.mp hw]; exact pv
  · obtain ⟨done, vs, hd, hv, hp, rfl, bh, mh, ca⟩ := hi
    rw [List.append_nil] at hd
    subst hd
    exact q vs hh hv hp bh mh ca
theorem rng_len {n : Nat} : (rngD 0 n).length = n := by simp [rngD]
theorem b_lstR {h : Hm} {n : Nat} (hn : n ≤ 1000) : bltS .lstRange [.int (n : Int)] h = some (.ref h.length, h ++ [.lst (natsD (List.range n))]) := by
  have hs : small (n : Int) = true := by simp [small]; omega
  simp only [bltS, hs, if_true, Int.toNat_natCast]
  rw [range_map]
  rfl
theorem o_mul2 {h : Hm} {a : Nat} {xs : List D} (e : h[a]? = some (.lst xs)) (hl : xs.length ≤ 1000) : binS .mul (.ref a) (.int 2) h = some (.ref h.length, h ++ [.lst (xs ++ xs)]) := by
  have g : getM h a = some xs := by unfold getM; rw [e]
  simp only [binS, g]
  rw [if_pos ⟨by omega, by omega, by omega⟩]
  simp [newC]
set_option maxRecDepth 20000 in
theorem world_spec {N : Nat} {h : Hm} {a : Nat} {Q : VQ} {E : XP} (bx : BX h a) (k : ∀ W n m q h', OKW W n m q → BX h' a → MX a h h' → Q (worldD W) h') : FW P (N + 4) 51 [.ref a] h Q E := by
  refine fw_open (d := D51) rfl rfl ?_
  unfold D51
  simp only [wpSs, wpS, wpE, wpEs, wpCs, wpP, wpPs, List.map, List.replicate, List.cons_append, List.nil_append, List.append_nil, List.getElem?_cons_zero, List.getElem?_cons_succ, jn, ws_some, List.length_cons, List.length_nil, List.set, at0, at1, at2, idx_tup, c_gt, c_lt, c_le, c_ge, c_is, c_isnt, c_eqI, c_neI, c_eqS, c_neS, c_eqB, c_neB, isS, isNonD, isBlD, t_bl, b_int, b_abs, b_max2, b_min2, b_lenT, o_add, o_sub, permD, Option.map_some]
  have hal := bx.lt
  have typed : ∀ h1, BX h1 a → MX a h h1 → FW P (N + 3) 17 [D.ref a, D.int 4] h1 (fun d h1 => FW P (N + 3) 50 [d] h1 Q E) E := fun h1 b1 m1 => by
    refine take_bx (n := N + 2) b1 (by omega) (by omega) fun d h2 _ _ b2 m2 => ?_
    exact typed_spec (N := N + 2) fun W n m q ok => k W n m q h2 ok b2 (m1.trans m2)
  rw [it_range (by omega) (by omega), ws_some]
  refine forL_inv (fun l env h' => ∃ e1 e2 e3 e4 e5 e6 e7 e8 e9 e10 e11 e12 : Option D, env = [some (.ref a), e1, e2, e3, e4, e5, e6, e7, e8, e9, e10, e11, e12] ∧ BX h' a ∧ MX a h h')
    (fun _ _ _ _ => still_nil) (fun x l env h' R hi kk => ?_) (fun env h' hi => ?_) _ _ _ ⟨none, none, none, none, none, none, none, none, none, none, none, none, rfl, bx, MX.refl _ _⟩
  · obtain ⟨e1, e2, e3, e4, e5, e6, e7, e8, e9, e10, e11, e12, rfl, b0, m0⟩ := hi
    simp only [wpSs, wpS, wpE, wpEs, wpCs, wpP, wpPs, List.map, List.replicate, List.cons_append, List.nil_append, List.append_nil, List.getElem?_cons_zero, List.getElem?_cons_succ, jn, ws_some, List.length_cons, List.length_nil, List.set, at0, at1, at2, idx_tup, c_gt, c_lt, c_le, c_ge, c_is, c_isnt, c_eqI, c_neI, c_eqS, c_neS, c_eqB, c_neB, isS, isNonD, isBlD, t_bl, b_int, b_abs, b_max2, b_min2, b_lenT, o_add, o_sub, permD, Option.map_some]
    refine ⟨by simp, ?_⟩
    refine take_bx (n := N + 2) b0 (by omega) (by omega) fun t h1 t0 t1 b1 m1 => ?_
    rw [c_eqI, ws_some]
    have m01 := m0.trans m1
    by_cases c0 : t = 0
    · rw [decide_eq_true c0, if_pos rfl]
      exact typed h1 b1 m01
    rw [decide_eq_false c0, if_neg (by decide)]
    refine take_bx (n := N + 2) b1 (by omega) (by omega) fun d1 h2 d10 d11 b2 m2 => ?_
    rw [o_add, ws_some]
    refine take_bx (n := N + 2) b2 (by omega) (by omega) fun d2 h3 d20 d21 b3 m3 => ?_
    rw [o_add, ws_some]
    refine take_bx (n := N + 2) b3 (by omega) (by omega) fun d3 h4 d30 d31 b4 m4 => ?_
    rw [o_add, ws_some]
    have m04 := m01.trans (m2.trans (m3.trans m4))
    obtain ⟨n, hn⟩ : ∃ n : Nat, (n : Int) = 2 + d1 := ⟨(2 + d1).toNat, by omega⟩
    obtain ⟨m, hm⟩ : ∃ n : Nat, (n : Int) = 1 + d2 := ⟨(1 + d2).toNat, by omega⟩
    obtain ⟨q, hq⟩ : ∃ n : Nat, (n : Int) = 1 + d3 := ⟨(1 + d3).toNat, by omega⟩
    rw [← hn, ← hm, ← hq]
    refine ⟨by simp, by simp, by simp, ?_⟩
    rw [it_range (by omega) (by omega), ws_some, Int.toNat_natCast]
    refine comp_draw stepD (fun r => r.length = m ∧ ∀ t, some t ∈ r → t < n) b4 (by rw [rng_len]; omega) (fun x hx h5 R5 b5 m5 k5 => ?_) fun S h5 hS hSp b5 m5 eS => ?_
    · simp only [wpSs, wpS, wpE, wpEs, wpCs, wpP, wpPs, List.map, List.replicate, List.cons_append, List.nil_append, List.append_nil, List.getElem?_cons_zero, List.getElem?_cons_succ, jn, ws_some, List.length_cons, List.length_nil, List.set, at0, at1, at2, idx_tup, c_gt, c_lt, c_le, c_ge, c_is, c_isnt, c_eqI, c_neI, c_eqS, c_neS, c_eqB, c_neB, isS, isNonD, isBlD, t_bl, b_int, b_abs, b_max2, b_min2, b_lenT, o_add, o_sub, permD, Option.map_some, wipeE]
      refine ⟨by simp, ?_⟩
      rw [it_range (by omega) (by omega), ws_some, Int.toNat_natCast]
      refine comp_draw optD (fun o => ∀ t, o = some t → t < n) b5 (by rw [rng_len]; omega) (fun y hy h6 R6 b6 m6 k6 => ?_) fun r h6 hr hrp b6 m6 er => ?_
      · refine ⟨by simp, ?_⟩
        rw [b_lstR (by omega), ws_some]
        have hl : (natsD (List.range n)).length = n := by simp [natsD]
        rw [o_mul2 last_at (by rw [hl]; omega), ws_some]
        rw [o_addL (pre_at pre_one (pre_at pre_one last_at)) last_at (by simp [hl]; omega), ws_some]
        have b7 : BX (h6 ++ [Cell.lst [D.non]] ++ [Cell.lst (natsD (List.range n))] ++ [Cell.lst (natsD (List.range n) ++ natsD (List.range n))] ++ [Cell.lst ([D.non] ++ (natsD (List.range n) ++ natsD (List.range n)))]) a := (((b6.pre pre_one).pre pre_one).pre pre_one).pre pre_one
        have p7 : h6 <+: h6 ++ [Cell.lst [D.non]] ++ [Cell.lst (natsD (List.range n))] ++ [Cell.lst (natsD (List.range n) ++ natsD (List.range n))] ++ [Cell.lst ([D.non] ++ (natsD (List.range n) ++ natsD (List.range n)))] := pre_one.trans (pre_one.trans (pre_one.trans pre_one))
        have ha6 := b6.lt
        refine pick_bx (n := N + 1) b7 (by simp; omega) last_at (by simp) (by simp [hl]; omega) fun d hd h8 b8 m8 => ?_
        obtain ⟨o, ho, hoe⟩ : ∃ o : Option Nat, (∀ t, o = some t → t < n) ∧ d = optD o := by
          rcases List.mem_append.mp hd with hd | hd
          · rw [List.mem_singleton.mp hd]; exact ⟨none, (fun t z => nomatch z), rfl⟩
          · have hd2 : d ∈ natsD (List.range n) := by
              rcases List.mem_append.mp hd with hd | hd <;> exact hd
            obtain ⟨t, ht, rfl⟩ := List.mem_map.mp hd2
            exact ⟨some t, (fun u hu => by cases hu; exact List.mem_range.mp ht), rfl⟩
        rw [hoe]
        exact k6 o h8 ho b8 ((MX.pre p7).trans m8)
      · rw [b_tupleL er, ws_some]
        exact k5 r h6 ⟨by rw [hr, rng_len], fun t ht => hrp _ ht t rfl⟩ b6 m6
    rw [rng_len] at hS
    have m05 := m04.trans m5
    refine ⟨by simp, ?_⟩
    rw [it_range (by omega) (by omega), ws_some, Int.toNat_natCast]
    have ha5 := b5.lt
    have hS5 : h4.length < h5.length := (List.getElem?_eq_some_iff.mp eS).1
    refine comp_draw D.bl (fun _ => True) b5 (by rw [rng_len]; omega) (fun x hx h6 R6 b6 m6 k6 => ?_) fun ends h6 hE _ b6 m6 eE => ?_
    · simp only [wpSs, wpS, wpE, wpEs, wpCs, wpP, wpPs, List.map, List.replicate, List.cons_append, List.nil_append, List.append_nil, List.getElem?_cons_zero, List.getElem?_cons_succ, jn, ws_some, List.length_cons, List.length_nil, List.set, at0, at1, at2, idx_tup, c_gt, c_lt, c_le, c_ge, c_is, c_isnt, c_eqI, c_neI, c_eqS, c_neS, c_eqB, c_neB, isS, isNonD, isBlD, t_bl, b_int, b_abs, b_max2, b_min2, b_lenT, o_add, o_sub, permD, Option.map_some, wipeE]
      refine ⟨by simp, ?_⟩
      refine take_bx (n := N + 2) b6 (by omega) (by omega) fun d h7 _ _ b7 m7 => ?_
      simp only [if_true, c_gt, ws_some]
      exact k6 _ h7 trivial b7 m7
    rw [rng_len] at hE
    have m06 := m05.trans m6
    have ha6 := b6.lt
    have hE6 : h5.length < h6.length := (List.getElem?_eq_some_iff.mp eE).1
    have eS6 := m6.cell eS (by have := b4.lt; omega)
    refine ⟨by simp, ?_⟩
    rw [it_range (by omega) (by omega), ws_some, Int.toNat_natCast]
    refine comp_draw tupI (fun l => l.length = q) b6 (by rw [rng_len]; omega) (fun x hx h7 R7 b7 m7 k7 => ?_) fun A h7 hA hAp b7 m7 eA => ?_
    · simp only [wpSs, wpS, wpE, wpEs, wpCs, wpP, wpPs, List.map, List.replicate, List.cons_append, List.nil_append, List.append_nil, List.getElem?_cons_zero, List.getElem?_cons_succ, jn, ws_some, List.length_cons, List.length_nil, List.set, at0, at1, at2, idx_tup, c_gt, c_lt, c_le, c_ge, c_is, c_isnt, c_eqI, c_neI, c_eqS, c_neS, c_eqB, c_neB, isS, isNonD, isBlD, t_bl, b_int, b_abs, b_max2, b_min2, b_lenT, o_add, o_sub, permD, Option.map_some, wipeE]
      refine ⟨by simp, ?_⟩
      rw [it_range (by omega) (by omega), ws_some, Int.toNat_natCast]
      refine comp_draw D.int (fun _ => True) b7 (by rw [rng_len]; omega) (fun y hy h8 R8 b8 m8 k8 => ?_) fun r h8 hr hrp b8 m8 er => ?_
      · refine ⟨by simp, ?_⟩
        refine take_bx (n := N + 2) b8 (by omega) (by omega) fun d h9 _ _ b9 m9 => ?_
        exact k8 _ h9 trivial b9 m9
      · rw [b_tupleL er, ws_some]
        exact k7 r h8 (by rw [hr, rng_len]) b8 m8
    rw [rng_len] at hA
    have m07 := m06.trans m7
    have eS7 := m7.cell eS6 (by have := b4.lt; omega)
    have eE7 := m7.cell eE (by omega)
    refine ⟨by simp, ?_⟩
    have okM : OKM S ends A n m q := ⟨by omega, by omega, by omega, by omega, by omega, by omega, hS, hE, hA, hSp, hAp⟩
    refine least_spec (N := N + 1) okM eS7 eE7 eA (fun h8 p8 => ?_) fun W n' h8 okW p8 => ?_
    · refine ⟨by simp, ?_⟩
      simp only [wpSs, wpS, wpE, wpEs, wpCs, wpP, wpPs, List.map, List.replicate, List.cons_append, List.nil_append, List.append_nil, List.getElem?_cons_zero, List.getElem?_cons_succ, jn, ws_some, List.length_cons, List.length_nil, List.set, at0, at1, at2, idx_tup, c_gt, c_lt, c_le, c_ge, c_is, c_isnt, c_eqI, c_neI, c_eqS, c_neS, c_eqB, c_neB, isS, isNonD, isBlD, t_bl, b_int, b_abs, b_max2, b_min2, b_lenT, o_add, o_sub, permD, Option.map_some, if_true]
      refine ⟨by simp, ?_⟩
      simp only [Bool.not_true, Bool.false_eq_true, if_false]
      exact kk _ _ ⟨_, _, _, _, _, _, _, _, _, _, _, _, rfl, b7.pre p8, m07.trans (MX.pre p8)⟩
    · refine ⟨by simp, ?_⟩
      have hnn : ∀ W : World, isNonD (worldD W) = false := fun _ => rfl
      simp only [wpSs, wpS, wpE, wpEs, wpCs, wpP, wpPs, List.map, List.replicate, List.cons_append, List.nil_append, List.append_nil, List.getElem?_cons_zero, List.getElem?_cons_succ, jn, ws_some, List.length_cons, List.length_nil, List.set, at0, at1, at2, idx_tup, c_gt, c_lt, c_le, c_ge, c_is, c_isnt, c_eqI, c_neI, c_eqS, c_neS, c_eqB, c_neB, isS, isNonD, isBlD, t_bl, b_int, b_abs, b_max2, b_min2, b_lenT, o_add, o_sub, permD, Option.map_some]
      show (if isNonD (worldD W) = true then _ else _)
      rw [hnn, if_neg (by decide)]
      refine kinds_of_spec (N := N + 2) okW (by omega) fun W' m' h9 okW' p9 => ?_
      have b9 := (b7.pre p8).pre p9
      have m09 := m07.trans (MX.pre (p8.trans p9))
      refine ⟨by simp, ?_⟩
      show (if (!isNonD (worldD W')) = true then _ else _)
      rw [hnn, Bool.not_false, if_pos rfl, w_at0, ws_some]
      have hlen : bltS .len [stepsD W'.steps] h9 = some (.int (n' : Int), h9) := by
        unfold stepsD
        rw [b_lenT, List.length_map, okW'.ls]
      rw [hlen, ws_some, c_gt, ws_some]
      by_cases c1 : (1 : Int) < (n' : Int)
      · rw [decide_eq_true c1, if_pos rfl]
        obtain ⟨rd, r1, r2⟩ := len0 okW' (h := h9)
        dsimp only
        rw [w_at0, ws_some, r1, ws_some, b_lenT, ws_some, c_gt, ws_some]
        by_cases c2 : (1 : Int) < ((rd.length : Nat) : Int)
        · rw [decide_eq_true c2, if_pos rfl]
          exact k W' n' m' q h9 okW' b9 m09
        · rw [decide_eq_false c2, if_neg (by decide)]
          exact kk _ _ ⟨_, _, _, _, _, _, _, _, _, _, _, _, rfl, b9, m09⟩
      · rw [decide_eq_false c1, if_neg (by decide), if_neg (by decide)]
        exact kk _ _ ⟨_, _, _, _, _, _, _, _, _, _, _, _, rfl, b9, m09⟩
  · obtain ⟨e1, e2, e3, e4, e5, e6, e7, e8, e9, e10, e11, e12, rfl, b0, m0⟩ := hi
    simp only [wpSs, wpS, wpE, wpEs, wpCs, wpP, wpPs, List.map, List.replicate, List.cons_append, List.nil_append, List.append_nil, List.getElem?_cons_zero, List.getElem?_cons_succ, jn, ws_some, List.length_cons, List.length_nil, List.set, at0, at1, at2, idx_tup, c_gt, c_lt, c_le, c_ge, c_is, c_isnt, c_eqI, c_neI, c_eqS, c_neS, c_eqB, c_neB, isS, isNonD, isBlD, t_bl, b_int, b_abs, b_max2, b_min2, b_lenT, o_add, o_sub, permD, Option.map_some]
    exact typed h' b0 m0
end M67

end
section
set_option Elab.async false
set_option linter.all false
set_option autoImplicit false
/-! all books, drawn rows -/
namespace M67
open M
theorem o_addB {h : Hm} {a b : Nat} {xs ys : List D} (e1 : h[a]? = some (.lst xs)) (e2 : h[b]? = some (.lst ys)) (hl : xs.length + ys.length ≤ 1000000) : binS .add (.ref a) (.ref b) h = some (.ref h.length, h ++ [.lst (xs ++ ys)]) := by
  have g1 : getM h a = some xs := by unfold getM; rw [e1]
  have g2 : getM h b = some ys := by unfold getM; rw [e2]
  simp only [binS, g1, g2]
  rw [if_pos (by unfold LIM; omega)]
  rfl
theorem notin_book {h : Hm} {bk : List Nat} {k : Nat} : cmpS .notin (.int (k : Int)) (bookD bk) h = some (!decide (k ∈ bk)) := by
  have e1 : snap h (.int (k : Int)) = some (.int (k : Int)) := rfl
  have e2 : snapDs (snapN h 6) (natsD bk) = some (natsD bk) := snap_nats bk
  have e3 := any_opt bk (some k)
  show (inS h (.int (k : Int)) (.tup (natsD bk))).map not = _
  simp only [inS, anyEq, e1, e2, deps_nats, dep]
  rw [if_pos (by omega)]
  simp only [optD, inO] at e3
  rw [e3]
  rfl
def condB (free : Bool) (bk : List Nat) (k : Nat) : Bool := free || (decide (k = 0) || !decide (k ∈ bk))
theorem eq_free {h : Hm} {free : Bool} : cmpS .eq (mannerD free) (.str [102, 114, 101, 101]) h = some free := by
  unfold mannerD
  rw [c_eqS]
  cases free <;> decide
theorem books_spec {W : World} {n m q : Nat} (ok : OKW W n m q) {words : Nat} (hw : words ≤ 3) {free : Bool} {N : Nat} {h : Hm} {Q : VQ} {E : XP} (k : ∀ (Bs : List (List Nat)) r h', h <+: h' → h.length ≤ r → h'[r]? = some (.lst (Bs.map bookD)) → (∀ b ∈ Bs, OKB m words b) → Bs ≠ [] → Bs.length ≤ 8000 → Q (.ref r) h') : FW P (N + 1) 55 [worldD W, .int words, mannerD free] h Q E := by
  have hm1 := ok.m1
  have hm2 := ok.m2
  refine fw_open (d := D55) rfl rfl ?_
  unfold D55
  simp only [wpSs, wpS, wpE, wpEs, wpCs, wpP, wpPs, List.map, List.replicate, List.cons_append, List.nil_append, List.append_nil, List.getElem?_cons_zero, List.getElem?_cons_succ, jn, ws_some, List.length_cons, List.length_nil, List.set, at0, at1, at2, idx_tup, c_gt, c_lt, c_le, c_ge, c_is, c_isnt, c_eqI, c_neI, c_eqS, c_neS, c_eqB, c_neB, isS, isNonD, isBlD, t_bl, b_int, b_abs, b_max2, b_min2, b_lenT, o_add, o_sub, permD, Option.map_some]
  refine ⟨by simp, ?_⟩
  rw [it_range (by omega) (by omega), ws_some, Int.toNat_natCast]
  have pw : ∀ j, j ≤ words → 20 ^ j ≤ 8000 := fun j hj => by
    have : j = 0 ∨ j = 1 ∨ j = 2 ∨ j = 3 := by omega
    rcases this with rfl | rfl | rfl | rfl <;> decide
  refine forL_inv (fun l env h' => ∃ (j : Nat) (Bs : List (List Nat)) (r : Nat) (e4 e5 e6 e7 : Option D), l = (rngD 0 words).drop j ∧ j ≤ words ∧ h <+: h' ∧ h.length ≤ r ∧ h'[r]? = some (.lst (Bs.map bookD)) ∧ (∀ b ∈ Bs, OKB m j b) ∧ Bs ≠ [] ∧ Bs.length ≤ 20 ^ j ∧ env = [some (worldD W), some (.int words), some (mannerD free), some (.ref r), e4, e5, e6, e7])
    (fun _ _ _ _ => still_nil) (fun x l env h' R hi kk => ?_) (fun env h' hi => ?_) _ _ _ ⟨0, [[]], h.length, none, none, none, none, rfl, by omega, pre_one, Nat.le_refl _, last_at, (fun b hb => by rw [List.mem_singleton.mp hb]; exact ⟨rfl, fun k hk => absurd hk List.not_mem_nil⟩), by simp, by simp, rfl⟩
  · obtain ⟨j, Bs, r, e4, e5, e6, e7, hj, hjl, pp, hr, er, hB, hne, hBl, rfl⟩ := hi
    have hjn : j < words := by
      rcases Nat.lt_or_ge j words with z | z
      · exact z
      · rw [rng_end z] at hj; cases hj
    rw [rng_drop hjn] at hj
    cases hj
    have hp1 := pw (j + 1) hjn
    rw [Nat.pow_succ] at hp1
    simp only [wpSs, wpS, wpE, wpEs, wpCs, wpP, wpPs, List.map, List.replicate, List.cons_append, List.nil_append, List.append_nil, List.getElem?_cons_zero, List.getElem?_cons_succ, jn, ws_some, List.length_cons, List.length_nil, List.set, at0, at1, at2, idx_tup, c_gt, c_lt, c_le, c_ge, c_is, c_isnt, c_eqI, c_neI, c_eqS, c_neS, c_eqB, c_neB, isS, isNonD, isBlD, t_bl, b_int, b_abs, b_max2, b_min2, b_lenT, o_add, o_sub, permD, Option.map_some]
    refine ⟨by simp, by simp, ?_⟩
    rw [it_lst (pre_at pre_one er), ws_some]
    have hrl : r < h'.length := (List.getElem?_eq_some_iff.mp er).1
    refine forL_inv (fun l env hh => ∃ (dn rest Ls : List (List Nat)) (c : Nat) (e6 e7 : Option D), Bs = dn ++ rest ∧ l = rest.map bookD ∧ h' <+: hh ∧ h'.length ≤ c ∧ hh[c]? = some (.lst (Ls.map bookD)) ∧ (∀ b ∈ Ls, OKB m (j + 1) b) ∧ Ls.length ≤ dn.length * 20 ∧ (dn ≠ [] → Ls ≠ []) ∧ env = [some (worldD W), some (.int words), some (mannerD free), some (.ref r), some (.int (j : Int)), some (.ref c), e6, e7])
      (fun l env hh ⟨_, _, _, _, _, _, _, _, ph, _⟩ => still_one (pre_at ph er)) (fun x l env hh R' hi kk2 => ?_) (fun env hh hi => ?_) _ _ _ ⟨[], Bs, [], h'.length, _, _, rfl, rfl, pre_one, Nat.le_refl _, last_at, (fun b hb => absurd hb List.not_mem_nil), by simp, (fun z => absurd rfl z), rfl⟩
    · obtain ⟨dn, rest, Ls, c, e6, e7, hd, hx, ph, hc, ec, hL, hLl, hLn, rfl⟩ := hi
      cases rest with
      | nil => cases hx
      | cons bk rest =>
        rw [List.map_cons] at hx
        cases hx
        have hbk := hB bk (by rw [hd]; simp)
        simp only [wpSs, wpS, wpE, wpEs, wpCs, wpP, wpPs, List.map, List.replicate, List.cons_append, List.nil_append, List.append_nil, List.getElem?_cons_zero, List.getElem?_cons_succ, jn, ws_some, List.length_cons, List.length_nil, List.set, at0, at1, at2, idx_tup, c_gt, c_lt, c_le, c_ge, c_is, c_isnt, c_eqI, c_neI, c_eqS, c_neS, c_eqB, c_neB, isS, isNonD, isBlD, t_bl, b_int, b_abs, b_max2, b_min2, b_lenT, o_add, o_sub, permD, Option.map_some, w_at0]
        refine ⟨by simp, ?_⟩
        obtain ⟨rd, r1, r2⟩ := len0 ok (h := hh)
        rw [r1, ws_some, b_lenT, ws_some, r2, it_range (by omega) (by omega), ws_some, Int.toNat_natCast, range_map]
        refine comp_enc (xs := List.range m) (fun (k : Nat) => D.int (k : Int)) (fun k => if condB free bk k = true then some (bookD (bk ++ [k])) else none) still_nil (by simp; unfold LIM; omega) (fun x hx h2 R2 p2 k2 => ?_) fun h2 p2 e2 => ?_
        · have k2 := k2 h2 (List.prefix_refl _)
          have hxm := List.mem_range.mp hx
          have elt : binS .add (bookD bk) (.tup [.int (x : Int)]) h2 = some (bookD (bk ++ [x]), h2) := by
            unfold bookD
            rw [o_addT (by rw [List.length_map, hbk.len]; unfold LIM; simp; omega)]
            simp
          simp only [wpSs, wpS, wpE, wpEs, wpCs, wpP, wpPs, List.map, List.replicate, List.cons_append, List.nil_append, List.append_nil, List.getElem?_cons_zero, List.getElem?_cons_succ, jn, ws_some, List.length_cons, List.length_nil, List.set, at0, at1, at2, idx_tup, c_gt, c_lt, c_le, c_ge, c_is, c_isnt, c_eqI, c_neI, c_eqS, c_neS, c_eqB, c_neB, isS, isNonD, isBlD, t_bl, b_int, b_abs, b_max2, b_min2, b_lenT, o_add, o_sub, permD, Option.map_some, wipeE]
          refine ⟨by simp, ?_⟩
          rw [eq_free, ws_some]
          unfold condB at k2
          cases free with
          | true =>
            rw [if_pos rfl, if_pos rfl, if_pos trivial, elt, ws_some]
            simp only [Bool.true_or, if_true] at k2
            exact k2
          | false =>
            rw [if_neg (by decide)]
            by_cases c0 : x = 0
            · subst c0
              simp only [decide_true, Bool.true_or, Bool.or_true, if_true] at k2
              have : decide (((0 : Nat) : Int) = 0) = true := rfl
              rw [this, if_pos rfl, if_pos rfl, if_pos trivial, elt, ws_some]
              exact k2
            · have c0' : ¬ (x : Int) = 0 := by omega
              rw [decide_eq_false c0', if_neg (by decide), notin_book, ws_some]
              cases hin : decide (x ∈ bk) with
              | true =>
                simp only [Bool.not_true, Bool.false_eq_true, if_false]
                simp only [hin, c0, decide_false, Bool.not_true, Bool.or_self, Bool.false_eq_true, if_false] at k2
                exact k2
              | false =>
                simp only [Bool.not_false, if_true]
                rw [elt, ws_some]
                simp only [hin, c0, decide_false, Bool.not_false, Bool.or_true, if_true] at k2
                exact k2
        · have e3 : (List.range m).filterMap (fun k => if condB free bk k = true then some (bookD (bk ++ [k])) else none) = (((List.range m).filter (condB free bk)).map fun k => bk ++ [k]).map bookD := by
            rw [List.map_map]
            exact filterMap_if (condB free bk) (fun k => bookD (bk ++ [k])) _
          rw [e3] at e2
          have hfl : ((List.range m).filter (condB free bk)).length ≤ m := by
            have := List.length_filter_le (condB free bk) (List.range m)
            rw [List.length_range] at this
            exact this
          have hdl : dn.length + 1 ≤ Bs.length := by rw [hd]; simp
          have hmul : dn.length * 20 ≤ 20 ^ j * 20 := Nat.mul_le_mul_right 20 (by omega)
          rw [o_addB (pre_at p2 ec) e2 (by rw [List.length_map, List.length_map, List.length_map]; omega), ws_some]
          refine ⟨by simp, ?_⟩
          refine kk2 _ _ ⟨dn ++ [bk], rest, Ls ++ (((List.range m).filter (condB free bk)).map fun k => bk ++ [k]), h2.length, _, _, by rw [hd]; simp, rfl, (ph.trans p2).trans pre_one, Nat.le_trans ph.length_le p2.length_le, by rw [last_at, List.map_append], fun b hb => ?_, ?_, fun _ => ?_, rfl⟩
          · rcases List.mem_append.mp hb with hb | hb
            · exact hL b hb
            · obtain ⟨k, hk, rfl⟩ := List.mem_map.mp hb
              have hkm := List.mem_range.mp (List.mem_filter.mp hk).1
              refine ⟨by simp [hbk.len], fun y hy => ?_⟩
              rcases List.mem_append.mp hy with hy | hy
              · exact hbk.lt y hy
              · rw [List.mem_singleton.mp hy]; exact hkm
          · rw [List.length_append, List.length_append, List.length_map, List.length_singleton, Nat.add_mul]
            omega
          · have : (0 : Nat) ∈ (List.range m).filter (condB free bk) := List.mem_filter.mpr ⟨List.mem_range.mpr (by omega), by simp [condB]⟩
            have h2 : bk ++ [0] ∈ Ls ++ (((List.range m).filter (condB free bk)).map fun k => bk ++ [k]) := List.mem_append_right _ (List.mem_map.mpr ⟨0, this, rfl⟩)
            exact List.ne_nil_of_mem h2
    · obtain ⟨dn, rest, Ls, c, e6, e7, hd, hx, ph, hc, ec, hL, hLl, hLn, rfl⟩ := hi
      have hr0 : rest = [] := List.map_eq_nil_iff.mp hx.symm
      subst hr0
      rw [List.append_nil] at hd
      subst hd
      simp only [wpSs, wpS, wpE, wpEs, wpCs, wpP, wpPs, List.map, List.replicate, List.cons_append, List.nil_append, List.append_nil, List.getElem?_cons_zero, List.getElem?_cons_succ, jn, ws_some, List.length_cons, List.length_nil, List.set, at0, at1, at2, idx_tup, c_gt, c_lt, c_le, c_ge, c_is, c_isnt, c_eqI, c_neI, c_eqS, c_neS, c_eqB, c_neB, isS, isNonD, isBlD, t_bl, b_int, b_abs, b_max2, b_min2, b_lenT, o_add, o_sub, permD, Option.map_some]
      refine ⟨by simp, ?_⟩
      refine kk _ _ ⟨j + 1, Ls, c, _, _, _, _, rfl, by omega, pp.trans ph, Nat.le_trans pp.length_le hc, ec, hL, hLn hne, ?_, rfl⟩
      rw [Nat.pow_succ]
      exact Nat.le_trans hLl (Nat.mul_le_mul_right 20 hBl)
  · obtain ⟨j, Bs, r, e4, e5, e6, e7, hj, hjl, pp, hr, er, hB, hne, hBl, rfl⟩ := hi
    have hjn : words ≤ j := by
      rcases Nat.lt_or_ge j words with z | z
      · rw [rng_drop z] at hj; cases hj
      · exact z
    have : j = words := by omega
    subst this
    simp only [wpSs, wpS, wpE, wpEs, wpCs, wpP, wpPs, List.map, List.replicate, List.cons_append, List.nil_append, List.append_nil, List.getElem?_cons_zero, List.getElem?_cons_succ, jn, ws_some, List.length_cons, List.length_nil, List.set, at0, at1, at2, idx_tup, c_gt, c_lt, c_le, c_ge, c_is, c_isnt, c_eqI, c_neI, c_eqS, c_neS, c_eqB, c_neB, isS, isNonD, isBlD, t_bl, b_int, b_abs, b_max2, b_min2, b_lenT, o_add, o_sub, permD, Option.map_some]
    exact k Bs r h' pp hr er hB hne (Nat.le_trans hBl (pw _ (Nat.le_refl _)))
theorem fitlist_spec {W : World} {n m q words : Nat} (ok : OKW W n m q) (hw : words ≤ 3) {free : Bool} {ps : List Pg} (okp : ∀ p ∈ ps, OKP words q p) (hl : ps.length ≤ 100) {N : Nat} {h : Hm} {Q : VQ} {E : XP} (k : ∀ (Bs : List (List Nat)) r h', h <+: h' → h.length ≤ r → h'[r]? = some (.lst (Bs.map bookD)) → (∀ b ∈ Bs, OKB m words b) → Bs.length ≤ 8000 → Q (.ref r) h') : FW P (N + 4) 56 [worldD W, .int words, mannerD free, pagesD ps] h Q E := by
  refine fw_open (d := D56) rfl rfl ?_
  unfold D56
  simp only [wpSs, wpS, wpE, wpEs, wpCs, wpP, wpPs, List.map, List.replicate, List.cons_append, List.nil_append, List.append_nil, List.getElem?_cons_zero, List.getElem?_cons_succ, jn, ws_some, List.length_cons, List.length_nil, List.set, at0, at1, at2, idx_tup, c_gt, c_lt, c_le, c_ge, c_is, c_isnt, c_eqI, c_neI, c_eqS, c_neS, c_eqB, c_neB, isS, isNonD, isBlD, t_bl, b_int, b_abs, b_max2, b_min2, b_lenT, o_add, o_sub, permD, Option.map_some]
  refine books_spec (N := N + 2) ok hw fun Bs r h1 p1 hr er hB hne hBl => ?_
  rw [it_lst er, ws_some]
  refine comp_enc (xs := Bs) bookD (fun b => if ps.all (holdsF W b) = true then some (bookD b) else none) (still_one er) (by unfold LIM; omega) (fun b hb h2 R2 p2 k2 => ?_) fun h2 p2 e2 => ?_
  · simp only [wpSs, wpS, wpE, wpEs, wpCs, wpP, wpPs, List.map, List.replicate, List.cons_append, List.nil_append, List.append_nil, List.getElem?_cons_zero, List.getElem?_cons_succ, jn, ws_some, List.length_cons, List.length_nil, List.set, at0, at1, at2, idx_tup, c_gt, c_lt, c_le, c_ge, c_is, c_isnt, c_eqI, c_neI, c_eqS, c_neS, c_eqB, c_neB, isS, isNonD, isBlD, t_bl, b_int, b_abs, b_max2, b_min2, b_lenT, o_add, o_sub, permD, Option.map_some, wipeE, pagesD, it_tup]
    refine ⟨by simp, ?_⟩
    refine comp_enc (xs := ps) pgD (notF (holdsF W b)) still_nil (by unfold LIM; omega) (fun p hp h3 R3 p3 k3 => ?_) fun h3 p3 e3 => ?_
    · refine ⟨by simp, ?_⟩
      refine holds2_spec (N := N) ok (hB b hb) (okp p hp) fun h' p' => ?_
      have := k3 h' p'
      unfold notF at this
      simp only [wpSs, wpS, wpE, wpEs, wpCs, wpP, wpPs, List.map, List.replicate, List.cons_append, List.nil_append, List.append_nil, List.getElem?_cons_zero, List.getElem?_cons_succ, jn, ws_some, List.length_cons, List.length_nil, List.set, at0, at1, at2, idx_tup, c_gt, c_lt, c_le, c_ge, c_is, c_isnt, c_eqI, c_neI, c_eqS, c_neS, c_eqB, c_neB, isS, isNonD, isBlD, t_bl, b_int, b_abs, b_max2, b_min2, b_lenT, o_add, o_sub, permD, Option.map_some]
      cases hh : holdsF W b p with
      | true => rw [hh] at this; simpa using this
      | false => rw [hh] at this; simpa using this
    · rw [not_fm] at e3
      rw [eq_empty (pre_at pre_one e3) last_at, ws_some, not_nil]
      have k2 := k2 (h3 ++ [.lst []]) (p3.trans pre_one)
      cases hh : ps.all (holdsF W b) with
      | true => simp only [hh, if_true] at k2 ⊢; exact k2
      | false => simp only [hh, Bool.false_eq_true, if_false] at k2 ⊢; exact k2
  · have e3 : Bs.filterMap (fun b => if ps.all (holdsF W b) = true then some (bookD b) else none) = (Bs.filter fun b => ps.all (holdsF W b)).map bookD := filterMap_if (fun b => ps.all (holdsF W b)) bookD Bs
    rw [e3] at e2
    exact k _ _ h2 (p1.trans p2) p1.length_le e2 (fun b hb => hB b (List.mem_filter.mp hb).1) (Nat.le_trans (List.length_filter_le _ _) hBl)
theorem row_spec {words most : Nat} (hw : 1 ≤ words) (hw2 : words ≤ 100) (hm : most ≤ 50) {N : Nat} {h : Hm} {a : Nat} {Q : VQ} {E : XP} (bx : BX h a) (k : ∀ (r : List Nat) h', (∀ w ∈ r, w < words) → r.length ≤ 100 → BX h' a → MX a h h' → Q (rowD r) h') : FW P (N + 2) 57 [.ref a, .int words, .int most] h Q E := by
  refine fw_open (d := D57) rfl rfl ?_
  unfold D57
  simp only [wpSs, wpS, wpE, wpEs, wpCs, wpP, wpPs, List.map, List.replicate, List.cons_append, List.nil_append, List.append_nil, List.getElem?_cons_zero, List.getElem?_cons_succ, jn, ws_some, List.length_cons, List.length_nil, List.set, at0, at1, at2, idx_tup, c_gt, c_lt, c_le, c_ge, c_is, c_isnt, c_eqI, c_neI, c_eqS, c_neS, c_eqB, c_neB, isS, isNonD, isBlD, t_bl, b_int, b_abs, b_max2, b_min2, b_lenT, o_add, o_sub, permD, Option.map_some]
  refine take_bx (n := N) bx (by omega) (by omega) fun t h1 t0 t1 b1 m1 => ?_
  rw [it_range (by omega) (by omega), ws_some]
  refine comp_draw (fun (k : Nat) => D.int (k : Int)) (fun k => k < words) b1 (by rw [rng_len]; omega) (fun x hx h2 R2 b2 m2 k2 => ?_) fun r h2 hr hrp b2 m2 er => ?_
  · simp only [wpSs, wpS, wpE, wpEs, wpCs, wpP, wpPs, List.map, List.replicate, List.cons_append, List.nil_append, List.append_nil, List.getElem?_cons_zero, List.getElem?_cons_succ, jn, ws_some, List.length_cons, List.length_nil, List.set, at0, at1, at2, idx_tup, c_gt, c_lt, c_le, c_ge, c_is, c_isnt, c_eqI, c_neI, c_eqS, c_neS, c_eqB, c_neB, isS, isNonD, isBlD, t_bl, b_int, b_abs, b_max2, b_min2, b_lenT, o_add, o_sub, permD, Option.map_some, wipeE]
    refine ⟨by simp, ?_⟩
    refine take_bx (n := N) b2 (by omega) (by omega) fun d h3 d0 d1 b3 m3 => ?_
    obtain ⟨dn, hd⟩ : ∃ n : Nat, (n : Int) = d := ⟨d.toNat, by omega⟩
    rw [← hd]
    exact k2 dn h3 (by omega) b3 m3
  · rw [b_tupleL er]
    exact k r h2 hrp (by rw [hr, rng_len]; omega) b2 (m1.trans m2)
end M67

end
section
set_option Elab.async false
set_option linter.all false
set_option autoImplicit false
/-! drawn pages, talks, asks -/
namespace M67
open M
theorem lawrow_spec {W : World} {n m q words : Nat} (ok : OKW W n m q) {bk : List Nat} (okb : OKB m words bk) (hw2 : words ≤ 100) {most : Nat} (hm : most ≤ 50) {N : Nat} {h : Hm} {a : Nat} {Q : VQ} {E : XP} (bx : BX h a) (k : ∀ (r : List Nat) h', (∀ w ∈ r, w < words) → r.length ≤ 100 → BX h' a → MX a h h' → Q (rowD r) h') : FW P (N + 3) 58 [.ref a, worldD W, bookD bk, .int most] h Q E := by
  refine fw_open (d := D58) rfl rfl ?_
  unfold D58
  simp only [wpSs, wpS, wpE, wpEs, wpCs, wpP, wpPs, List.map, List.replicate, List.cons_append, List.nil_append, List.append_nil, List.getElem?_cons_zero, List.getElem?_cons_succ, jn, ws_some, List.length_cons, List.length_nil, List.set, at0, at1, at2, idx_tup, c_gt, c_lt, c_le, c_ge, c_is, c_isnt, c_eqI, c_neI, c_eqS, c_neS, c_eqB, c_neB, isS, isNonD, isBlD, t_bl, b_int, b_abs, b_max2, b_min2, b_lenT, o_add, o_sub, permD, Option.map_some]
  refine ⟨by simp, by simp, ?_⟩
  refine take_bx (n := N + 1) bx (by omega) (by omega) fun t h1 t0 t1 b1 m1 => ?_
  rw [it_range (by omega) (by omega), ws_some]
  refine forL_inv (fun l env h' => ∃ (j b : Nat) (row : List Nat) (e4 e7 e8 : Option D), l = (rngD 0 t.toNat).drop j ∧ BX h' a ∧ MX a h h' ∧ b < n ∧ (∀ w ∈ row, w < words) ∧ row.length ≤ j ∧ j ≤ t.toNat ∧ env = [some (.ref a), some (worldD W), some (bookD bk), some (.int most), e4, some (.int (b : Int)), some (rowD row), e7, e8])
    (fun _ _ _ _ => still_nil) (fun x l env h' R hi kk => ?_) (fun env h' hi => ?_) _ _ _ ⟨0, 0, [], none, none, none, rfl, b1, m1, ok.n1, (fun w hw => absurd hw List.not_mem_nil), by simp, by omega, rfl⟩
  · obtain ⟨j, b, row, e4, e7, e8, hj, bh, mh, hb, hr, hrl, hjt, rfl⟩ := hi
    have hjn : j < t.toNat := by
      rcases Nat.lt_or_ge j t.toNat with z | z
      · exact z
      · rw [rng_end z] at hj; cases hj
    rw [rng_drop hjn] at hj
    cases hj
    simp only [wpSs, wpS, wpE, wpEs, wpCs, wpP, wpPs, List.map, List.replicate, List.cons_append, List.nil_append, List.append_nil, List.getElem?_cons_zero, List.getElem?_cons_succ, jn, ws_some, List.length_cons, List.length_nil, List.set, at0, at1, at2, idx_tup, c_gt, c_lt, c_le, c_ge, c_is, c_isnt, c_eqI, c_neI, c_eqS, c_neS, c_eqB, c_neB, isS, isNonD, isBlD, t_bl, b_int, b_abs, b_max2, b_min2, b_lenT, o_add, o_sub, permD, Option.map_some]
    refine ⟨by simp, ?_⟩
    have hbl : bltS .len [bookD bk] h' = some (.int (words : Int), h') := by
      unfold bookD
      rw [b_lenT, List.length_map, okb.len]
    rw [hbl, ws_some, it_range (by omega) (by omega), ws_some, Int.toNat_natCast, range_map]
    refine comp_enc (xs := List.range words) (fun (k : Nat) => D.int (k : Int)) (fun w => if (stepW W b (bk.getD w 0)).isSome = true then some (D.int (w : Int)) else none) still_nil (by simp; unfold LIM; omega) (fun w hw h2 R2 p2 k2 => ?_) fun h2 p2 e2 => ?_
    · have k2 := k2 h2 (List.prefix_refl _)
      have hwm := List.mem_range.mp hw
      obtain ⟨bk1, bk2⟩ := book_at okb hwm (h := h2)
      obtain ⟨rd, s1, s2⟩ := step_at ok hb bk2 (h := h2)
      simp only [wpSs, wpS, wpE, wpEs, wpCs, wpP, wpPs, List.map, List.replicate, List.cons_append, List.nil_append, List.append_nil, List.getElem?_cons_zero, List.getElem?_cons_succ, jn, ws_some, List.length_cons, List.length_nil, List.set, at0, at1, at2, idx_tup, c_gt, c_lt, c_le, c_ge, c_is, c_isnt, c_eqI, c_neI, c_eqS, c_neS, c_eqB, c_neB, isS, isNonD, isBlD, t_bl, b_int, b_abs, b_max2, b_min2, b_lenT, o_add, o_sub, permD, Option.map_some, wipeE]
      refine ⟨by simp, ?_⟩
      rw [w_at0, ws_some, s1, ws_some, bk1, ws_some, s2, ws_some]
      cases hs : stepW W b (bk.getD w 0) with
      | none =>
        simp only [hs, Option.isSome_none, Bool.false_eq_true, if_false] at k2
        simp only [optD, Bool.not_true, Bool.false_eq_true, if_false]
        exact k2
      | some u =>
        simp only [hs, Option.isSome_some, if_true] at k2
        simp only [optD, Bool.not_false, if_true]
        exact k2
    · have e3 : (List.range words).filterMap (fun w => if (stepW W b (bk.getD w 0)).isSome = true then some (D.int (w : Int)) else none) = natsD ((List.range words).filter fun w => (stepW W b (bk.getD w 0)).isSome) :=
        filterMap_if (fun w => (stepW W b (bk.getD w 0)).isSome) (fun (w : Nat) => D.int (w : Int)) _
      rw [e3] at e2
      refine ⟨by simp, ?_⟩
      have e2' := e2
      rw [nats_map] at e2'
      rw [eq_empty (pre_at pre_one e2') last_at, ws_some]
      have bh2 := (bh.pre p2).pre (pre_one (c := .lst []))
      have mh2 := mh.trans (MX.pre (p2.trans (pre_one (c := .lst []))))
      have hfl : ((List.range words).filter fun w => (stepW W b (bk.getD w 0)).isSome).length ≤ words := by
        have := List.length_filter_le (fun w => (stepW W b (bk.getD w 0)).isSome) (List.range words)
        rw [List.length_range] at this
        exact this
      by_cases c0 : (((List.range words).filter fun w => (stepW W b (bk.getD w 0)).isSome).map fun (k : Nat) => (k : Int)) = []
      · rw [decide_eq_true c0, if_pos rfl]
        exact k row _ hr (by omega) bh2 mh2
      · rw [decide_eq_false c0, if_neg (by decide)]
        have hal := bh.lt
        have e2o := pre_at (pre_one (c := Cell.lst [])) e2
        refine pick_bx (n := N) bh2 (by show h'.length ≠ a; omega) e2o (fun z => c0 (by unfold natsD at z; rw [List.map_eq_nil_iff] at z ⊢; exact z)) (by unfold natsD; rw [List.length_map]; omega) fun d hd h3 b3 m3 => ?_
        obtain ⟨w, hwf, rfl⟩ := List.mem_map.mp hd
        obtain ⟨hwr, hws⟩ := List.mem_filter.mp hwf
        have hwm := List.mem_range.mp hwr
        obtain ⟨u, hu⟩ := Option.isSome_iff_exists.mp hws
        obtain ⟨bk1, bk2⟩ := book_at okb hwm (h := h3)
        obtain ⟨rd, s1, s2⟩ := step_at ok hb bk2 (h := h3)
        refine ⟨by simp, ?_⟩
        rw [w_at0, ws_some, s1, ws_some, bk1, ws_some, s2, ws_some, hu]
        have elt : binS .add (rowD row) (.tup [.int (w : Int)]) h3 = some (rowD (row ++ [w]), h3) := by
          unfold rowD
          rw [o_addT (by rw [List.length_map]; unfold LIM; simp; omega)]
          simp
        rw [elt, ws_some]
        refine ⟨by simp, by simp, ?_⟩
        refine kk _ _ ⟨j + 1, u, row ++ [w], _, _, _, rfl, b3, mh2.trans m3, stepW_lt ok hu, fun v hv => ?_, by simp; omega, by omega, rfl⟩
        rcases List.mem_append.mp hv with hv | hv
        · exact hr v hv
        · rw [List.mem_singleton.mp hv]; exact hwm
  · obtain ⟨j, b, row, e4, e7, e8, hj, bh, mh, hb, hr, hrl, hjt, rfl⟩ := hi
    simp only [wpSs, wpS, wpE, wpEs, wpCs, wpP, wpPs, List.map, List.replicate, List.cons_append, List.nil_append, List.append_nil, List.getElem?_cons_zero, List.getElem?_cons_succ, jn, ws_some, List.length_cons, List.length_nil, List.set, at0, at1, at2, idx_tup, c_gt, c_lt, c_le, c_ge, c_is, c_isnt, c_eqI, c_neI, c_eqS, c_neS, c_eqB, c_neB, isS, isNonD, isBlD, t_bl, b_int, b_abs, b_max2, b_min2, b_lenT, o_add, o_sub, permD, Option.map_some]
    exact k row h' hr (by omega) bh mh
theorem meaning2_fm {m words : Nat} {bk : List Nat} (okb : OKB m words bk) {row : List Nat} (hr : ∀ w ∈ row, w < words) {h0 : Hm} {Q' : Hm → Prop} {step : D → Hm → (Option D → Hm → Prop) → Prop} (hl : row.length ≤ 1000)
    (hs : ∀ w ∈ row, ∀ (h : Hm) (R : Option D → Hm → Prop), h0 <+: h → R (kf bk (.int (w : Int))) h → step (.int (w : Int)) h R) (k : ∀ h', h0 <+: h' → h'[h0.length]? = some (.lst ((meanF bk row).map fun (k : Nat) => D.int (k : Int))) → Q' h') : compL [] h0.length step Q' (row.map fun (k : Nat) => D.int (k : Int)) (h0 ++ [.lst []]) := by
  refine comp_enc (xs := row) (fun (k : Nat) => D.int (k : Int)) (fun (w : Nat) => kf bk (.int (w : Int))) still_nil (by unfold LIM; omega) (fun w hw h1 R p1 kk => hs w hw h1 R p1 (kk h1 (List.prefix_refl _))) fun h' p' e' => ?_
  have : row.filterMap (fun (w : Nat) => kf bk (.int (w : Int))) = (meanF bk row).map fun (k : Nat) => D.int (k : Int) := by
    rw [← mean_fm, filterMap_map]
  rw [this] at e'
  exact k h' p' e'
def R59 : List CS := [
  .asg (.slot 5) (.call 53 [(.loc 1), (.loc 2), (.loc 4)] [] [0, 1, 2]),
  .ite (.cmp .eq (.call 17 [(.loc 0), (.lit (.int (6)))] [] [0, 1]) (.lit (.int (0)))) [
    .ret (.tup [(.lit (.str [110, 111, 116, 101, 100])), (.loc 4), (.blt .tuple [(.comp [7] (.slot 7) .val [(.loc 4)] [(.cmp .gt (.idx (.loc 2) (.loc 7)) (.lit (.int (0))))] (.idx (.loc 2) (.loc 7)))])])] [],
  .ite (.cmp .eq (.loc 5) (.lit (.str [110, 111]))) [
    .ret (.tup [(.lit (.str [110, 111, 116])), (.loc 4)])] [],
  .ite (.cmp .eq (.loc 5) (.lit (.str [97, 109, 105, 100]))) [
    .ret (.tup [(.call 18 [(.loc 0), (.lst [(.lit (.str [97, 109, 105, 100])), (.lit (.str [97, 109, 105, 100])), (.lit (.str [115, 111]))])] [] [0, 1]), (.loc 4)])] [],
  .asg (.slot 6) (.call 17 [(.loc 0), (.blt .len [(.loc 5)])] [] [0, 1]),
  .ret (.call 18 [(.loc 0), (.lst [(.tup [(.lit (.str [100, 105, 100])), (.loc 4)]), (.tup [(.lit (.str [115, 111])), (.loc 4)]), (.tup [(.lit (.str [116, 111, 108, 100])), (.loc 4), (.loc 6), (.idx (.loc 5) (.loc 6))])])] [] [0, 1])]
theorem d59_eq : D59 = ⟨4, 8, .asg (.slot 4) (.ife (.cmp .gt (.call 17 [(.loc 0), (.lit (.int (3)))] [] [0, 1]) (.lit (.int (0)))) (.call 58 [(.loc 0), (.loc 1), (.loc 2), (.loc 3)] [] [0, 1, 2, 3]) (.call 57 [(.loc 0), (.blt .len [(.loc 2)]), (.loc 3)] [] [0, 1, 2])) :: R59⟩ := rfl
theorem page_tail {W : World} {n m q words : Nat} (ok : OKW W n m q) {bk : List Nat} (okb : OKB m words bk) {most : Nat} {N : Nat} {F : FnS} (hF : F = FW P (N + 3)) {h : Hm} {a : Nat} {Zt : Ends} {E : XP} {row : List Nat} (hr : ∀ w ∈ row, w < words) (hrl : row.length ≤ 100) (bx : BX h a) (k : ∀ pg h', OKP words q pg → BX h' a → MX a h h' → Zt.rt (pgD pg) h') :
    wpSs F E R59 [some (.ref a), some (worldD W), some (bookD bk), some (.int most), some (rowD row), none, none, none] h Zt := by
  have hq1 := ok.q1
  have hq2 := ok.q2
  unfold R59
  simp only [wpSs, wpS, wpE, wpEs, wpCs, wpP, wpPs, List.map, List.replicate, List.cons_append, List.nil_append, List.append_nil, List.getElem?_cons_zero, List.getElem?_cons_succ, jn, ws_some, List.length_cons, List.length_nil, List.set, at0, at1, at2, idx_tup, c_gt, c_lt, c_le, c_ge, c_is, c_isnt, c_eqI, c_neI, c_eqS, c_neS, c_eqB, c_neB, isS, isNonD, isBlD, t_bl, b_int, b_abs, b_max2, b_min2, b_lenT, o_add, o_sub, permD, Option.map_some]
  subst hF
  refine heard2_spec (N := N + 1) ok okb hr ?_
  refine ⟨by simp, ?_⟩
  refine take_bx (n := N + 2) bx (by omega) (by omega) fun t h1 t0 t1 b1 m1 => ?_
  rw [c_eqI, ws_some]
  by_cases c0 : t = 0
  · rw [decide_eq_true c0, if_pos rfl]
    unfold rowD
    rw [it_tup, ws_some]
    refine meaning2_fm okb hr (by omega) (fun w hw h2 R p2 kk => ?_) fun h2 p2 e2 => ?_
    · simp only [kf, Int.toNat_natCast] at kk
      refine ⟨by simp [wipeE], ?_⟩
      simp only [wpSs, wpS, wpE, wpEs, wpCs, wpP, wpPs, List.map, List.replicate, List.cons_append, List.nil_append, List.append_nil, List.getElem?_cons_zero, List.getElem?_cons_succ, jn, ws_some, List.length_cons, List.length_nil, List.set, at0, at1, at2, idx_tup, c_gt, c_lt, c_le, c_ge, c_is, c_isnt, c_eqI, c_neI, c_eqS, c_neS, c_eqB, c_neB, isS, isNonD, isBlD, t_bl, b_int, b_abs, b_max2, b_min2, b_lenT, o_add, o_sub, permD, Option.map_some, wipeE, (book_at okb (hr w hw) (h := h2)).1]
      have hg := gt_nat0 (h := h2) (k := bk.getD w 0)
      rw [c_gt] at hg
      rw [Option.some.inj hg]
      cases hd : decide (bk.getD w 0 ≠ 0) with
      | true => simp only [hd, if_true] at kk ⊢; exact kk
      | false => simp only [hd, Bool.false_eq_true, if_false] at kk ⊢; exact kk
    · rw [b_tupleL e2]
      exact k (.noted row (meanF bk row)) h2 ⟨hr, hrl, fun _ _ _ z => nomatch z⟩ (b1.pre p2) (m1.trans (MX.pre p2))
  rw [decide_eq_false c0, if_neg (by decide), eq_hno, ws_some]
  cases hx : heard W bk row with
  | no =>
    simp only [decide_true, if_true]
    exact k (.not_ row) h1 ⟨hr, hrl, fun _ _ _ z => nomatch z⟩ b1 m1
  | amid =>
    simp only [reduceCtorEq, decide_false, Bool.false_eq_true, if_false]
    rw [eq_hamid, ws_some]
    simp only [decide_true, if_true]
    have hal := b1.lt
    refine pick_bx (n := N + 1) (b1.pre pre_one) (by omega) last_at (by simp) (by simp) fun d hd h2 b2 m2 => ?_
    have m12 := m1.trans ((MX.pre (pre_one (c := Cell.lst [D.str [97, 109, 105, 100], D.str [97, 109, 105, 100], D.str [115, 111]]))).trans m2)
    have hd2 : d = .str amidS ∨ d = .str soS := by
      simp only [List.mem_cons, List.not_mem_nil, or_false] at hd
      rcases hd with rfl | rfl | rfl
      · exact .inl rfl
      · exact .inl rfl
      · exact .inr rfl
    rcases hd2 with rfl | rfl
    · exact k (.amid row) h2 ⟨hr, hrl, fun _ _ _ z => nomatch z⟩ b2 m12
    · exact k (.so row) h2 ⟨hr, hrl, fun _ _ _ z => nomatch z⟩ b2 m12
  | told l =>
    have hlq := heard_q ok hx
    simp only [reduceCtorEq, decide_false, Bool.false_eq_true, if_false]
    rw [eq_hamid, ws_some]
    simp only [reduceCtorEq, decide_false, Bool.false_eq_true, if_false, hdD]
    rw [b_lenT, ws_some, List.length_map, hlq]
    refine take_bx (n := N + 2) b1 (by omega) (by omega) fun d h2 d0 d1 b2 m2 => ?_
    obtain ⟨qn, hqn⟩ : ∃ n : Nat, (n : Int) = d := ⟨d.toNat, by omega⟩
    rw [← hqn]
    refine ⟨by simp, ?_⟩
    have al : atI (l.map D.int) (qn : Int) = some (.int (l.getD qn 0)) := at_nat (by rw [List.getElem?_map, List.getElem?_eq_getElem (by omega), List.getD_eq_getElem?_getD, List.getElem?_eq_getElem (by omega)]; rfl)
    rw [idx_tup, al, ws_some]
    have hal := b2.lt
    refine pick_bx (n := N + 1) (b2.pre pre_one) (by omega) last_at (by simp) (by simp) fun d hd h3 b3 m3 => ?_
    have m13 := m1.trans (m2.trans ((MX.pre pre_one).trans m3))
    simp only [List.mem_cons, List.not_mem_nil, or_false] at hd
    rcases hd with rfl | rfl | rfl
    · exact k (.did row) h3 ⟨hr, hrl, fun _ _ _ z => nomatch z⟩ b3 m13
    · exact k (.so row) h3 ⟨hr, hrl, fun _ _ _ z => nomatch z⟩ b3 m13
    · exact k (.told row qn (l.getD qn 0)) h3 ⟨hr, hrl, fun _ _ _ z => by cases z; omega⟩ b3 m13
theorem page_spec {W : World} {n m q words : Nat} (ok : OKW W n m q) {bk : List Nat} (okb : OKB m words bk) (hw1 : 1 ≤ words) (hw2 : words ≤ 100) {most : Nat} (hm : most ≤ 50) {N : Nat} {h : Hm} {a : Nat} {Q : VQ} {E : XP} (bx : BX h a) (k : ∀ pg h', OKP words q pg → BX h' a → MX a h h' → Q (pgD pg) h') : FW P (N + 4) 59 [.ref a, worldD W, bookD bk, .int most] h Q E := by
  refine fw_open (d := D59) rfl rfl ?_
  rw [d59_eq]
  simp only [wpSs, wpS, wpE, wpEs, wpCs, wpP, wpPs, List.map, List.replicate, List.cons_append, List.nil_append, List.append_nil, List.getElem?_cons_zero, List.getElem?_cons_succ, jn, ws_some, List.length_cons, List.length_nil, List.set, at0, at1, at2, idx_tup, c_gt, c_lt, c_le, c_ge, c_is, c_isnt, c_eqI, c_neI, c_eqS, c_neS, c_eqB, c_neB, isS, isNonD, isBlD, t_bl, b_int, b_abs, b_max2, b_min2, b_lenT, o_add, o_sub, permD, Option.map_some]
  refine take_bx (n := N + 2) bx (by omega) (by omega) fun t h1 t0 t1 b1 m1 => ?_
  rw [c_gt, ws_some]
  have hbl : bltS .len [bookD bk] h1 = some (.int (words : Int), h1) := by
    unfold bookD
    rw [b_lenT, List.length_map, okb.len]
  by_cases c0 : (0 : Int) < t
  · rw [decide_eq_true c0, if_pos rfl]
    refine lawrow_spec (N := N) ok okb hw2 hm b1 fun row h2 hr hrl b2 m2 => ?_
    exact ⟨by simp, page_tail (hF := rfl) ok okb hr hrl b2 fun pg h' o b m' => k pg h' o b (m1.trans (m2.trans m'))⟩
  · rw [decide_eq_false c0, if_neg (by decide), hbl, ws_some]
    refine row_spec (N := N + 1) hw1 hw2 hm b1 fun row h2 hr hrl b2 m2 => ?_
    exact ⟨by simp, page_tail (hF := rfl) ok okb hr hrl b2 fun pg h' o b m' => k pg h' o b (m1.trans (m2.trans m'))⟩
end M67

end
section
set_option Elab.async false
set_option linter.all false
set_option autoImplicit false
/-! drawn talks, asks -/
namespace M67
open M
theorem talk_body {N : Nat} {F : FnS} (hF : F = FW P (N + 5)) {h : Hm} {a : Nat} {E : XP} {Zt : Ends} (bx : BX h a) (k : ∀ W n m q words free bk ps h', OKW W n m q → 1 ≤ words → words ≤ 3 → OKB m words bk → (∀ p ∈ ps, OKP words q p) → ps.length ≤ 100 → BX h' a → MX a h h' → Zt.rt (.tup [worldD W, .int (words : Nat), mannerD free, bookD bk, pagesD ps]) h') : wpSs F E D60.body [some (.ref a), some (.int 4), none, none, none, none, none, none] h Zt := by
  have hal := bx.lt
  unfold D60
  simp only [wpSs, wpS, wpE, wpEs, wpCs, wpP, wpPs, List.map, List.replicate, List.cons_append, List.nil_append, List.append_nil, List.getElem?_cons_zero, List.getElem?_cons_succ, jn, ws_some, List.length_cons, List.length_nil, List.set, at0, at1, at2, idx_tup, c_gt, c_lt, c_le, c_ge, c_is, c_isnt, c_eqI, c_neI, c_eqS, c_neS, c_eqB, c_neB, isS, isNonD, isBlD, t_bl, b_int, b_abs, b_max2, b_min2, b_lenT, o_add, o_sub, permD, Option.map_some]
  subst hF
  refine world_spec (N := N + 1) bx fun W n m q h1 ok b1 m1 => ?_
  refine take_bx (n := N + 4) b1 (by omega) (by omega) fun d h2 d0 d1 b2 m2 => ?_
  rw [o_add, ws_some]
  obtain ⟨words, hwd⟩ : ∃ n : Nat, (n : Int) = 1 + d := ⟨(1 + d).toNat, by omega⟩
  rw [← hwd]
  refine ⟨by simp, by simp, ?_⟩
  have m02 := m1.trans m2
  have hal2 := b2.lt
  refine pick_bx (n := N + 3) (b2.pre pre_one) (by show h2.length ≠ a; omega) last_at (by simp) (by simp) fun mn hmn h3 b3 m3 => ?_
  have m03 := m02.trans ((MX.pre (pre_one (c := Cell.lst [D.str [102, 114, 101, 101], D.str [102, 114, 101, 101], D.str [117, 110, 108, 105, 107, 101]]))).trans m3)
  obtain ⟨free, rfl⟩ : ∃ free, mn = mannerD free := by
    simp only [List.mem_cons, List.not_mem_nil, or_false] at hmn
    rcases hmn with rfl | rfl | rfl
    · exact ⟨true, rfl⟩
    · exact ⟨true, rfl⟩
    · exact ⟨false, rfl⟩
  refine ⟨by simp, ?_⟩
  refine books_spec (N := N + 4) ok (words := words) (by omega) fun Bs r h4 p4 hr er hB hne hBl => ?_
  have b4 := b3.pre p4
  have hal3 := b3.lt
  refine pick_bx (n := N + 3) b4 (by omega) er (fun z => hne (List.map_eq_nil_iff.mp z)) (by rw [List.length_map]; omega) fun bd hbd h5 b5 m5 => ?_
  obtain ⟨bk, hbk, rfl⟩ := List.mem_map.mp hbd
  have okb := hB bk hbk
  have m05 := m03.trans ((MX.pre p4).trans m5)
  refine ⟨by simp, ?_⟩
  refine take_bx (n := N + 4) b5 (by omega) (by omega) fun t h6 t0 t1 b6 m6 => ?_
  rw [it_range (by omega) (by omega), ws_some]
  have m06 := m05.trans m6
  refine comp_draw pgD (OKP words q) b6 (by rw [rng_len]; omega) (fun x hx h7 R7 b7 m7 k7 => ?_) fun ps h7 hps hpp b7 m7 e7 => ?_
  · simp only [wpSs, wpS, wpE, wpEs, wpCs, wpP, wpPs, List.map, List.replicate, List.cons_append, List.nil_append, List.append_nil, List.getElem?_cons_zero, List.getElem?_cons_succ, jn, ws_some, List.length_cons, List.length_nil, List.set, at0, at1, at2, idx_tup, c_gt, c_lt, c_le, c_ge, c_is, c_isnt, c_eqI, c_neI, c_eqS, c_neS, c_eqB, c_neB, isS, isNonD, isBlD, t_bl, b_int, b_abs, b_max2, b_min2, b_lenT, o_add, o_sub, permD, Option.map_some, wipeE]
    refine ⟨by simp, ?_⟩
    exact page_spec (N := N + 1) ok okb (by omega) (by omega) (most := 4) (by omega) b7 fun pg h' o b m => k7 pg h' o b m
  · rw [rng_len] at hps
    have m07 := m06.trans m7
    refine ⟨by simp, ?_⟩
    refine take_bx (n := N + 4) b7 (by omega) (by omega) fun u h8 u0 u1 b8 m8 => ?_
    have hal6 := b6.lt
    have e8 := m8.cell e7 (by omega)
    have m08 := m07.trans m8
    rw [c_eqI, ws_some]
    by_cases c0 : u = 0
    · rw [decide_eq_true c0, if_pos rfl]
      refine ⟨rec_app e8, ?_⟩
      refine books_spec (N := N + 4) ok (words := words) (by omega) fun Bs2 r2 h9 p9 hr2 er2 hB2 hne2 hBl2 => ?_
      have b9 := b8.pre p9
      have hal8 := b8.lt
      refine pick_bx (n := N + 3) b9 (by omega) er2 (fun z => hne2 (List.map_eq_nil_iff.mp z)) (by rw [List.length_map]; omega) fun bd2 hbd2 h10 b10 m10 => ?_
      obtain ⟨bk2, hbk2, rfl⟩ := List.mem_map.mp hbd2
      refine page_spec (N := N + 1) ok (hB2 bk2 hbk2) (by omega) (by omega) (most := 4) (by omega) b10 fun pg h11 opg b11 m11 => ?_
      have e11 := m11.cell (m10.cell (pre_at p9 e8) (by omega)) (by omega)
      have m0b := m08.trans ((MX.pre p9).trans (m10.trans m11))
      rw [app_at e11 (by rw [List.length_map]; omega), ws_some]
      have hl6 : h.length ≤ h6.length := m06.len
      have e12 := set_at (c' := .lst (ps.map pgD ++ [pgD pg])) e11
      rw [b_tupleL e12, ws_some]
      have := k W n m q words free bk (ps ++ [pg]) _ ok (by omega) (by omega) okb (fun p hp => by
        rcases List.mem_append.mp hp with hp | hp
        · exact hpp p hp
        · rw [List.mem_singleton.mp hp]; exact opg) (by rw [List.length_append, List.length_singleton]; omega) (b11.set (i := h6.length) (by omega) (.lst (ps.map pgD ++ [pgD pg]))) (m0b.set_new hl6 (.lst (ps.map pgD ++ [pgD pg])))
      simp only [pagesD, List.map_append, List.map_cons, List.map_nil] at this
      exact this
    · rw [decide_eq_false c0, if_neg (by decide)]
      rw [b_tupleL e8, ws_some]
      exact k W n m q words free bk ps h8 ok (by omega) (by omega) okb hpp (by omega) b8 m08
theorem talk_spec {N : Nat} {h : Hm} {a : Nat} {Q : VQ} {E : XP} (bx : BX h a) (k : ∀ W n m q words free bk ps h', OKW W n m q → 1 ≤ words → words ≤ 3 → OKB m words bk → (∀ p ∈ ps, OKP words q p) → ps.length ≤ 100 → BX h' a → MX a h h' → Q (.tup [worldD W, .int (words : Nat), mannerD free, bookD bk, pagesD ps]) h') : FW P (N + 6) 60 [.ref a, .int 4] h Q E := by
  refine fw_open (d := D60) rfl rfl ?_
  exact talk_body rfl bx k
theorem mx_same {q : Int} : ∀ (ns : List Int), (∀ x ∈ ns, x = q) → ns ≠ [] → mx ns = q
  | [], _, h => absurd rfl h
  | x :: ns, h, _ => by
    have hx := h x List.mem_cons_self
    subst hx
    unfold mx
    simp only [List.headD_cons, List.foldl_cons]
    have : ∀ (l : List Int), (∀ y ∈ l, y = x) → l.foldl max (max x x) = x := fun l => by
      induction l with
      | nil => intro _; simp
      | cons y l ih =>
        intro hl
        have hy := hl y List.mem_cons_self
        subst hy
        simp only [List.foldl_cons]
        have := ih fun z hz => hl z (List.mem_cons_of_mem _ hz)
        rw [show max (max y y) y = max y y from by omega]
        exact this
    exact this ns fun y hy => h y (List.mem_cons_of_mem _ hy)
theorem ask_body {W : World} {n m q words : Nat} (ok : OKW W n m q) (hw1 : 1 ≤ words) (hw2 : words ≤ 100) {N : Nat} {F : FnS} (hF : F = FW P (N + 5)) {h : Hm} {a : Nat} {E : XP} {Zt : Ends} (bx : BX h a) (k : ∀ ask h', OKA words q ask → BX h' a → MX a h h' → Zt.rt (askD ask) h') : wpSs F E D64.body [some (.ref a), some (worldD W), some (.int words), none, none] h Zt := by
  have hq1 := ok.q1
  have hq2 := ok.q2
  have hn2 := ok.n2
  have hla := ok.la
  unfold D64
  simp only [wpSs, wpS, wpE, wpEs, wpCs, wpP, wpPs, List.map, List.replicate, List.cons_append, List.nil_append, List.append_nil, List.getElem?_cons_zero, List.getElem?_cons_succ, jn, ws_some, List.length_cons, List.length_nil, List.set, at0, at1, at2, idx_tup, c_gt, c_lt, c_le, c_ge, c_is, c_isnt, c_eqI, c_neI, c_eqS, c_neS, c_eqB, c_neB, isS, isNonD, isBlD, t_bl, b_int, b_abs, b_max2, b_min2, b_lenT, o_add, o_sub, permD, Option.map_some]
  subst hF
  rw [w_at2, ws_some, it_tup, ws_some]
  have hsome : ∀ o ∈ W.answers, ∀ l, o = some l → l.length = q := fun o ho l e => by
    obtain ⟨b, hb, rfl⟩ := List.mem_iff_getElem.mp ho
    have hbe : b < W.ends.length := by rw [ok.le, ← ok.la]; exact hb
    have := ok.ans b _ _ (List.getElem?_eq_getElem hbe) (List.getElem?_eq_getElem hb)
    cases he : W.ends[b] with
    | true =>
      obtain ⟨l', e', hl'⟩ := this.1 he
      rw [e] at e'
      cases e'
      exact hl'
    | false =>
      rw [this.2 he] at e
      cases e
  refine comp_enc (xs := W.answers) ansD (fun o => match o with
    | none => none
    | some l => some (.int (l.length : Int))) still_nil (by unfold LIM; omega) (fun o ho h1 R1 p1 k1 => ?_) fun h1 p1 e1 => ?_
  · have k1 := k1 h1 (List.prefix_refl _)
    simp only [wpSs, wpS, wpE, wpEs, wpCs, wpP, wpPs, List.map, List.replicate, List.cons_append, List.nil_append, List.append_nil, List.getElem?_cons_zero, List.getElem?_cons_succ, jn, ws_some, List.length_cons, List.length_nil, List.set, at0, at1, at2, idx_tup, c_gt, c_lt, c_le, c_ge, c_is, c_isnt, c_eqI, c_neI, c_eqS, c_neS, c_eqB, c_neB, isS, isNonD, isBlD, t_bl, b_int, b_abs, b_max2, b_min2, b_lenT, o_add, o_sub, permD, Option.map_some, wipeE]
    refine ⟨by simp, ?_⟩
    cases o with
    | none =>
      simp only [ansD, Bool.not_true, Bool.false_eq_true, if_false]
      exact k1
    | some l =>
      simp only [ansD, Bool.not_false, if_true]
      rw [b_lenT, ws_some, List.length_map]
      exact k1
  · have e2 : W.answers.filterMap (fun o => match o with
      | none => none
      | some l => some (D.int (l.length : Int))) = (W.answers.filterMap fun o => o.map fun l => (l.length : Int)).map D.int := by
      rw [List.map_filterMap]
      refine fm_congr fun o _ => ?_
      cases o <;> rfl
    rw [e2] at e1
    have hne : (W.answers.filterMap fun o => o.map fun l => (l.length : Int)) ≠ [] := by
      obtain ⟨b, hb, hbt⟩ := List.mem_iff_getElem.mp ok.fin
      have hba : b < W.answers.length := by rw [ok.la, ← ok.le]; exact hb
      obtain ⟨l, el, _⟩ := (ok.ans b true _ (by rw [List.getElem?_eq_getElem hb, hbt]) (List.getElem?_eq_getElem hba)).1 rfl
      refine List.ne_nil_of_mem (List.mem_filterMap.mpr ⟨_, List.getElem_mem hba, by rw [el]; rfl⟩)
    have hall : ∀ x ∈ (W.answers.filterMap fun o => o.map fun l => (l.length : Int)), x = (q : Int) := fun x hx => by
      obtain ⟨o, ho, e⟩ := List.mem_filterMap.mp hx
      cases o with
      | none => cases e
      | some l =>
        simp only [Option.map_some, Option.some.injEq] at e
        rw [← e, hsome _ ho l rfl]
    rw [b_maxI e1 hne, ws_some, mx_same _ hall hne]
    refine ⟨by simp, ?_⟩
    have b1 := bx.pre p1
    refine take_bx (n := N + 4) b1 (by omega) (by omega) fun t h2 t0 t1 b2 m2 => ?_
    have m02 : MX a h h2 := (MX.pre p1).trans m2
    rw [c_eqI, ws_some]
    by_cases c0 : t = 0
    · rw [decide_eq_true c0, if_pos rfl]
      refine take_bx (n := N + 4) b2 (by omega) (by omega) fun d h3 d0 d1 b3 m3 => ?_
      obtain ⟨w, hw⟩ : ∃ n : Nat, (n : Int) = d := ⟨d.toNat, by omega⟩
      rw [← hw]
      exact k (.word w) h3 ⟨(fun u e => by cases e; omega), fun r k e => nomatch e⟩ b3 (m02.trans m3)
    · rw [decide_eq_false c0, if_neg (by decide)]
      refine row_spec (N := N + 3) hw1 hw2 (most := 4) (by omega) b2 fun r h3 hr hrl b3 m3 => ?_
      refine take_bx (n := N + 4) b3 (by omega) (by omega) fun d h4 d0 d1 b4 m4 => ?_
      obtain ⟨qn, hqn⟩ : ∃ n : Nat, (n : Int) = d := ⟨d.toNat, by omega⟩
      rw [← hqn]
      exact k (.row r qn) h4 ⟨(fun u e => nomatch e), fun r' k' e => by cases e; exact ⟨hr, by omega⟩⟩ b4 (m02.trans (m3.trans m4))
theorem anyask_spec {W : World} {n m q words : Nat} (ok : OKW W n m q) (hw1 : 1 ≤ words) (hw2 : words ≤ 100) {N : Nat} {h : Hm} {a : Nat} {Q : VQ} {E : XP} (bx : BX h a) (k : ∀ ask h', OKA words q ask → BX h' a → MX a h h' → Q (askD ask) h') : FW P (N + 6) 64 [.ref a, worldD W, .int words] h Q E := by
  refine fw_open (d := D64) rfl rfl ?_
  exact ask_body ok hw1 hw2 rfl bx k
end M67

end
section
set_option Elab.async false
set_option linter.all false
set_option autoImplicit false
/-! the law k67 -/
namespace M67
open M
def L3 : CS :=
      .for_ (.slot 13) .val [(.tup [(.loc 12), (.blt .rev [(.loc 12)]), (.call 20 [(.loc 2), (.loc 12)] [] [0, 1]), (.call 20 [(.loc 2), (.loc 12)] [] [0, 1]), (.bin .add (.loc 12) (.tup [(.loc 7)])), (.lit .non)])] [
        .asg (.slot 14) (.and (.blt (.isi .tuple) [(.loc 13)]) (.and (.cmp .eq (.blt .len [(.loc 13)]) (.lit (.int (2)))) (.cmp .eq (.comp [15] (.slot 15) .val [(.loc 13)] [(.not (.call 63 [(.loc 4), (.loc 5), (.loc 6), (.loc 8), (.loc 15)] [] [0, 1, 2, 3, 4]))] (.lit (.int (1)))) (.lst [])))),
        .asg (.slot 14) (.and (.loc 14) (.cmp .ne (.call 62 [(.loc 4), (.idx (.loc 13) (.lit (.int (0)))), (.loc 11)] [] [0, 1, 2]) (.call 62 [(.loc 4), (.idx (.loc 13) (.lit (.int (1)))), (.loc 11)] [] [0, 1, 2]))),
        .ite (.not (.call 19 [(.call 46 [(.loc 4), (.tup [(.loc 5), (.loc 6)]), (.loc 8), (.loc 11), (.loc 13)] [] [0, 1, 2, 3, 4]), (.loc 14)] [] [0, 1])) [
          .ret (.lit (.bl false))] []]
def L2 : CS :=
    .for_ (.slot 3) .range [(.lit (.int (8)))] [
      .asg (.slot 11) (.call 64 [(.loc 2), (.loc 4), (.loc 5)] [] [0, 1, 2]),
      .asg (.slot 12) (.tup [(.call 18 [(.loc 2), (.bin .add (.loc 9) (.lst [(.loc 7)]))] [] [0, 1]), (.call 18 [(.loc 2), (.bin .add (.ife (.cmp .gt (.call 17 [(.loc 2), (.lit (.int (3)))] [] [0, 1]) (.lit (.int (0)))) (.loc 9) (.loc 10)) (.lst [(.loc 7)]))] [] [0, 1])]),      L3]
def L1 : CS :=
  .for_ (.slot 1) .range [(.blt .max2 [(.lit (.int (3))), (.blt .min2 [(.blt .len [(.loc 0)]), (.lit (.int (7)))])])] [
    .asg (.slot 2) (.call 16 [(.loc 0), (.loc 1)] [] [0, 1]),
    .asg (.tup [(.slot 4), (.slot 5), (.slot 6), (.slot 7), (.slot 8)]) (.call 60 [(.loc 2), (.lit (.int (4)))] [] [0, 1]),
    .asg (.tup [(.slot 9), (.slot 10)]) (.tup [(.call 56 [(.loc 4), (.loc 5), (.loc 6), (.loc 8)] [] [0, 1, 2, 3]), (.call 55 [(.loc 4), (.loc 5), (.loc 6)] [] [0, 1, 2])]),    L2]
theorem d65_eq : D65 = ⟨1, 16, [L1, .ret (.lit (.bl true))]⟩ := rfl

theorem va_int {h : Hm} {w k : Nat} {i : Int} : VA h w k (.int i) := VA.of rfl trivial
theorem va_book {m words : Nat} {bk : List Nat} (ok : OKB m words bk) (hw : words ≤ 3) (k : Nat) : VA [] 50 (k + 1) (bookD bk) := by
  refine ⟨by rw [List.length_map, ok.len]; omega, fun x hx => ?_⟩
  obtain ⟨i, _, rfl⟩ := List.mem_map.mp hx
  exact va_int
theorem va_two {m words : Nat} {x y : List Nat} (ox : OKB m words x) (oy : OKB m words y) (hw : words ≤ 3) : VA [] 50 2 (.tup [bookD x, bookD y]) := by
  refine ⟨by simp, fun d hd => ?_⟩
  rcases List.mem_cons.mp hd with rfl | hd
  · exact va_book ox hw 0
  · rw [List.mem_singleton.mp hd]; exact va_book oy hw 0
theorem l3_spec {W : World} {n m q words : Nat} (ok : OKW W n m q) (hw1 : 1 ≤ words) (hw3 : words ≤ 3) {free : Bool} {ps : List Pg} (okp : ∀ p ∈ ps, OKP words q p) (hl : ps.length ≤ 100) {ask : Ask} (oka : OKA words q ask) {bk x y : List Nat} (okb : OKB m words bk) (okx : OKB m words x) (oky : OKB m words y)
    {N : Nat} {F : FnS} (hF : F = FW P (N + 6)) {E : XP} {Zt : Ends} {a r9 r10 : Nat} {e1 e3 e13 e14 e15 : Option D} {h : Hm} (bx : BX h a)
    (k : ∀ e13 e14 e15 h', BX h' a → MX a h h' → Zt.nx [some (.ref 0), e1, some (.ref a), e3, some (worldD W), some (.int words), some (mannerD free), some (bookD bk), some (pagesD ps), some (.ref r9), some (.ref r10), some (askD ask), some (.tup [bookD x, bookD y]), e13, e14, e15] h') :
    wpS F E L3 [some (.ref 0), e1, some (.ref a), e3, some (worldD W), some (.int words), some (mannerD free), some (bookD bk), some (pagesD ps), some (.ref r9), some (.ref r10), some (askD ask), some (.tup [bookD x, bookD y]), e13, e14, e15] h Zt := by
  unfold L3
  simp only [wpSs, wpS, wpE, wpEs, wpCs, wpP, wpPs, List.map, List.replicate, List.cons_append, List.nil_append, List.append_nil, List.getElem?_cons_zero, List.getElem?_cons_succ, jn, ws_some, List.length_cons, List.length_nil, List.set, at0, at1, at2, idx_tup, c_gt, c_lt, c_le, c_ge, c_is, c_isnt, c_eqI, c_neI, c_eqS, c_neS, c_eqB, c_neB, isS, isNonD, isBlD, t_bl, b_int, b_abs, b_max2, b_min2, b_lenT, o_add, o_sub, permD, Option.map_some]
  subst hF
  have hal := bx.lt
  have hrev : bltS .rev [.tup [bookD x, bookD y]] h = some (.tup [bookD y, bookD x], h) := rfl
  rw [hrev, ws_some]
  have v2 := va_two okx oky hw3
  refine bent_ok 2 (N + 6) _ h a _ _ (by omega) v2 bx fun w1 h1 hw1' b1 m1 => ?_
  refine bent_ok 2 (N + 6) _ h1 a _ _ (by omega) v2 b1 fun w2 h2 hw2' b2 m2 => ?_
  have hadd : binS .add (.tup [bookD x, bookD y]) (.tup [bookD bk]) h2 = some (.tup [bookD x, bookD y, bookD bk], h2) := by
    rw [o_addT (by simp; unfold LIM; omega)]
    rfl
  rw [hadd, ws_some, it_tup, ws_some]
  have m02 := m1.trans m2
  have all : ∀ v ∈ [D.tup [bookD x, bookD y], D.tup [bookD y, bookD x], w1, w2, D.tup [bookD x, bookD y, bookD bk], D.non], VA h2 101 4 v := fun v hv => by
    simp only [List.mem_cons, List.not_mem_nil, or_false] at hv
    rcases hv with rfl | rfl | rfl | rfl | rfl | rfl
    · exact v2.nil (by omega) (by omega)
    · exact (va_two oky okx hw3).nil (by omega) (by omega)
    · exact VA.mono (Nat.le_refl _) (okR_mx b2 m2) 4 4 _ (Nat.le_refl _) hw1'
    · exact hw2'
    · refine VA.nil (k := 2) (w := 50) ⟨by simp, fun d hd => ?_⟩ (by omega) (by omega)
      simp only [List.mem_cons, List.not_mem_nil, or_false] at hd
      rcases hd with rfl | rfl | rfl
      · exact va_book okx hw3 0
      · exact va_book oky hw3 0
      · exact va_book okb hw3 0
    · exact VA.of rfl trivial
  refine forL_inv (fun l env h' => ∃ e13 e14 e15 : Option D, env = [some (.ref 0), e1, some (.ref a), e3, some (worldD W), some (.int words), some (mannerD free), some (bookD bk), some (pagesD ps), some (.ref r9), some (.ref r10), some (askD ask), some (.tup [bookD x, bookD y]), e13, e14, e15] ∧ h2 <+: h' ∧ ∀ v ∈ l, VA h2 101 4 v)
    (fun _ _ _ _ => still_nil) (fun v l env h' R hi kk => ?_) (fun env h' hi => ?_) _ _ _ ⟨_, _, _, rfl, List.prefix_refl _, all⟩
  · obtain ⟨e13, e14, e15, rfl, p2, hva⟩ := hi
    have hv2 := hva v List.mem_cons_self
    have hva : ∀ v ∈ l, VA h2 101 4 v := fun u hu => hva u (List.mem_cons_of_mem _ hu)
    have hv : VA h' 101 4 v := VA.mono (Nat.le_refl _) (okR_pre p2) 4 4 v (Nat.le_refl _) hv2
    simp only [wpSs, wpS, wpE, wpEs, wpCs, wpP, wpPs, List.map, List.replicate, List.cons_append, List.nil_append, List.append_nil, List.getElem?_cons_zero, List.getElem?_cons_succ, jn, ws_some, List.length_cons, List.length_nil, List.set, at0, at1, at2, idx_tup, c_gt, c_lt, c_le, c_ge, c_is, c_isnt, c_eqI, c_neI, c_eqS, c_neS, c_eqB, c_neB, isS, isNonD, isBlD, t_bl, b_int, b_abs, b_max2, b_min2, b_lenT, o_add, o_sub, permD, Option.map_some]
    refine ⟨by simp, ?_⟩
    have fin : ∀ (b : Bool) (h3 : Hm), h' <+: h3 → openV W m words free ps ask v = b → FW P (N + 6) 46 [worldD W, D.tup [D.int (words : Int), mannerD free], pagesD ps, askD ask, v] h3 (fun d h1 => FW P (N + 6) 19 [d, D.bl b] h1 (fun x_2 h1 => ws (truth h1 x_2) fun k_1 => if (!k_1) = true then Zt.rt (D.bl false) h1 else R [some (.ref 0), e1, some (.ref a), e3, some (worldD W), some (.int (words : Int)), some (mannerD free), some (bookD bk), some (pagesD ps), some (.ref r9), some (.ref r10), some (askD ask), some (.tup [bookD x, bookD y]), some v, some (.bl b), e15] h1) E) E := fun b h3 p3 hb => by
      refine open_spec (N := N) (K := 4) ok okp hl oka (VA.mono (Nat.le_refl _) (okR_pre p3) 4 4 v (Nat.le_refl _) hv) fun h4 p4 => ?_
      rw [hb]
      have okb2 : okR h4 (.bl b) := trivial
      refine same_bool (n := N + 5) okb2 ?_
      have eb : isBb b (.bl b) = true := by simp [isBb]
      rw [eb, t_bl, ws_some, Bool.not_true, if_neg (by decide)]
      exact kk _ _ ⟨_, _, _, rfl, p2.trans (p3.trans p4), hva⟩
    rw [isi_ok hv.ok, ws_some]
    cases v with
    | tup xs =>
      simp only [kindB, decide_true, t_bl, ws_some, if_true]
      rw [b_lenT, ws_some, c_eqI, ws_some]
      by_cases c2 : (xs.length : Int) = 2
      · obtain ⟨u, w, rfl⟩ : ∃ u w, xs = [u, w] := by
          match xs, c2 with
          | [u, w], _ => exact ⟨u, w, rfl⟩
          | [], c => exact absurd c (by decide)
          | [_], c => exact absurd c (show ¬ (((1 : Nat) : Int) = 2) by decide)
          | _ :: _ :: _ :: l, c => rw [List.length_cons, List.length_cons, List.length_cons] at c; omega
        rw [decide_eq_true c2]
        simp only [if_true, ws_some, t_bl, it_tup]
        refine comp_new (notF (fitV W m words free ps)) still_nil (by simp; unfold LIM; omega) (fun d hd h3 R3 p3 k3 => ?_) fun h3 p3 e3 => ?_
        · simp only [wpSs, wpS, wpE, wpEs, wpCs, wpP, wpPs, List.map, List.replicate, List.cons_append, List.nil_append, List.append_nil, List.getElem?_cons_zero, List.getElem?_cons_succ, jn, ws_some, List.length_cons, List.length_nil, List.set, at0, at1, at2, idx_tup, c_gt, c_lt, c_le, c_ge, c_is, c_isnt, c_eqI, c_neI, c_eqS, c_neS, c_eqB, c_neB, isS, isNonD, isBlD, t_bl, b_int, b_abs, b_max2, b_min2, b_lenT, o_add, o_sub, permD, Option.map_some, wipeE]
          refine ⟨by simp, ?_⟩
          refine fitting2_spec (N := N + 1) (K := 3) ok okp hl (VA.mono (Nat.le_refl _) (okR_pre p3) 3 3 d (Nat.le_refl _) (hv.2 d hd)) fun h4 p4 => ?_
          have := k3 h4 p4
          unfold notF at this
          simp only [wpSs, wpS, wpE, wpEs, wpCs, wpP, wpPs, List.map, List.replicate, List.cons_append, List.nil_append, List.append_nil, List.getElem?_cons_zero, List.getElem?_cons_succ, jn, ws_some, List.length_cons, List.length_nil, List.set, at0, at1, at2, idx_tup, c_gt, c_lt, c_le, c_ge, c_is, c_isnt, c_eqI, c_neI, c_eqS, c_neS, c_eqB, c_neB, isS, isNonD, isBlD, t_bl, b_int, b_abs, b_max2, b_min2, b_lenT, o_add, o_sub, permD, Option.map_some]
          cases hh : fitV W m words free ps d with
          | true => rw [hh] at this; simpa using this
          | false => rw [hh] at this; simpa using this
        · rw [not_fm] at e3
          rw [eq_empty (pre_at pre_one e3) last_at, ws_some, not_nil]
          have p3' : h' <+: h3 ++ [.lst []] := p3.trans pre_one
          refine ⟨by simp, ?_⟩
          simp only [List.all_cons, List.all_nil, Bool.and_true]
          cases hf : (fitV W m words free ps u && fitV W m words free ps w) with
          | true =>
            rw [Bool.and_eq_true] at hf
            obtain ⟨eu, ou⟩ := fitV_book hf.1
            obtain ⟨ew, ow⟩ := fitV_book hf.2
            have hov : openV W m words free ps ask (.tup [u, w]) = !eqD (worthD W (bkV u) ask) (worthD W (bkV w) ask) := by
              simp only [openV, hf.1, hf.2, Bool.and_self, Bool.true_and]
            rw [if_pos rfl, idx_tup, at0, ws_some]
            have fin2 := fin _ (h3 ++ [.lst []]) p3' hov
            generalize hU : bkV u = bu at eu ou fin2
            generalize hW : bkV w = bw at ew ow fin2
            rw [eu]
            refine worth_spec (N := N + 3) ok ou oka ?_
            rw [idx_tup, at1, ws_some]
            rw [ew]
            refine worth_spec (N := N + 3) ok ow oka ?_
            rw [ne_worth, ws_some]
            refine ⟨by simp, ?_⟩
            rw [eu, ew] at fin2
            exact fin2
          | false =>
            have hov : openV W m words free ps ask (.tup [u, w]) = false := by
              simp only [openV, hf, Bool.false_and]
            rw [if_neg (by decide)]
            refine ⟨by simp, ?_⟩
            have fin2 := fin false (h3 ++ [.lst []]) p3' hov
            exact fin2
      · have hov : openV W m words free ps ask (.tup xs) = false := by
          unfold openV
          split
          · rename_i e
            cases e
            exact absurd rfl c2
          · rfl
        rw [decide_eq_false c2]
        simp only [Bool.false_eq_true, if_false, ws_some, t_bl]
        refine ⟨by simp, by simp, ?_⟩
        have fin2 := fin false h' (List.prefix_refl _) hov
        exact fin2
    | _ =>
      simp only [kindB, Bool.false_eq_true, if_false, t_bl, ws_some, decide_true, decide_false, reduceCtorEq, or_self, or_false]
      refine ⟨by simp, by simp, ?_⟩
      have fin2 := fin false h' (List.prefix_refl _) rfl
      exact fin2
  · obtain ⟨e13, e14, e15, rfl, p2, _⟩ := hi
    exact k _ _ _ h' (b2.pre p2) (m02.trans (MX.pre p2))
theorem pick_book {m words : Nat} {Bs : List (List Nat)} {bk : List Nat} (hB : ∀ b ∈ Bs, OKB m words b) (okb : OKB m words bk) {d : D} (hd : d ∈ Bs.map bookD ++ [bookD bk]) : ∃ x, d = bookD x ∧ OKB m words x := by
  rcases List.mem_append.mp hd with hd | hd
  · obtain ⟨x, hx, rfl⟩ := List.mem_map.mp hd
    exact ⟨x, rfl, hB x hx⟩
  · exact ⟨bk, List.mem_singleton.mp hd, okb⟩
theorem l2_spec {W : World} {n m q words : Nat} (ok : OKW W n m q) (hw1 : 1 ≤ words) (hw3 : words ≤ 3) {free : Bool} {ps : List Pg} (okp : ∀ p ∈ ps, OKP words q p) (hl : ps.length ≤ 100) {bk : List Nat} (okb : OKB m words bk) {Bs Es : List (List Nat)} (hB : ∀ b ∈ Bs, OKB m words b) (hE : ∀ b ∈ Es, OKB m words b) (hBl : Bs.length ≤ 8000) (hEl : Es.length ≤ 8000)
    {N : Nat} {F : FnS} (hF : F = FW P (N + 6)) {E : XP} {Zt : Ends} {a r9 r10 : Nat} {e1 e3 e11 e12 e13 e14 e15 : Option D} {h : Hm} (bx : BX h a) (h9 : h[r9]? = some (.lst (Bs.map bookD))) (h10 : h[r10]? = some (.lst (Es.map bookD))) (n9 : r9 ≠ a) (n10 : r10 ≠ a)
    (k : ∀ e3 e11 e12 e13 e14 e15 h', BX h' a → MX a h h' → Zt.nx [some (.ref 0), e1, some (.ref a), e3, some (worldD W), some (.int words), some (mannerD free), some (bookD bk), some (pagesD ps), some (.ref r9), some (.ref r10), e11, e12, e13, e14, e15] h') :
    wpS F E L2 [some (.ref 0), e1, some (.ref a), e3, some (worldD W), some (.int words), some (mannerD free), some (bookD bk), some (pagesD ps), some (.ref r9), some (.ref r10), e11, e12, e13, e14, e15] h Zt := by
  unfold L2
  simp only [wpSs, wpS, wpE, wpEs, wpCs, wpP, wpPs, List.map, List.replicate, List.cons_append, List.nil_append, List.append_nil, List.getElem?_cons_zero, List.getElem?_cons_succ, jn, ws_some, List.length_cons, List.length_nil, List.set, at0, at1, at2, idx_tup, c_gt, c_lt, c_le, c_ge, c_is, c_isnt, c_eqI, c_neI, c_eqS, c_neS, c_eqB, c_neB, isS, isNonD, isBlD, t_bl, b_int, b_abs, b_max2, b_min2, b_lenT, o_add, o_sub, permD, Option.map_some]
  rw [it_range (by omega) (by omega), ws_some]
  refine forL_inv (fun l env h' => ∃ e3 e11 e12 e13 e14 e15 : Option D, env = [some (.ref 0), e1, some (.ref a), e3, some (worldD W), some (.int words), some (mannerD free), some (bookD bk), some (pagesD ps), some (.ref r9), some (.ref r10), e11, e12, e13, e14, e15] ∧ BX h' a ∧ MX a h h')
    (fun _ _ _ _ => still_nil) (fun x l env h' R hi kk => ?_) (fun env h' hi => ?_) _ _ _ ⟨_, _, _, _, _, _, rfl, bx, MX.refl _ _⟩
  · obtain ⟨e3, e11, e12, e13, e14, e15, rfl, b0, m0⟩ := hi
    simp only [wpSs, wpS, wpE, wpEs, wpCs, wpP, wpPs, List.map, List.replicate, List.cons_append, List.nil_append, List.append_nil, List.getElem?_cons_zero, List.getElem?_cons_succ, jn, ws_some, List.length_cons, List.length_nil, List.set, at0, at1, at2, idx_tup, c_gt, c_lt, c_le, c_ge, c_is, c_isnt, c_eqI, c_neI, c_eqS, c_neS, c_eqB, c_neB, isS, isNonD, isBlD, t_bl, b_int, b_abs, b_max2, b_min2, b_lenT, o_add, o_sub, permD, Option.map_some]
    refine ⟨by simp, ?_⟩
    subst hF
    refine anyask_spec (N := N) ok hw1 (by omega) b0 fun ask h1 oka b1 m1 => ?_
    refine ⟨by simp, ?_⟩
    have m01 := m0.trans m1
    have q9 := m01.cell h9 n9
    have hal1 := b1.lt
    rw [o_addB (pre_at pre_one q9) last_at (by rw [List.length_map, List.length_singleton]; omega), ws_some]
    have pp1 : h1 <+: h1 ++ [Cell.lst [bookD bk]] ++ [Cell.lst (Bs.map bookD ++ [bookD bk])] := pre_one.trans pre_one
    refine pick_bx (n := N + 4) (b1.pre pp1) (by simp; omega) last_at (by simp) (by rw [List.length_append, List.length_map, List.length_singleton]; omega) fun d1 hd1 h2 b2 m2 => ?_
    obtain ⟨x1, rfl, ox1⟩ := pick_book hB okb hd1
    have m02 := m01.trans ((MX.pre pp1).trans m2)
    refine take_bx (n := N + 5) b2 (by omega) (by omega) fun t h3 t0 t1 b3 m3 => ?_
    have m03 := m02.trans m3
    have hal3 := b3.lt
    rw [c_gt, ws_some]
    have fin : ∀ (x2 : List Nat) h4, OKB m words x2 → BX h4 a → MX a h h4 → wpS (FW P (N + 6)) E L3 [some (.ref 0), e1, some (.ref a), some x, some (worldD W), some (.int words), some (mannerD free), some (bookD bk), some (pagesD ps), some (.ref r9), some (.ref r10), some (askD ask), some (.tup [bookD x1, bookD x2]), e13, e14, e15] h4 { nx := R, rt := Zt.rt, bk := Zt.nx, ct := R } := fun x2 h4 ox2 b4 m4 => by
      refine l3_spec ok hw1 hw3 okp hl oka okb ox1 ox2 rfl b4 fun e13 e14 e15 h5 b5 m5 => ?_
      exact kk _ _ ⟨_, _, _, _, _, _, rfl, b5, m4.trans m5⟩
    have two : ∀ (Cs : List (List Nat)) (r : Nat), h3[r]? = some (.lst (Cs.map bookD)) → (∀ b ∈ Cs, OKB m words b) → Cs.length ≤ 8000 → ws (binS .add (.ref r) (.ref h3.length) (h3 ++ [.lst [bookD bk]])) fun rr => FW P (N + 6) 18 [.ref a, rr.1] rr.2 (fun y h4 => 12 < 0 + 1 + 1 + 1 + 1 + 1 + 1 + 1 + 1 + 1 + 1 + 1 + 1 + 1 + 1 + 1 + 1 ∧ wpS (FW P (N + 6)) E L3 [some (.ref 0), e1, some (.ref a), some x, some (worldD W), some (.int words), some (mannerD free), some (bookD bk), some (pagesD ps), some (.ref r9), some (.ref r10), some (askD ask), some (.tup [bookD x1, y]), e13, e14, e15] h4 { nx := R, rt := Zt.rt, bk := Zt.nx, ct := R }) E := fun Cs r er hC hCl => by
      rw [o_addB (pre_at pre_one er) last_at (by rw [List.length_map, List.length_singleton]; omega), ws_some]
      have pp3 : h3 <+: h3 ++ [Cell.lst [bookD bk]] ++ [Cell.lst (Cs.map bookD ++ [bookD bk])] := pre_one.trans pre_one
      refine pick_bx (n := N + 4) (b3.pre pp3) (by simp; omega) last_at (by simp) (by rw [List.length_append, List.length_map, List.length_singleton]; omega) fun d2 hd2 h4 b4 m4 => ?_
      obtain ⟨x2, rfl, ox2⟩ := pick_book hC okb hd2
      exact ⟨by omega, fin x2 h4 ox2 b4 (m03.trans ((MX.pre pp3).trans m4))⟩
    by_cases c0 : (0 : Int) < t
    · rw [decide_eq_true c0, if_pos rfl]
      have f := two Bs r9 (m03.cell h9 n9) hB hBl
      exact f
    · rw [decide_eq_false c0, if_neg (by decide)]
      have f := two Es r10 (m03.cell h10 n10) hE hEl
      exact f
  · obtain ⟨e3, e11, e12, e13, e14, e15, rfl, b0, m0⟩ := hi
    exact k _ _ _ _ _ _ h' b0 m0
theorem l1_spec {c : Cell} {ns : List Int} (hc : c = .lst (ns.map D.int) ∨ c = .ro (ns.map D.int)) (hns : ns.length ≤ 63) {N : Nat} {F : FnS} (hF : F = FW P (N + 6)) {E : XP} {Zt : Ends} (k : ∀ env h', Zt.nx env h') : wpS F E L1 [some (.ref 0), none, none, none, none, none, none, none, none, none, none, none, none, none, none, none] [c] Zt := by
  unfold L1
  simp only [wpSs, wpS, wpE, wpEs, wpCs, wpP, wpPs, List.map, List.replicate, List.cons_append, List.nil_append, List.append_nil, List.getElem?_cons_zero, List.getElem?_cons_succ, jn, ws_some, List.length_cons, List.length_nil, List.set, at0, at1, at2, idx_tup, c_gt, c_lt, c_le, c_ge, c_is, c_isnt, c_eqI, c_neI, c_eqS, c_neS, c_eqB, c_neB, isS, isNonD, isBlD, t_bl, b_int, b_abs, b_max2, b_min2, b_lenT, o_add, o_sub, permD, Option.map_some]
  rw [b_lenC (h := [c]) (a := 0) rfl hc, ws_some]
  simp only [wpSs, wpS, wpE, wpEs, wpCs, wpP, wpPs, List.map, List.replicate, List.cons_append, List.nil_append, List.append_nil, List.getElem?_cons_zero, List.getElem?_cons_succ, jn, ws_some, List.length_cons, List.length_nil, List.set, at0, at1, at2, idx_tup, c_gt, c_lt, c_le, c_ge, c_is, c_isnt, c_eqI, c_neI, c_eqS, c_neS, c_eqB, c_neB, isS, isNonD, isBlD, t_bl, b_int, b_abs, b_max2, b_min2, b_lenT, o_add, o_sub, permD, Option.map_some]
  have hr : ∃ t : Int, (if (if (7 : Int) < ((ns.map D.int).length : Int) then (7 : Int) else ((ns.map D.int).length : Int)) > 3 then (if (7 : Int) < ((ns.map D.int).length : Int) then (7 : Int) else ((ns.map D.int).length : Int)) else 3) = t ∧ 0 ≤ t ∧ t ≤ 7 := by
    refine ⟨_, rfl, ?_, ?_⟩
    · split <;> (try split) <;> omega
    · split <;> (try split) <;> omega
  obtain ⟨t, ht, t0, t7⟩ := hr
  rw [ht, it_range (by omega) (by omega), ws_some]
  refine forL_inv (fun l env h' => ∃ e1 e2 e3 e4 e5 e6 e7 e8 e9 e10 e11 e12 e13 e14 e15 : Option D, env = [some (.ref 0), e1, e2, e3, e4, e5, e6, e7, e8, e9, e10, e11, e12, e13, e14, e15] ∧ h'[0]? = some c ∧ ∀ x ∈ l, ∃ i : Int, 0 ≤ i ∧ x = .int i)
    (fun _ _ _ _ => still_nil) (fun x l env h' R hi kk => ?_) (fun env h' hi => k _ _) _ _ _ ⟨none, none, none, none, none, none, none, none, none, none, none, none, none, none, none, rfl, rfl, fun x hx => ?_⟩
  · obtain ⟨e1, e2, e3, e4, e5, e6, e7, e8, e9, e10, e11, e12, e13, e14, e15, rfl, h0, hx⟩ := hi
    obtain ⟨i, i0, rfl⟩ := hx x List.mem_cons_self
    have hx : ∀ x ∈ l, ∃ i : Int, 0 ≤ i ∧ x = .int i := fun y hy => hx y (List.mem_cons_of_mem _ hy)
    have hlen0 : 0 < h'.length := (List.getElem?_eq_some_iff.mp h0).1
    simp only [wpSs, wpS, wpE, wpEs, wpCs, wpP, wpPs, List.map, List.replicate, List.cons_append, List.nil_append, List.append_nil, List.getElem?_cons_zero, List.getElem?_cons_succ, jn, ws_some, List.length_cons, List.length_nil, List.set, at0, at1, at2, idx_tup, c_gt, c_lt, c_le, c_ge, c_is, c_isnt, c_eqI, c_neI, c_eqS, c_neS, c_eqB, c_neB, isS, isNonD, isBlD, t_bl, b_int, b_abs, b_max2, b_min2, b_lenT, o_add, o_sub, permD, Option.map_some]
    refine ⟨by simp, ?_⟩
    subst hF
    refine box_spec (n := N + 5) h0 hc i0 fun b0 b1 => ?_
    refine ⟨by simp, ?_⟩
    have bx : BX (h' ++ [.lst [.int b0, .int b1]]) h'.length := ⟨b0, b1, last_at⟩
    have h0' := pre_at (pre_one (c := .lst [.int b0, .int b1])) h0
    generalize h' ++ [Cell.lst [D.int b0, D.int b1]] = h1 at bx h0'
    generalize ha : h'.length = a at bx
    have ha0 : 0 ≠ a := by omega
    refine talk_spec (N := N) bx fun W n m q words free bk ps h2 ok hw1 hw3 okb okp hpl b2 m2 => ?_
    have h02 := m2.cell h0' ha0
    refine ⟨by simp, by simp, by simp, by simp, by simp, ?_⟩
    refine fitlist_spec (N := N + 2) ok hw3 okp hpl fun Bs r9 h3 p3 hr9 e9 hB hBl => ?_
    refine books_spec (N := N + 5) ok hw3 fun Es r10 h4 p4 hr10 e10 hE hne hEl => ?_
    refine ⟨by simp, by simp, ?_⟩
    have b4 := (b2.pre p3).pre p4
    have hal2 := b2.lt
    have hp3 := p3.length_le
    refine l2_spec ok hw1 hw3 okp hpl okb hB hE hBl hEl rfl b4 (pre_at p4 e9) e10 (by omega) (by omega) fun e3 e11 e12 e13 e14 e15 h5 b5 m5 => ?_
    exact kk _ _ ⟨_, _, _, _, _, _, _, _, _, _, _, _, _, _, _, rfl, m5.cell (pre_at (p3.trans p4) h02) ha0, hx⟩
  · obtain ⟨i, hi, rfl⟩ : ∃ i : Nat, True ∧ x = .int (i : Int) := by
      unfold rngD at hx
      obtain ⟨i, _, rfl⟩ := List.mem_map.mp hx
      exact ⟨i, trivial, by rw [Int.zero_add]⟩
    exact ⟨_, by omega, rfl⟩
theorem law_ok {c : Cell} {ns : List Int} (hc : c = .lst (ns.map D.int) ∨ c = .ro (ns.map D.int)) (hns : ns.length ≤ 63) {Q : VQ} {E : XP} (q : ∀ h', Q (.bl true) h') : FW P 100 65 [.ref 0] [c] Q E := by
  refine fw_open (n := 99) (d := D65) rfl rfl ?_
  rw [d65_eq]
  unfold wpSs
  refine l1_spec (N := 93) hc hns rfl fun env h' => ?_
  unfold wpSs wpS wpE
  exact q h'
end M67

end
section
set_option Elab.async false
set_option linter.all false
set_option maxRecDepth 100000
set_option maxHeartbeats 0
namespace M67
open M PySem
def ids : List (PySem.Str × Nat × List PySem.Str) := [
  (S "is_int", 1, [S "value"]),
  (S "is_number", 2, [S "value", S "least", S "most"]),
  (S "is_tuple", 3, [S "value", S "many"]),
  (S "many_kinds", 37, [S "world"]),
  (S "board_behind", 38, [S "world", S "book", S "row", S "board", S "word"]),
  (S "meaning_of", 39, [S "book", S "row", S "word"]),
  (S "answers_behind", 40, [S "world", S "book", S "row", S "board"]),
  (S "page_holds", 41, [S "world", S "book", S "page", S "told"]),
  (S "told_by", 42, [S "world", S "book", S "ask", S "told"]),
  (S "is_book", 43, [S "world", S "stranger", S "value", S "named", S "kind"]),
  (S "fits", 44, [S "world", S "pages", S "book", S "page"]),
  (S "is_fitting", 45, [S "world", S "stranger", S "pages", S "value"]),
  (S "open_holds", 46, [S "world", S "stranger", S "pages", S "ask", S "value", S "book"]),
  (S "_law_box", 16, [S "script", S "k", S "cell", S "great"]),
  (S "_law_take", 17, [S "box", S "many", S "raw", S "digit"]),
  (S "_law_pick", 18, [S "box", S "some"]),
  (S "_law_same", 19, [S "told", S "due", S "one", S "other"]),
  (S "_law_can_end", 47, [S "steps", S "ends", S "good", S "turn", S "spot", S "told", S "there"]),
  (S "_law_least", 48, [S "steps", S "ends", S "answers", S "good", S "kinds", S "turn", S "order", S "spots", S "found", S "row", S "there", S "spot", S "names", S "later"]),
  (S "_law_by_kinds", 49, [S "machine", S "columns", S "deed", S "column", S "row", S "board"]),
  (S "_law_typed_world", 50, [S "way", S "every"]),
  (S "_law_world", 51, [S "box", S "turn", S "steps", S "ends", S "answers", S "machine", S "world", S "boards", S "deeds", S "questions", S "board", S "deed", S "question"]),
  (S "_law_board", 52, [S "world", S "book", S "row", S "board", S "word"]),
  (S "_law_heard", 53, [S "world", S "book", S "row", S "board"]),
  (S "_law_holds", 54, [S "world", S "book", S "page", S "told", S "word"]),
  (S "_law_books", 55, [S "world", S "words", S "manner", S "rows", S "word", S "later", S "row", S "kind"]),
  (S "_law_fitting", 56, [S "world", S "words", S "manner", S "pages", S "book", S "page"]),
  (S "_law_row", 57, [S "box", S "words", S "most", S "turn"]),
  (S "_law_lawful_row", 58, [S "box", S "world", S "book", S "most", S "turn", S "board", S "row", S "some", S "word"]),
  (S "_law_page", 59, [S "box", S "world", S "book", S "most", S "row", S "told", S "question", S "word"]),
  (S "_law_talk", 60, [S "box", S "most", S "manner", S "book", S "pages", S "world", S "words", S "turn"]),
  (S "_law_bent", 20, [S "box", S "value", S "odd", S "spot", S "way"]),
  (S "_law_is_number", 21, [S "value", S "most"]),
  (S "_law_said", 61, [S "world", S "board", S "question"]),
  (S "_law_worth", 62, [S "world", S "book", S "asked"]),
  (S "_law_is_fitting", 63, [S "world", S "words", S "manner", S "pages", S "value", S "named", S "kind", S "page"]),
  (S "_law_any_asked", 64, [S "box", S "world", S "words", S "questions", S "row"]),
  (S "law", 65, [S "script", S "k", S "box", S "turn", S "world", S "words", S "manner", S "book", S "pages", S "books", S "every", S "asked", S "value", S "shown", S "due", S "one"])]
def csts : List (PySem.Str × D) := [(S "DID", .str [100, 105, 100]), (S "SO", .str [115, 111]), (S "AMID", .str [97, 109, 105, 100]), (S "NOT", .str [110, 111, 116]), (S "NOTED", .str [110, 111, 116, 101, 100]), (S "NO", .str [110, 111]), (S "UNLIKE", .str [117, 110, 108, 105, 107, 101]), (S "ANSWER", .str [97, 110, 115, 119, 101, 114]), (S "WORD", .str [119, 111, 114, 100])]
abbrev R : PySem.W.OpenRow := PySem.W.OpenLaw.row PySem.Challenge.rw_strangewords_k67_who_judges_open
abbrev body : List PySem.Stmt := PySem.Challenge.pw_strangewords_k67_who_judges_open.main.body
abbrev tab : List Row := tabOf ids body
abbrev fa : List He.Fa := faOf tab
abbrev fn : List He.DefD := fnOfTab tab
abbrev hk : PySem.W.Hook := hookM 4 fa csts fn
def ob (s : PySem.W.SharedT) : He.AlD := obsMG 4 fa csts fn (HandSHeadRun.getT s)
theorem ob_eq (s : PySem.W.SharedT) : ob s = hk.obs s.abs := obsMG_eq (HandSHeadRun.getT_eq s)
theorem tabB : tab.all rowB = true := by kernel_rfl
abbrev loose : List PySem.Str := [S "is_int", S "is_number", S "is_tuple", S "DID", S "SO", S "AMID", S "NOT", S "NOTED", S "NO", S "many_kinds", S "board_behind", S "meaning_of", S "answers_behind", S "page_holds", S "UNLIKE", S "ANSWER", S "WORD", S "told_by", S "is_book", S "fits", S "is_fitting", S "open_holds", S "_law_box", S "_law_take", S "_law_pick", S "_law_same", S "_law_can_end", S "_law_least", S "_law_by_kinds", S "_law_typed_world", S "_law_world", S "_law_board", S "_law_heard", S "_law_holds", S "_law_books", S "_law_fitting", S "_law_row", S "_law_lawful_row", S "_law_page", S "_law_talk", S "_law_bent", S "_law_is_number", S "_law_said", S "_law_worth", S "_law_is_fitting", S "_law_any_asked"]
theorem run (w : PySem.World) : HandSHeadRun.RunEq R (PySem.W.view R.prog [51]) hk ob 4000 loose w := by
  intro os
  kernel_rfl
theorem allC : (tab.all fun r => (r.def_ (gmOf tab csts)).isSome) = true := by kernel_rfl
theorem idsN : (tab.map fun r => r.fi.id).Nodup := by decide +kernel
theorem P_eq : progOf tab (gmOf tab csts) = P := by kernel_rfl
theorem P_ok : ∀ r ∈ tab, ∃ d, r.def_ (gmOf tab csts) = some d ∧ P.lookup r.fi.id = some d := by rw [← P_eq]; exact prog_ok allC idsN
def rLaw : Row := (tab[37]?).getD noRow
end M67
open PySem PySem.W PySem.Calls PyProof.Rows
set_option maxRecDepth 100000 in
set_option maxHeartbeats 0 in
theorem PySem.Challenge.cw_strangewords_k67_who_judges_open_holds : PySem.Challenge.rw_strangewords_k67_who_judges_open.Holds := by
  w_on; o_law
  refine HandSHeadRun.head_any (r := OpenLaw.row PySem.Challenge.rw_strangewords_k67_who_judges_open) (q := view (OpenLaw.row PySem.Challenge.rw_strangewords_k67_who_judges_open).prog [51]) (H := M67.hk) (ob := M67.ob) (M := 4000) (loose := M67.loose) (d := HandSHeadRun.topDef (OpenLaw.row PySem.Challenge.rw_strangewords_k67_who_judges_open).prog 51) (kwd := []) M67.ob_eq
    (by kernel_rfl) (fun s => by kernel_rfl) M67.run (by kernel_rfl) (by kernel_rfl) (by kernel_rfl) (by rfl) (by first | assumption | decide +kernel) (by decide +kernel) ⟨rfl, rfl, rfl, rfl, rfl, by decide +kernel⟩ ?hw ?hc
  case hw => w_witness2
  case hc =>
    refine L2.walk_ofE (l := PySem.Challenge.rw_strangewords_k67_who_judges_open) (n := 63) (k := 100) (x := "script") (CX := M.CXN) rfl (by decide) (by kernel_rfl) ⟨rfl, by decide, by decide⟩ ?F (fun _ _ _ _ z => z)
    intro w mg fa h Y G hmg0
    obtain ⟨K, KX, c⟩ := Y
    have hmg : mg ("law" : PySem.Str) = some (.ref fa) := by
      have e : (HandSHeadRun.topDef (OpenLaw.row PySem.Challenge.rw_strangewords_k67_who_judges_open).prog 51).name = ("law" : PySem.Str) := by kernel_rfl
      rw [← e]
      exact hmg0
    exact M.law_end (tab := M67.tab) (cs := M67.csts) (Pm := M67.P) (r := M67.rLaw) 100 KX G hmg c M67.tabB M67.P_ok (i := 37) (by kernel_rfl) (by kernel_rfl) (by kernel_rfl) (by kernel_rfl) (by kernel_rfl) fun c ns hc hl => M67.law_ok hc hl fun _ => rfl

end
