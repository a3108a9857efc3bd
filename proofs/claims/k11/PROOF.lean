import PyProof.Rows.All
import Wide.All
import OpenK.AllK
import Wide.FinOn
import HandS.ForMost
import HandS.Exc
import HandS.Conv
import HandS.Zip
import HandS.Style
import HandS.Flow
import HandS.IsInst
import HandS.Deep
import HandS.Defaults
import HandS.TupAny
import HandS.TupMul
import HandS.Rev
import KE.KDictKeyed
import KE.SortData
import HandS.SetKeys
import HandS.More
import KE.KDictPairs
import KE.GoesZip
import KE.GoesEnum
import HandS.Zip0
import HandS.DictComp
import HandS.Ends
import HandS.Words
import HandS.WordsExc
import HandS.Head0
import HandS.Head1
import HandS.Head2
import HandS.HeadEnd
import HandS.HeadHook1
import HandS.HeadHook2
import HandS.HeadHook4
import PySem.Challenge.RW_strangewords_k11_whole_courses_parted
section
set_option linter.all false
set_option autoImplicit false
/-! mini: a small language over data, its meaning by weakest preconditions -/
namespace M

inductive D where
  | non
  | bl (b : Bool)
  | int (i : Int)
  | str (s : List Nat)
  | tup (xs : List D)
  | lst (xs : List D)
  | ref (a : Nat)
  deriving Inhabited

mutual
/-- Python's == on data (a list's snapshot is a .lst) -/
def eqD : D → D → Bool
  | .non, .non => true
  | .bl a, .bl b => a == b
  | .bl a, .int j => (if a then 1 else 0) == j
  | .int i, .bl b => i == (if b then 1 else 0)
  | .int i, .int j => decide (i = j)
  | .str x, .str y => decide (x = y)
  | .tup xs, .tup ys => eqDs xs ys
  | .lst xs, .lst ys => eqDs xs ys
  | _, _ => false
def eqDs : List D → List D → Bool
  | [], [] => true
  | x :: xs, y :: ys => eqD x y && eqDs xs ys
  | _, _ => false
end
mutual
def dep : D → Nat
  | .tup xs => deps xs + 1
  | .lst xs => deps xs + 1
  | _ => 0
def deps : List D → Nat
  | [] => 0
  | x :: xs => max (dep x) (deps xs)
end
mutual
/-- no list, no dict in it -/
def pureD : D → Bool
  | .tup xs => pureDs xs
  | .lst _ => false
  | .ref _ => false
  | _ => true
def pureDs : List D → Bool
  | [] => true
  | x :: xs => pureD x && pureDs xs
end

inductive Cell where
  | lst (xs : List D)
  | ro (xs : List D)
  | dct (kvs : List (D × D))
  deriving Inhabited

abbrev Hm := List Cell
abbrev Env := List (Option D)
abbrev VQ := D → Hm → Prop

def LIM : Nat := 16777216

def ws {α : Type} (o : Option α) (f : α → Prop) : Prop := match o with
  | some a => f a
  | none => False
@[simp] theorem ws_some {α : Type} {a : α} {f : α → Prop} : ws (some a) f = f a := rfl
@[simp] theorem ws_none {α : Type} {f : α → Prop} : ws (none : Option α) f = False := rfl
theorem ws_iff {α : Type} {o : Option α} {f : α → Prop} : ws o f ↔ ∃ a, o = some a ∧ f a := by
  cases o with
  | none => simp
  | some a => simp
theorem ws_mono {α : Type} {o : Option α} {f g : α → Prop} (h : ws o f) (k : ∀ a, f a → g a) : ws o g := by
  cases o with
  | none => exact h
  | some a => exact k a h

def getL (h : Hm) (a : Nat) : Option (List D) := match h[a]? with
  | some (.lst xs) => some xs
  | some (.ro xs) => some xs
  | _ => none
def getM (h : Hm) (a : Nat) : Option (List D) := match h[a]? with
  | some (.lst xs) => some xs
  | _ => none
def getK (h : Hm) (a : Nat) : Option (List (D × D)) := match h[a]? with
  | some (.dct kvs) => some kvs
  | _ => none

/-! snapshots -/
mutual
def snapD (f : Nat → Option (List D)) : D → Option D
  | .ref a => (f a).map D.lst
  | .tup xs => (snapDs f xs).map D.tup
  | .lst _ => none
  | d => some d
def snapDs (f : Nat → Option (List D)) : List D → Option (List D)
  | [] => some []
  | x :: xs => match snapD f x, snapDs f xs with
    | some y, some ys => some (y :: ys)
    | _, _ => none
end
def snapN (h : Hm) : Nat → Nat → Option (List D)
  | 0, _ => none
  | n + 1, a => match getL h a with
    | some xs => snapDs (snapN h n) xs
    | none => none
def snap (h : Hm) (d : D) : Option D := snapD (snapN h 6) d

/-- == of two values -/
def eqv (h : Hm) (a b : D) : Option Bool := match snap h a, snap h b with
  | some x, some y => if min (dep x) (dep y) ≤ 60 then some (eqD x y) else none
  | _, _ => none

def truth (h : Hm) : D → Option Bool
  | .non => some false
  | .bl b => some b
  | .int i => some (decide (i ≠ 0))
  | .str s => some (!s.isEmpty)
  | .tup xs => some (!xs.isEmpty)
  | .ref a => match h[a]? with
    | some (.lst xs) => some (!xs.isEmpty)
    | some (.ro xs) => some (!xs.isEmpty)
    | _ => none
  | .lst _ => none

/-! dicts: association lists by == -/
/-- a key: a whole number, a text, or a tuple (nested to eight deep) -/
def keyOK : D → Bool
  | .int _ => true
  | .str _ => true
  | .tup xs => pureDs xs && decide (deps xs ≤ 7)
  | _ => false
/-- a leaf key -/
def leafB : D → Bool
  | .int _ => true
  | .str _ => true
  | _ => false
def isTup : D → Bool
  | .tup _ => true
  | _ => false
/-- a key for a dict: all its keys are tuples, or none is -/
def keyIn (kvs : List (D × D)) (k : D) : Bool := keyOK k && kvs.all fun p => isTup p.1 == isTup k
def dget (kvs : List (D × D)) (k : D) : Option D := (kvs.find? fun p => eqD p.1 k).map (·.2)
def dput (kvs : List (D × D)) (k v : D) : List (D × D) := if (kvs.any fun p => eqD p.1 k) = true then kvs.map (fun p => if eqD p.1 k = true then (p.1, v) else p) else kvs ++ [(k, v)]

/-! order: data as rows of signs, compared sign by sign -/
mutual
def toks : D → List (Int ⊕ List Nat)
  | .non => []
  | .bl b => [.inl (if b then 1 else 0)]
  | .int n => [.inl n]
  | .str x => [.inr x]
  | .tup xs => toksL xs
  | .lst xs => toksL xs
  | .ref _ => []
def toksL : List D → List (Int ⊕ List Nat)
  | [] => [.inl 0]
  | x :: xs => .inl 1 :: (toks x ++ toksL xs)
end
def ltI : Int ⊕ List Nat → Int ⊕ List Nat → Bool
  | .inl a, .inl b => decide (a < b)
  | .inl _, .inr _ => true
  | .inr _, .inl _ => false
  | .inr a, .inr b => decide (a < b)
def ltT : List (Int ⊕ List Nat) → List (Int ⊕ List Nat) → Bool
  | [], [] => false
  | [], _ :: _ => true
  | _ :: _, [] => false
  | x :: r, y :: t => ltI x y || (!ltI y x && ltT r t)
/-- x < y, of data that is alike place by place -/
def ltB (x y : D) : Bool := ltT (toks x) (toks y)

/-! sequences -/
def ixN (n : Nat) (i : Int) : Option Nat :=
  if 0 ≤ i then (if i < n then some i.toNat else none) else if -(n : Int) ≤ i then some (i + n).toNat else none
def atI (xs : List D) (i : Int) : Option D := (ixN xs.length i).bind fun j => xs[j]?
/-- a slice's bound, brought within 0 and n -/
def sIx (n d : Nat) : Option Int → Nat
  | none => d
  | some v => if v < 0 then (v + (n : Int)).toNat else min v.toNat n
def cutL (xs : List D) (lo hi : Option Int) : List D := (xs.drop (sIx xs.length 0 lo)).take (sIx xs.length xs.length hi - sIx xs.length 0 lo)
def optI : D → Option (Option Int)
  | .non => some none
  | .int i => some (some i)
  | _ => none

inductive Bop where
  | add | sub | mul | fdiv | mod | pow | xor
  deriving DecidableEq
inductive Cop where
  | eq | ne | lt | le | gt | ge | isin | notin | is | isnt
  deriving DecidableEq
inductive Ty where
  | int | bool | str | tuple | list | dict
  deriving DecidableEq
inductive Blt where
  | len | abs | int | max2 | min2 | max1 | min1 | sum | all | any | sorted | tuple | list | dict | str1
  | isi (t : Ty)
  | tupRange | lstRange | lstZip | dctZip
  | append | extend | pop0 | popI | index | insert | setdefault | get2 | rev | update
  deriving DecidableEq
/-- what a for walks -/
inductive IK where
  | val | keys | range | zip | enum | items | values
  deriving DecidableEq
inductive Pat where
  | slot (i : Nat)
  | tup (ps : List Pat)

def LINT : Int := 18446744073709551616

/-- the heap with a new cell -/
def newC (h : Hm) (c : Cell) : Option (D × Hm) := some (.ref h.length, h ++ [c])
def binS (op : Bop) (x y : D) (h : Hm) : Option (D × Hm) :=
  match op, x, y with
  | .add, .int i, .int j => some (.int (i + j), h)
  | .add, .str s, .str t => if s.length + t.length ≤ LIM then some (.str (s ++ t), h) else none
  | .add, .tup s, .tup t => if s.length + t.length ≤ LIM then some (.tup (s ++ t), h) else none
  | .add, .ref a, .ref b => match getM h a, getM h b with
    | some s, some t => if s.length + t.length ≤ LIM then newC h (.lst (s ++ t)) else none
    | _, _ => none
  | .sub, .int i, .int j => some (.int (i - j), h)
  | .mul, .int i, .int j => if (-LINT < i ∧ i < LINT) ∨ (-LINT < j ∧ j < LINT) then some (.int (i * j), h) else none
  | .mul, .tup s, .int j => if s.length ≠ 0 ∧ 2 ≤ j ∧ j ≤ 1000 ∧ s.length ≤ 1000 then some (.tup (List.replicate j.toNat s).flatten, h) else none
  | .mul, .ref a, .int j => match getM h a with
    | some s => if -1000 ≤ j ∧ j ≤ 1000 ∧ s.length ≤ 10000 then newC h (.lst (List.replicate j.toNat s).flatten) else none
    | none => none
  | .fdiv, .int i, .int j => if j ≠ 0 ∧ j.natAbs < 1073741824 then some (.int (i.fdiv j), h) else none
  | .mod, .int i, .int j => if j ≠ 0 then some (.int (i.fmod j), h) else none
  | .pow, .int i, .int j => if 0 ≤ j ∧ j ≤ 1000000 ∧ i.natAbs < 2 ^ 64 then some (.int (i ^ j.toNat), h) else none
  | _, _, _ => none

/-- x op= y, of ints and of texts -/
def augS (op : Bop) (x y : D) (h : Hm) : Option (D × Hm) := match op, x, y with
  | .add, .int i, .int j => some (.int (i + j), h)
  | .sub, .int i, .int j => some (.int (i - j), h)
  | .mul, .int i, .int j => if (-LINT < i ∧ i < LINT) ∨ (-LINT < j ∧ j < LINT) then some (.int (i * j), h) else none
  | .add, .str s, .str t => if s.length + t.length ≤ LIM then some (.str (s ++ t), h) else none
  | _, _, _ => none
/-- the items that a whole walk sees -/
def itemsOf (h : Hm) : D → Option (List D)
  | .tup xs => some xs
  | .ref a => match h[a]? with
    | some (.lst xs) => some xs
    | some (.ro xs) => some xs
    | some (.dct kvs) => some (kvs.map (·.1))
    | none => none
  | _ => none
def lstOf (h : Hm) : D → Option (List D)
  | .ref a => getL h a
  | _ => none
/-- the items of a list or a tuple -/
def seqOf (h : Hm) : D → Option (List D)
  | .tup xs => some xs
  | .ref a => getL h a
  | _ => none

def anyEq (h : Hm) (x : D) (ys : List D) : Option Bool := match snap h x, snapDs (snapN h 6) ys with
  | some a, some bs => if min (deps bs) (dep a) ≤ 60 then some (bs.any fun b => eqD b a) else none
  | _, _ => none
def indexEq (h : Hm) (x : D) (ys : List D) : Option Nat := match snap h x, snapDs (snapN h 6) ys with
  | some a, some bs => if dep a ≤ 60 ∧ deps bs ≤ 60 then bs.findIdx? fun b => eqD b a else none
  | _, _ => none
def inS (h : Hm) (x : D) : D → Option Bool
  | .tup ys => anyEq h x ys
  | .ref a => match h[a]? with
    | some (.lst ys) => anyEq h x ys
    | some (.ro ys) => anyEq h x ys
    | some (.dct kvs) => if keyIn kvs x then some (dget kvs x).isSome else none
    | none => none
  | _ => none

def isNonD : D → Bool
  | .non => true
  | _ => false
def isBlD (b : Bool) : D → Bool
  | .bl c => b == c
  | _ => false
/-- x is y, y being None, True, False -/
def isS (x : D) : D → Option Bool
  | .non => some (isNonD x)
  | .bl b => some (isBlD b x)
  | _ => none
def cmpS (op : Cop) (x y : D) (h : Hm) : Option Bool :=
  match op with
  | .eq => eqv h x y
  | .ne => (eqv h x y).map not
  | .lt => match x, y with
    | .int i, .int j => some (decide (i < j))
    | .str s, .str t => some (decide (s < t))
    | _, _ => none
  | .gt => match x, y with
    | .int i, .int j => some (decide (j < i))
    | _, _ => none
  | .le => match x, y with
    | .int i, .int j => some (decide (i ≤ j))
    | _, _ => none
  | .ge => match x, y with
    | .int i, .int j => some (decide (j ≤ i))
    | _, _ => none
  | .isin => inS h x y
  | .notin => (inS h x y).map not
  | .is => isS x y
  | .isnt => (isS x y).map not

def lenS (h : Hm) : D → Option Nat
  | .tup xs => some xs.length
  | .str s => some s.length
  | .ref a => match h[a]? with
    | some (.lst xs) => some xs.length
    | some (.ro xs) => some xs.length
    | some (.dct kvs) => some kvs.length
    | none => none
  | _ => none

def isiS (h : Hm) (t : Ty) : D → Option Bool
  | .non => some false
  | .bl _ => some (t = .int ∨ t = .bool)
  | .int _ => some (t = .int)
  | .str _ => some (t = .str)
  | .tup _ => some (t = .tuple)
  | .ref a => match h[a]? with
    | some (.lst _) => some (t = .list)
    | some (.ro _) => some (t = .list)
    | some (.dct _) => none
    | none => none
  | .lst _ => none

def intsOf : List D → Option (List Int)
  | [] => some []
  | .int i :: r => (intsOf r).map (i :: ·)
  | _ :: _ => none
def boolsOf : List D → Option (List Bool)
  | [] => some []
  | .bl b :: r => (boolsOf r).map (b :: ·)
  | _ :: _ => none
def pairsOf : List D → Option (List (D × D))
  | [] => some []
  | .tup [k, v] :: r => (pairsOf r).map ((k, v) :: ·)
  | _ :: _ => none
/-- the pairs put one behind another; none: a key that can't be -/
def mergeK (kvs : List (D × D)) : List (D × D) → Option (List (D × D))
  | [] => some kvs
  | (k, v) :: r => if keyIn kvs k then mergeK (dput kvs k v) r else none

/-! sorting: stable, by insertion -/
mutual
/-- place by place of one kind -/
def alikeD : D → D → Bool
  | .bl _, .bl _ => true
  | .int _, .int _ => true
  | .str _, .str _ => true
  | .non, .non => true
  | .tup xs, .tup ys => alikeDs xs ys
  | _, _ => false
def alikeDs : List D → List D → Bool
  | x :: xs, y :: ys => alikeD x y && alikeDs xs ys
  | _, _ => true
end
/-- what can be sorted: items alike place by place, all of them tuples with an item, or none of them a tuple -/
def consTup : D → Bool
  | .tup (_ :: _) => true
  | _ => false
def flatD : D → Bool
  | .bl _ => true
  | .int _ => true
  | .str _ => true
  | _ => false
def sortOK (xs : List D) : Bool := pureDs xs && decide (deps xs ≤ 60) && (xs.all fun x => xs.all fun y => alikeD x y) && (xs.all consTup || xs.all flatD)
def insD (x : D) : List D → List D
  | [] => [x]
  | y :: ys => if ltB y x then y :: insD x ys else x :: y :: ys
def sortD : List D → List D
  | [] => []
  | x :: xs => insD x (sortD xs)

/-! the built-ins -/
def rngD (i : Int) (n : Nat) : List D := (List.range n).map fun (k : Nat) => D.int (i + (k : Int))
def zipD (xs ys : List D) : List D := List.zipWith (fun a b => D.tup [a, b]) xs ys
def enumD (xs : List D) : List D := xs.zipIdx.map fun p => D.tup [.int (p.2 : Int), p.1]
def small (i : Int) : Bool := decide (-1000000 ≤ i) && decide (i ≤ 1000000)
/-- a text within the line -/
def sOK (s : List Nat) : Bool := decide (s.length ≤ LIM) && s.all fun c => decide (c < 1114112)
/-- a number's text -/
def strI (i : Int) : List Nat := (toString i).toList.map Char.toNat
def bltS (b : Blt) (ds : List D) (h : Hm) : Option (D × Hm) :=
  match b, ds with
  | .len, [d] => (lenS h d).map fun (n : Nat) => (D.int (n : Int), h)
  | .abs, [.int i] => some (.int (if i < 0 then -i else i), h)
  | .int, [.int i] => some (.int i, h)
  | .max2, [.int i, .int j] => some (.int (if j > i then j else i), h)
  | .min2, [.int i, .int j] => some (.int (if j < i then j else i), h)
  | .max1, [d] => ((lstOf h d).bind intsOf).bind fun ns => if ns ≠ [] then some (.int (ns.foldl max (ns.headD 0)), h) else none
  | .min1, [d] => ((lstOf h d).bind intsOf).bind fun ns => if ns ≠ [] then some (.int (ns.foldl min (ns.headD 0)), h) else none
  | .sum, [d] => ((lstOf h d).bind intsOf).map fun ns => (.int ns.sum, h)
  | .all, [d] => ((lstOf h d).bind boolsOf).map fun bs => (.bl (bs.all id), h)
  | .any, [d] => ((lstOf h d).bind boolsOf).map fun bs => (.bl (bs.any id), h)
  | .sorted, [.ref a] => (itemsOf h (.ref a)).bind fun xs => if sortOK xs = true then newC h (.lst (sortD xs)) else none
  | .tuple, [d] => (seqOf h d).map fun xs => (.tup xs, h)
  | .list, [d] => (itemsOf h d).bind fun xs => newC h (.lst xs)
  | .dict, [d] => ((lstOf h d).bind pairsOf).bind fun ps => if ((ps.all fun p => leafB p.1) = true ∨ (ps.all fun p => isTup p.1) = true) ∧ ps.length ≤ LIM then (mergeK [] ps).bind fun kvs => newC h (.dct kvs) else none
  | .isi t, [d] => (isiS h t d).map fun k => (.bl k, h)
  | .str1, [.int i] => if small i = true ∧ sOK (strI i) = true then some (.str (strI i), h) else none
  | .tupRange, [.int j] => if small j = true then some (.tup (rngD 0 j.toNat), h) else none
  | .lstRange, [.int j] => if small j = true then newC h (.lst (rngD 0 j.toNat)) else none
  | .lstRange, [.int i, .int j] => if (small i && small j) = true then newC h (.lst (rngD i (j - i).toNat)) else none
  | .lstZip, [x, y] => (seqOf h x).bind fun xs => (seqOf h y).bind fun ys => newC h (.lst (zipD xs ys))
  | .dctZip, [x, y] => (seqOf h x).bind fun xs => (seqOf h y).bind fun ys => (mergeK [] (xs.zip ys)).bind fun kvs => newC h (.dct kvs)
  | .append, [.ref a, x] => (getM h a).bind fun xs => if xs.length < LIM then some (.non, h.set a (.lst (xs ++ [x]))) else none
  | .extend, [.ref a, .ref b] => (getM h a).bind fun xs => (getM h b).bind fun ys => if xs.length + ys.length ≤ LIM ∧ a ≠ b then some (.non, h.set a (.lst (xs ++ ys))) else none
  | .pop0, [.ref a] => (getM h a).bind fun xs => xs.getLast?.map fun x => (x, h.set a (.lst xs.dropLast))
  | .popI, [.ref a, .int i] => if small i = true then (getM h a).bind fun xs => (ixN xs.length i).bind fun k => (xs[k]?).map fun x => (x, h.set a (.lst (xs.eraseIdx k))) else none
  | .index, [d, x] => (lstOf h d).bind fun xs => (indexEq h x xs).map fun (k : Nat) => (D.int (k : Int), h)
  | .insert, [.ref a, .int i, x] => (getM h a).bind fun xs => if xs.length < LIM ∧ 0 ≤ i ∧ i ≤ xs.length then some (.non, h.set a (.lst (xs.take i.toNat ++ x :: xs.drop i.toNat))) else none
  | .setdefault, [.ref a, k, x] => (getK h a).bind fun kvs => if keyIn kvs k = true ∧ kvs.length < LIM then (match dget kvs k with
      | some v => some (v, h)
      | none => some (x, h.set a (.dct (dput kvs k x)))) else none
  | .get2, [.ref a, k, x] => (getK h a).bind fun kvs => if keyIn kvs k = true then some ((dget kvs k).getD x, h) else none
  | .rev, [.tup xs] => some (.tup xs.reverse, h)
  | .rev, [.ref a] => (getL h a).bind fun xs => newC h (.lst xs.reverse)
  | _, _ => none

/-- whether a method's receiver is of its kind -/
def recvOK (b : Blt) (x : D) (h : Hm) : Bool := match b, x with
  | .append, .ref a => (getL h a).isSome
  | .extend, .ref a => (getL h a).isSome
  | .pop0, .ref a => (getL h a).isSome
  | .popI, .ref a => (getL h a).isSome
  | .insert, .ref a => (getL h a).isSome
  | .index, .ref a => (getL h a).isSome
  | .setdefault, .ref a => (getK h a).isSome
  | .get2, .ref a => (getK h a).isSome
  | _, _ => false
def idxS (x i : D) (h : Hm) : Option D :=
  match x, i with
  | .tup xs, .int k => atI xs k
  | .ref a, i => (match h[a]?, i with
    | some (.lst xs), .int k => atI xs k
    | some (.ro xs), .int k => atI xs k
    | some (.dct kvs), k => if keyIn kvs k = true then dget kvs k else none
    | _, _ => none)
  | _, _ => none
/-- of a list, of a dict -/
def idxR (x i : D) (h : Hm) : Option D := match x with
  | .ref _ => idxS x i h
  | _ => none
def slcS (x : D) (a b : Option Int) (h : Hm) : Option (D × Hm) :=
  match x with
  | .tup xs => some (.tup (cutL xs a b), h)
  | .ref r => (getL h r).bind fun xs => newC h (.lst (cutL xs a b))
  | _ => none
def setS (o i v : D) (h : Hm) : Option Hm :=
  match o with
  | .ref a => (match h[a]?, i with
    | some (.lst xs), .int k => (ixN xs.length k).map fun j => h.set a (.lst (xs.set j v))
    | some (.dct kvs), k => if keyIn kvs k = true ∧ kvs.length < LIM then some (h.set a (.dct (dput kvs k v))) else none
    | _, _ => none)
  | _ => none

/-! ### syntax -/
inductive CE where
  | loc (i : Nat)
  | lit (d : D)
  | tup (es : List CE)
  | lst (es : List CE)
  | dct (es : List CE)
  | dctP (es : List CE)
  | bin (op : Bop) (a b : CE)
  | neg (a : CE)
  | not (a : CE)
  | and (a b : CE)
  | or (a b : CE)
  | cmp (op : Cop) (a b : CE)
  | chn (op op' : Cop) (a b c : CE)
  | ife (c a b : CE)
  | call (f : Nat) (es : List CE) (dv : List D) (perm : List Nat)
  | blt (b : Blt) (es : List CE)
  | meth (b : Blt) (o : CE) (es : List CE)
  | idx (a i : CE)
  | slc (a lo hi : CE)
  | comp (own : List Nat) (p : Pat) (k : IK) (it : List CE) (cs : List CE) (elt : CE)
  | dcomp (own : List Nat) (p : Pat) (k : IK) (it : List CE) (cs : List CE) (key val : CE)
inductive CS where
  | asg (p : Pat) (e : CE)
  | set (o i e : CE)
  | aug (i : Nat) (op : Bop) (e : CE)
  | augs (o i : CE) (op : Bop) (e : CE)
  | expr (e : CE)
  | ret (e : CE)
  | pass
  | brk
  | cont
  | ite (c : CE) (a b : List CS)
  | whil (c : CE) (a : List CS)
  | for_ (p : Pat) (k : IK) (it : List CE) (a : List CS)

/-! ### meaning -/
abbrev XP := Nat → List D → Hm → Prop
/-- a function: its arguments, the heap, what is wanted of its value, of its exception -/
abbrev FnS := Nat → List D → Hm → VQ → XP → Prop

mutual
/-- a value stored to a target of names -/
def wpP : Pat → D → Env → (Env → Prop) → Prop
  | .slot i, v, env, Q => i < env.length ∧ Q (env.set i (some v))
  | .tup ps, v, env, Q => match v with
    | .tup xs => wpPs ps xs env Q
    | _ => False
def wpPs : List Pat → List D → Env → (Env → Prop) → Prop
  | [], [], env, Q => Q env
  | p :: ps, x :: xs, env, Q => wpP p x env fun e1 => wpPs ps xs e1 Q
  | _, _, _, _ => False
end
mutual
/-- the slots of a target -/
def slotsP : Pat → List Nat
  | .slot i => [i]
  | .tup ps => slotsPs ps
def slotsPs : List Pat → List Nat
  | [] => []
  | p :: ps => slotsP p ++ slotsPs ps
end
def wipeE (env : Env) : List Nat → Env
  | [] => env
  | i :: r => (wipeE env r).set i none

/-- the list cells that a walked value leans on -/
def leanOn (h : Hm) : D → Option (List (Nat × Cell))
  | .tup _ => some []
  | .ref a => (h[a]?).map fun c => [(a, c)]
  | _ => none
/-- the items of a walk, and the cells that must stay while it is walked -/
def iterS (k : IK) (ds : List D) (h : Hm) : Option (List D × List (Nat × Cell)) :=
  match k, ds with
  | .val, [x] => (seqOf h x).bind fun xs => (leanOn h x).map fun l => (xs, l)
  | .keys, [.ref a] => (getK h a).bind fun kvs => (leanOn h (.ref a)).map fun l => (kvs.map fun p => p.1, l)
  | .range, [.int j] => if small j = true then some (rngD 0 j.toNat, []) else none
  | .range, [.int i, .int j] => if (small i && small j) = true then some (rngD i (j - i).toNat, []) else none
  | .zip, [x, y] => (seqOf h x).bind fun xs => (seqOf h y).bind fun ys => (leanOn h x).bind fun l => (leanOn h y).map fun m => (zipD xs ys, l ++ m)
  | .enum, [.ref a] => (getL h a).bind fun xs => (leanOn h (.ref a)).map fun l => (enumD xs, l)
  | .enum, [.tup xs] => some (enumD xs, [])
  | .items, [.ref a] => (getK h a).bind fun kvs => (leanOn h (.ref a)).map fun l => (kvs.map fun p => .tup [p.1, p.2], l)
  | .values, [.ref a] => (getK h a).bind fun kvs => (leanOn h (.ref a)).map fun l => (kvs.map fun p => p.2, l)
  | _, _ => none
def still (l : List (Nat × Cell)) (h : Hm) : Prop := ∀ p ∈ l, h[p.1]? = some p.2

/-- a comprehension's turns: what one turn gives (none: its test fails); the new list at a -/
def compL (g : List (Nat × Cell)) (a : Nat) (step : D → Hm → (Option D → Hm → Prop) → Prop) (Q : Hm → Prop) : List D → Hm → Prop
  | [], h => still g h ∧ Q h
  | x :: xs, h => still g h ∧ step x h fun r h' => match r with
    | some y => ws (getM h' a) fun acc => acc.length < LIM ∧ compL g a step Q xs (h'.set a (.lst (acc ++ [y])))
    | none => compL g a step Q xs h'
def dcompL (g : List (Nat × Cell)) (a : Nat) (step : D → Hm → (Option (D × D) → Hm → Prop) → Prop) (Q : Hm → Prop) : List D → Hm → Prop
  | [], h => still g h ∧ Q h
  | x :: xs, h => still g h ∧ step x h fun r h' => match r with
    | some y => ws (getK h' a) fun kvs => keyIn kvs y.1 = true ∧ kvs.length < LIM ∧ dcompL g a step Q xs (h'.set a (.dct (dput kvs y.1 y.2)))
    | none => dcompL g a step Q xs h'
/-- a for's turns -/
def forL (g : List (Nat × Cell)) (step : D → Env → Hm → (Env → Hm → Prop) → Prop) (nx : Env → Hm → Prop) : List D → Env → Hm → Prop
  | [], env, h => still g h ∧ nx env h
  | x :: xs, env, h => still g h ∧ step x env h fun env' h' => forL g step nx xs env' h'

def evens : List D → Option (List (D × D))
  | [] => some []
  | k :: v :: r => (evens r).map ((k, v) :: ·)
  | _ => none
def permD (ds : List D) : List Nat → Option (List D)
  | [] => some []
  | i :: r => match ds[i]?, permD ds r with
    | some d, some l => some (d :: l)
    | _, _ => none

mutual
def wpE (F : FnS) (E : XP) : CE → Env → Hm → VQ → Prop
  | .loc i, env, h, Q => ws (env[i]?.join) fun d => Q d h
  | .lit d, _, h, Q => Q d h
  | .tup es, env, h, Q => wpEs F E es env h fun ds h1 => Q (.tup ds) h1
  | .lst es, env, h, Q => wpEs F E es env h fun ds h1 => Q (.ref h1.length) (h1 ++ [.lst ds])
  | .dct es, env, h, Q => wpEs F E es env h fun ds h1 => ws (evens ds) fun ps => ws (mergeK [] ps) fun kvs => Q (.ref h1.length) (h1 ++ [.dct kvs])
  | .dctP es, env, h, Q => wpEs F E es env (h ++ [.dct []]) fun ds h1 => ws (evens ds) fun ps => h1[h.length]? = some (.dct []) ∧ ps.length ≤ 15 ∧ ws (mergeK [] ps) fun kvs => Q (.ref h.length) (h1.set h.length (.dct kvs))
  | .bin op a b, env, h, Q => wpE F E a env h fun x h1 => wpE F E b env h1 fun y h2 => ws (binS op x y h2) fun r => Q r.1 r.2
  | .neg a, env, h, Q => wpE F E a env h fun x h1 => match x with
    | .int i => Q (.int (-i)) h1
    | _ => False
  | .not a, env, h, Q => wpE F E a env h fun x h1 => ws (truth h1 x) fun k => Q (.bl !k) h1
  | .and a b, env, h, Q => wpE F E a env h fun x h1 => ws (truth h1 x) fun k => if k = true then wpE F E b env h1 Q else Q x h1
  | .or a b, env, h, Q => wpE F E a env h fun x h1 => ws (truth h1 x) fun k => if k = true then Q x h1 else wpE F E b env h1 Q
  | .cmp op a b, env, h, Q => wpE F E a env h fun x h1 => wpE F E b env h1 fun y h2 => ws (cmpS op x y h2) fun k => Q (.bl k) h2
  | .chn op op' a b c, env, h, Q => wpE F E a env h fun x h1 => wpE F E b env h1 fun y h2 => ws (cmpS op x y h2) fun k =>
      if k = true then wpE F E c env h2 fun z h3 => ws (cmpS op' y z h3) fun k' => Q (.bl k') h3 else Q (.bl false) h2
  | .ife c a b, env, h, Q => wpE F E c env h fun x h1 => ws (truth h1 x) fun k => if k = true then wpE F E a env h1 Q else wpE F E b env h1 Q
  | .call f es dv pm, env, h, Q => wpEs F E es env h fun ds h1 => ws (permD (ds ++ dv) pm) fun zs => F f zs h1 Q E
  | .blt b es, env, h, Q => wpEs F E es env h fun ds h1 => ws (bltS b ds h1) fun r => Q r.1 r.2
  | .meth b o es, env, h, Q => wpE F E o env h fun x h1 => recvOK b x h1 = true ∧ wpEs F E es env h1 fun ds h2 => ws (bltS b (x :: ds) h2) fun r => Q r.1 r.2
  | .idx a i, env, h, Q => wpE F E a env h fun x h1 => wpE F E i env h1 fun y h2 => ws (idxS x y h2) fun d => Q d h2
  | .slc a lo hi, env, h, Q => wpE F E a env h fun x h1 => wpE F E lo env h1 fun y h2 => ws (optI y) fun o => wpE F E hi env h2 fun z h3 => ws (optI z) fun o' => ws (slcS x o o' h3) fun r => Q r.1 r.2
  | .comp own p k it cs elt, env, h, Q => wpEs F E it env h fun ds h1 => ws (iterS k ds h1) fun I =>
      compL I.2 h1.length (fun x h2 R => wpP p x (wipeE env own) fun e2 => wpCs F cs e2 h2 fun k h3 => if k = true then wpE F (fun _ _ _ => False) elt e2 h3 fun y h4 => R (some y) h4 else R none h3)
        (fun h5 => Q (.ref h1.length) h5) I.1 (h1 ++ [.lst []])
  | .dcomp own p k it cs ke va, env, h, Q => wpEs F E it env h fun ds h1 => ws (iterS k ds h1) fun I =>
      dcompL I.2 h1.length (fun x h2 R => wpP p x (wipeE env own) fun e2 => wpCs F cs e2 h2 fun k h3 => if k = true then wpE F (fun _ _ _ => False) ke e2 h3 fun y h4 => wpE F (fun _ _ _ => False) va e2 h4 fun z h5 => R (some (y, z)) h5 else R none h3)
        (fun h5 => Q (.ref h1.length) h5) I.1 (h1 ++ [.dct []])
def wpEs (F : FnS) (E : XP) : List CE → Env → Hm → (List D → Hm → Prop) → Prop
  | [], _, h, Q => Q [] h
  | e :: es, env, h, Q => wpE F E e env h fun d h1 => wpEs F E es env h1 fun ds h2 => Q (d :: ds) h2
def wpCs (F : FnS) : List CE → Env → Hm → (Bool → Hm → Prop) → Prop
  | [], _, h, Q => Q true h
  | c :: cs, env, h, Q => wpE F (fun _ _ _ => False) c env h fun d h1 => ws (truth h1 d) fun k => if k = true then wpCs F cs env h1 Q else Q false h1
end


structure Ends where
  nx : Env → Hm → Prop
  rt : VQ
  bk : Env → Hm → Prop
  ct : Env → Hm → Prop

mutual
def wpS (F : FnS) (E : XP) : CS → Env → Hm → Ends → Prop
  | .asg p e, env, h, Z => wpE F E e env h fun v h1 => wpP p v env fun env1 => Z.nx env1 h1
  | .set o i e, env, h, Z => wpE F E e env h fun v h1 => wpE F E o env h1 fun x h2 => wpE F E i env h2 fun y h3 => ws (setS x y v h3) fun h4 => Z.nx env h4
  | .aug i op e, env, h, Z => ws (env[i]?.join) fun x => wpE F E e env h fun y h1 => ws (augS op x y h1) fun r => Z.nx (env.set i (some r.1)) r.2
  | .augs o i op e, env, h, Z => wpE F E o env h fun x h1 => wpE F E i env h1 fun y h2 => ws (idxR x y h2) fun v => wpE F E e env h2 fun w h4 => ws (augS op v w h4) fun r => ws (setS x y r.1 r.2) fun h6 => Z.nx env h6
  | .expr e, env, h, Z => wpE F E e env h fun _ h1 => Z.nx env h1
  | .ret e, env, h, Z => wpE F E e env h Z.rt
  | .pass, env, h, Z => Z.nx env h
  | .brk, env, h, Z => Z.bk env h
  | .cont, env, h, Z => Z.ct env h
  | .ite c a b, env, h, Z => wpE F E c env h fun x h1 => ws (truth h1 x) fun k => if k = true then wpSs F E a env h1 Z else wpSs F E b env h1 Z
  | .whil c a, env, h, Z => ∃ W : Nat → Env → Hm → Prop, (∃ m, W m env h) ∧ ∀ m env h, W m env h →
      wpE F E c env h fun x h1 => ws (truth h1 x) fun k => if k = true then
        wpSs F E a env h1 { nx := fun e' h' => ∃ m', m' < m ∧ W m' e' h', ct := fun e' h' => ∃ m', m' < m ∧ W m' e' h', bk := Z.nx, rt := Z.rt } else Z.nx env h1
  | .for_ p k it a, env, h, Z => wpEs F E it env h fun ds h1 => ws (iterS k ds h1) fun I =>
      forL I.2 (fun x env h R => wpP p x env fun env1 => wpSs F E a env1 h { nx := R, ct := R, bk := Z.nx, rt := Z.rt }) Z.nx I.1 env h1
def wpSs (F : FnS) (E : XP) : List CS → Env → Hm → Ends → Prop
  | [], env, h, Z => Z.nx env h
  | s :: ss, env, h, Z => wpS F E s env h { Z with nx := fun e' h' => wpSs F E ss e' h' Z }
end

/-! ### programs -/
structure Def where
  params : Nat
  slots : Nat
  body : List CS
abbrev Prog := List (Nat × Def)
def FW (P : Prog) : Nat → FnS
  | 0 => fun _ _ _ _ _ => False
  | n + 1 => fun f ds h Q E => match P.lookup f with
    | some d => ds.length = d.params ∧ wpSs (FW P n) E d.body (ds.map some ++ List.replicate (d.slots - d.params) none) h { nx := fun _ h' => Q .non h', rt := Q, bk := fun _ _ => False, ct := fun _ _ => False }
    | none => False
end M

namespace M
/-! ### asking less -/
def FMono (F : FnS) : Prop := ∀ f ds h (Q Q' : VQ) (E : XP), F f ds h Q E → (∀ d h', Q d h' → Q' d h') → F f ds h Q' E
mutual
theorem wpP_mono : ∀ (p : Pat) (v : D) (env : Env) (Q Q' : Env → Prop), wpP p v env Q → (∀ e, Q e → Q' e) → wpP p v env Q'
  | .slot i, v, env, Q, Q', h, k => by unfold wpP at h ⊢; exact ⟨h.1, k _ h.2⟩
  | .tup ps, v, env, Q, Q', h, k => by
    unfold wpP at h ⊢
    cases v with
    | tup xs => exact wpPs_mono ps xs env Q Q' h k
    | _ => exact h
theorem wpPs_mono : ∀ (ps : List Pat) (xs : List D) (env : Env) (Q Q' : Env → Prop), wpPs ps xs env Q → (∀ e, Q e → Q' e) → wpPs ps xs env Q'
  | [], [], env, Q, Q', h, k => by unfold wpPs at h ⊢; exact k _ h
  | p :: ps, x :: xs, env, Q, Q', h, k => by
    unfold wpPs at h ⊢
    exact wpP_mono p x env _ _ h fun e he => wpPs_mono ps xs e Q Q' he k
  | [], _ :: _, _, _, _, h, _ => by unfold wpPs at h; exact h.elim
  | _ :: _, [], _, _, _, h, _ => by unfold wpPs at h; exact h.elim
end
theorem compL_mono {g : List (Nat × Cell)} {a : Nat} {st st' : D → Hm → (Option D → Hm → Prop) → Prop} {Q Q' : Hm → Prop} (hs : ∀ x h R R', st x h R → (∀ r h', R r h' → R' r h') → st' x h R') (hQ : ∀ h, Q h → Q' h) :
    ∀ (xs : List D) (h : Hm), compL g a st Q xs h → compL g a st' Q' xs h
  | [], h, k => ⟨k.1, hQ _ k.2⟩
  | x :: xs, h, k => ⟨k.1, hs x h _ _ k.2 fun r h' q => by
      cases r with
      | none => exact compL_mono hs hQ xs h' q
      | some y => exact ws_mono q fun acc q => ⟨q.1, compL_mono hs hQ xs _ q.2⟩⟩
theorem dcompL_mono {g : List (Nat × Cell)} {a : Nat} {st st' : D → Hm → (Option (D × D) → Hm → Prop) → Prop} {Q Q' : Hm → Prop} (hs : ∀ x h R R', st x h R → (∀ r h', R r h' → R' r h') → st' x h R') (hQ : ∀ h, Q h → Q' h) :
    ∀ (xs : List D) (h : Hm), dcompL g a st Q xs h → dcompL g a st' Q' xs h
  | [], h, k => ⟨k.1, hQ _ k.2⟩
  | x :: xs, h, k => ⟨k.1, hs x h _ _ k.2 fun r h' q => by
      cases r with
      | none => exact dcompL_mono hs hQ xs h' q
      | some y => exact ws_mono q fun kvs q => ⟨q.1, q.2.1, dcompL_mono hs hQ xs _ q.2.2⟩⟩
theorem forL_mono {g : List (Nat × Cell)} {st st' : D → Env → Hm → (Env → Hm → Prop) → Prop} {nx nx' : Env → Hm → Prop} (hs : ∀ x e h R R', st x e h R → (∀ e' h', R e' h' → R' e' h') → st' x e h R') (hQ : ∀ e h, nx e h → nx' e h) :
    ∀ (xs : List D) (e : Env) (h : Hm), forL g st nx xs e h → forL g st' nx' xs e h
  | [], e, h, k => ⟨k.1, hQ _ _ k.2⟩
  | x :: xs, e, h, k => ⟨k.1, hs x e h _ _ k.2 fun e' h' q => forL_mono hs hQ xs e' h' q⟩

section
variable {F : FnS} (hF : FMono F)
include hF
mutual
theorem wpE_mono : ∀ (c : CE) (E : XP) (env : Env) (h : Hm) (Q Q' : VQ), wpE F E c env h Q → (∀ d h', Q d h' → Q' d h') → wpE F E c env h Q'
  | .loc i, E, env, h, Q, Q', a, k => by unfold wpE at a ⊢; exact ws_mono a fun d q => k _ _ q
  | .lit d, E, env, h, Q, Q', a, k => by unfold wpE at a ⊢; exact k _ _ a
  | .tup es, E, env, h, Q, Q', a, k => by unfold wpE at a ⊢; exact wpEs_mono es E env h _ _ a fun d h' q => k _ _ q
  | .lst es, E, env, h, Q, Q', a, k => by unfold wpE at a ⊢; exact wpEs_mono es E env h _ _ a fun d h' q => k _ _ q
  | .dct es, E, env, h, Q, Q', a, k => by unfold wpE at a ⊢; exact wpEs_mono es E env h _ _ a fun d h' q => ws_mono q fun _ q => ws_mono q fun _ q => k _ _ q
  | .dctP es, E, env, h, Q, Q', a, k => by unfold wpE at a ⊢; exact wpEs_mono es E env _ _ _ a fun d h' q => ws_mono q fun _ q => ⟨q.1, q.2.1, ws_mono q.2.2 fun _ q => k _ _ q⟩
  | .bin op x y, E, env, h, Q, Q', a, k => by unfold wpE at a ⊢; exact wpE_mono x E env h _ _ a fun _ h1 q => wpE_mono y E env h1 _ _ q fun _ _ q => ws_mono q fun _ q => k _ _ q
  | .neg x, E, env, h, Q, Q', a, k => by
    unfold wpE at a ⊢; exact wpE_mono x E env h _ _ a fun d h1 q => by
      cases d with
      | int i => exact k _ _ q
      | _ => exact q
  | .not x, E, env, h, Q, Q', a, k => by unfold wpE at a ⊢; exact wpE_mono x E env h _ _ a fun d h1 q => ws_mono q fun _ q => k _ _ q
  | .and x y, E, env, h, Q, Q', a, k => by
    unfold wpE at a ⊢; exact wpE_mono x E env h _ _ a fun d h1 q => ws_mono q fun b q => by
      cases b with
      | true => exact wpE_mono y E env h1 _ _ q k
      | false => exact k _ _ q
  | .or x y, E, env, h, Q, Q', a, k => by
    unfold wpE at a ⊢; exact wpE_mono x E env h _ _ a fun d h1 q => ws_mono q fun b q => by
      cases b with
      | true => exact k _ _ q
      | false => exact wpE_mono y E env h1 _ _ q k
  | .cmp op x y, E, env, h, Q, Q', a, k => by unfold wpE at a ⊢; exact wpE_mono x E env h _ _ a fun _ h1 q => wpE_mono y E env h1 _ _ q fun _ _ q => ws_mono q fun _ q => k _ _ q
  | .chn op op' x y z, E, env, h, Q, Q', a, k => by
    unfold wpE at a ⊢; exact wpE_mono x E env h _ _ a fun _ h1 q => wpE_mono y E env h1 _ _ q fun _ h2 q => ws_mono q fun b q => by
      cases b with
      | true => exact wpE_mono z E env h2 _ _ q fun _ _ q => ws_mono q fun _ q => k _ _ q
      | false => exact k _ _ q
  | .ife c x y, E, env, h, Q, Q', a, k => by
    unfold wpE at a ⊢; exact wpE_mono c E env h _ _ a fun d h1 q => ws_mono q fun b q => by
      cases b with
      | true => exact wpE_mono x E env h1 _ _ q k
      | false => exact wpE_mono y E env h1 _ _ q k
  | .call f es dv pm, E, env, h, Q, Q', a, k => by unfold wpE at a ⊢; exact wpEs_mono es E env h _ _ a fun _ h1 q => ws_mono q fun _ q => hF _ _ _ _ _ _ q k
  | .blt b es, E, env, h, Q, Q', a, k => by unfold wpE at a ⊢; exact wpEs_mono es E env h _ _ a fun _ h1 q => ws_mono q fun _ q => k _ _ q
  | .meth b o es, E, env, h, Q, Q', a, k => by unfold wpE at a ⊢; exact wpE_mono o E env h _ _ a fun _ h1 q => ⟨q.1, wpEs_mono es E env h1 _ _ q.2 fun _ _ q => ws_mono q fun _ q => k _ _ q⟩
  | .idx x i, E, env, h, Q, Q', a, k => by unfold wpE at a ⊢; exact wpE_mono x E env h _ _ a fun _ h1 q => wpE_mono i E env h1 _ _ q fun _ _ q => ws_mono q fun _ q => k _ _ q
  | .slc x i j, E, env, h, Q, Q', a, k => by unfold wpE at a ⊢; exact wpE_mono x E env h _ _ a fun _ h1 q => wpE_mono i E env h1 _ _ q fun _ h2 q => ws_mono q fun _ q => wpE_mono j E env h2 _ _ q fun _ _ q => ws_mono q fun _ q => ws_mono q fun _ q => k _ _ q
  | .comp own p kd it cs elt, E, env, h, Q, Q', a, k => by
    unfold wpE at a ⊢
    refine wpEs_mono it E env h _ _ a fun _ h1 q => ws_mono q fun I q => ?_
    refine compL_mono ?_ ?_ _ _ q
    · intro x h2 R R' a r
      refine wpP_mono _ _ _ _ _ a fun e2 q => wpCs_mono cs e2 h2 _ _ q fun b h3 q => ?_
      cases b with
      | true => exact wpE_mono elt _ e2 h3 _ _ q fun _ _ q => r _ _ q
      | false => exact r _ _ q
    · exact fun _ q => k _ _ q
  | .dcomp own p kd it cs ke va, E, env, h, Q, Q', a, k => by
    unfold wpE at a ⊢
    refine wpEs_mono it E env h _ _ a fun _ h1 q => ws_mono q fun I q => ?_
    refine dcompL_mono ?_ ?_ _ _ q
    · intro x h2 R R' a r
      refine wpP_mono _ _ _ _ _ a fun e2 q => wpCs_mono cs e2 h2 _ _ q fun b h3 q => ?_
      cases b with
      | true => exact wpE_mono ke _ e2 h3 _ _ q fun _ h4 q => wpE_mono va _ e2 h4 _ _ q fun _ _ q => r _ _ q
      | false => exact r _ _ q
    · exact fun _ q => k _ _ q
theorem wpEs_mono : ∀ (es : List CE) (E : XP) (env : Env) (h : Hm) (Q Q' : List D → Hm → Prop), wpEs F E es env h Q → (∀ d h', Q d h' → Q' d h') → wpEs F E es env h Q'
  | [], E, env, h, Q, Q', a, k => by unfold wpEs at a ⊢; exact k _ _ a
  | e :: es, E, env, h, Q, Q', a, k => by unfold wpEs at a ⊢; exact wpE_mono e E env h _ _ a fun _ h1 q => wpEs_mono es E env h1 _ _ q fun _ _ q => k _ _ q
theorem wpCs_mono : ∀ (cs : List CE) (env : Env) (h : Hm) (Q Q' : Bool → Hm → Prop), wpCs F cs env h Q → (∀ d h', Q d h' → Q' d h') → wpCs F cs env h Q'
  | [], env, h, Q, Q', a, k => by unfold wpCs at a ⊢; exact k _ _ a
  | c :: cs, env, h, Q, Q', a, k => by
    unfold wpCs at a ⊢
    exact wpE_mono c _ env h _ _ a fun d h1 q => ws_mono q fun b q => by
      cases b with
      | true => exact wpCs_mono cs env h1 _ _ q k
      | false => exact k _ _ q
end
/-- the ends asking less -/
structure Ends.Le (Z Z' : Ends) : Prop where
  nx : ∀ e h, Z.nx e h → Z'.nx e h
  rt : ∀ d h, Z.rt d h → Z'.rt d h
  bk : ∀ e h, Z.bk e h → Z'.bk e h
  ct : ∀ e h, Z.ct e h → Z'.ct e h
mutual
theorem wpS_mono : ∀ (s : CS) (E : XP) (env : Env) (h : Hm) (Z Z' : Ends), wpS F E s env h Z → Z.Le Z' → wpS F E s env h Z'
  | .asg p e, E, env, h, Z, Z', a, k => by unfold wpS at a ⊢; exact wpE_mono hF e E env h _ _ a fun v h1 q => wpP_mono _ _ _ _ _ q fun _ q => k.nx _ _ q
  | .set o i e, E, env, h, Z, Z', a, k => by unfold wpS at a ⊢; exact wpE_mono hF e E env h _ _ a fun v h1 q => wpE_mono hF o E env h1 _ _ q fun v h2 q => wpE_mono hF i E env h2 _ _ q fun v h3 q => ws_mono q fun _ q => k.nx _ _ q
  | .aug i op e, E, env, h, Z, Z', a, k => by unfold wpS at a ⊢; exact ws_mono a fun x q => wpE_mono hF e E env h _ _ q fun y h1 q => ws_mono q fun _ q => k.nx _ _ q
  | .augs o i op e, E, env, h, Z, Z', a, k => by unfold wpS at a ⊢; exact wpE_mono hF o E env h _ _ a fun v h1 q => wpE_mono hF i E env h1 _ _ q fun v h2 q => ws_mono q fun _ q => wpE_mono hF e E env h2 _ _ q fun v h3 q => ws_mono q fun _ q => ws_mono q fun _ q => k.nx _ _ q
  | .expr e, E, env, h, Z, Z', a, k => by unfold wpS at a ⊢; exact wpE_mono hF e E env h _ _ a fun v h1 q => k.nx _ _ q
  | .ret e, E, env, h, Z, Z', a, k => by unfold wpS at a ⊢; exact wpE_mono hF e E env h _ _ a fun v h1 q => k.rt _ _ q
  | .pass, E, env, h, Z, Z', a, k => by unfold wpS at a ⊢; exact k.nx _ _ a
  | .brk, E, env, h, Z, Z', a, k => by unfold wpS at a ⊢; exact k.bk _ _ a
  | .cont, E, env, h, Z, Z', a, k => by unfold wpS at a ⊢; exact k.ct _ _ a
  | .ite c x y, E, env, h, Z, Z', a, k => by
    unfold wpS at a ⊢
    exact wpE_mono hF c E env h _ _ a fun v h1 q => ws_mono q fun b q => by
      cases b with
      | true => exact wpSs_mono x E env h1 Z Z' q k
      | false => exact wpSs_mono y E env h1 Z Z' q k
  | .whil c x, E, env, h, Z, Z', a, k => by
    unfold wpS at a ⊢
    obtain ⟨W, w0, w1⟩ := a
    refine ⟨W, w0, fun m e h' q => wpE_mono hF c E e h' _ _ (w1 m e h' q) fun v h1 q => ws_mono q fun b q => ?_⟩
    cases b with
    | true => exact wpSs_mono x E e h1 _ _ q ⟨fun _ _ q => q, k.rt, k.nx, fun _ _ q => q⟩
    | false => exact k.nx _ _ q
  | .for_ p kd it x, E, env, h, Z, Z', a, k => by
    unfold wpS at a ⊢
    refine wpEs_mono hF it E env h _ _ a fun _ h1 q => ws_mono q fun I q => ?_
    refine forL_mono ?_ k.nx _ _ _ q
    intro v e h2 R R' a r
    refine wpP_mono _ _ _ _ _ a fun e2 q => ?_
    refine wpSs_mono x E e2 h2 _ _ q ⟨?_, ?_, ?_, ?_⟩
    · exact r
    · exact k.rt
    · exact k.nx
    · exact r
theorem wpSs_mono : ∀ (s : List CS) (E : XP) (env : Env) (h : Hm) (Z Z' : Ends), wpSs F E s env h Z → Z.Le Z' → wpSs F E s env h Z'
  | [], E, env, h, Z, Z', a, k => by unfold wpSs at a ⊢; exact k.nx _ _ a
  | s :: ss, E, env, h, Z, Z', a, k => by
    unfold wpSs at a ⊢
    exact wpS_mono s E env h _ _ a ⟨fun e' h' q => wpSs_mono ss E e' h' Z Z' q k, k.rt, k.bk, k.ct⟩
end
end
theorem FW_mono (P : Prog) : ∀ n, FMono (FW P n)
  | 0, _, _, _, _, _, _, h, _ => h.elim
  | n + 1, f, ds, h, Q, Q', E, a, k => by
    unfold FW at a ⊢
    cases e : P.lookup f with
    | none => rw [e] at a; exact a.elim
    | some d =>
      rw [e] at a
      exact ⟨a.1, wpSs_mono (FW_mono P n) _ _ _ _ _ _ a.2 ⟨fun _ _ q => k _ _ q, k, fun _ _ q => q, fun _ _ q => q⟩⟩
end M

end
section
set_option Elab.async false
set_option linter.all false
set_option autoImplicit false
set_option maxRecDepth 100000
set_option maxHeartbeats 4000000
/-! the relation between mini's values and heap and the layer's -/
namespace M
open PySem (Addr Obj Value Str)
abbrev LHp := L2.Hp
abbrev LV := L2.V

mutual
inductive RV (K : PySem.W.Frag) (ρ : List Addr) (H : LHp) : D → LV → Prop
  | non : RV K ρ H .non .non
  | bl (b : Bool) : RV K ρ H (.bl b) (.bl b)
  | int (i : Int) : RV K ρ H (.int i) (.int i)
  | str (s : List Nat) (h : sOK s = true) : RV K ρ H (.str s) (.str ⟨s.toArray⟩)
  | tup {a : Addr} {xs : List LV} {ds : List D} : L2.SqT K H a xs → RVs K ρ H ds xs → RV K ρ H (.tup ds) (.ref a)
  | ref {i : Nat} {a : Addr} : ρ[i]? = some a → RV K ρ H (.ref i) (.ref a)
inductive RVs (K : PySem.W.Frag) (ρ : List Addr) (H : LHp) : List D → List LV → Prop
  | nil : RVs K ρ H [] []
  | cons {d : D} {v : LV} {ds : List D} {vs : List LV} : RV K ρ H d v → RVs K ρ H ds vs → RVs K ρ H (d :: ds) (v :: vs)
end

/-- tuples and locked things stay -/
structure TK (H H' : LHp) : Prop where
  tup : ∀ b xs, H b = some (.tup xs) → H' b = some (.tup xs)
  frz : ∀ b o u, H b = some (.frz o (.lst u)) → H' b = some (.frz o (.lst u))
  frt : ∀ b o u, H b = some (.frz o (.tup u)) → H' b = some (.frz o (.tup u))
theorem TK.refl (H : LHp) : TK H H := ⟨fun _ _ h => h, fun _ _ _ h => h, fun _ _ _ h => h⟩
theorem TK.trans {H H1 H2 : LHp} (a : TK H H1) (b : TK H1 H2) : TK H H2 := ⟨fun c xs h => b.tup c xs (a.tup c xs h), fun c o u h => b.frz c o u (a.frz c o u h), fun c o u h => b.frt c o u (a.frt c o u h)⟩
theorem TK.sqT {K : PySem.W.Frag} {H H' : LHp} {a : Addr} {xs : List LV} (t : TK H H') (h : L2.SqT K H a xs) : L2.SqT K H' a xs := by
  rcases h with (h | ⟨o, h⟩) | h
  · exact .inl (.inl (t.tup _ _ h))
  · exact .inl (.inr ⟨o, t.frt _ _ _ h⟩)
  · exact .inr h
theorem TK.new {H : LHp} {p : Addr} {o : L2.HO} (h : H p = none) : TK H (L2.upd H p o) :=
  ⟨fun b xs e => by rw [L2.upd_ne (L2.ne_of_none e h)]; exact e, fun b ob u e => by rw [L2.upd_ne (L2.ne_of_none e h)]; exact e, fun b ob u e => by rw [L2.upd_ne (L2.ne_of_none e h)]; exact e⟩
/-- a thing that changes -/
def Chg : L2.HO → Prop
  | .lst _ => True
  | .ext _ => True
  | .dK _ => True
  | _ => False
theorem TK.put {H : LHp} {p : Addr} {o u : L2.HO} (h : H p = some u) (c : Chg u) : TK H (L2.upd H p o) := by
  refine ⟨fun b xs e => ?_, fun b ob u' e => ?_, fun b ob u' e => ?_⟩
  · rw [L2.upd_ne (L2.ne_of e h fun z => by subst z; exact c)]; exact e
  · rw [L2.upd_ne (L2.ne_of e h fun z => by subst z; exact c)]; exact e
  · rw [L2.upd_ne (L2.ne_of e h fun z => by subst z; exact c)]; exact e

section
variable {K : PySem.W.Frag} {ρ ρ' : List Addr} {H H' : LHp}
theorem pre_get {i : Nat} {a : Addr} (p : ρ <+: ρ') (h : ρ[i]? = some a) : ρ'[i]? = some a := by
  obtain ⟨t, rfl⟩ := p
  have hi : i < ρ.length := (List.getElem?_eq_some_iff.mp h).1
  rw [List.getElem?_append_left hi]; exact h
mutual
theorem RV.mono (p : ρ <+: ρ') (t : TK H H') : ∀ {d : D} {v : LV}, RV K ρ H d v → RV K ρ' H' d v
  | _, _, .non => .non
  | _, _, .bl b => .bl b
  | _, _, .int i => .int i
  | _, _, .str s h => .str s h
  | _, _, .tup h r => .tup (t.sqT h) (RVs.mono p t r)
  | _, _, .ref h => .ref (pre_get p h)
theorem RVs.mono (p : ρ <+: ρ') (t : TK H H') : ∀ {ds : List D} {vs : List LV}, RVs K ρ H ds vs → RVs K ρ' H' ds vs
  | _, _, .nil => .nil
  | _, _, .cons h r => .cons (RV.mono p t h) (RVs.mono p t r)
end
theorem RVs.length : ∀ {ds : List D} {vs : List LV}, RVs K ρ H ds vs → ds.length = vs.length
  | _, _, .nil => rfl
  | _, _, .cons _ r => congrArg (· + 1) r.length
theorem RVs.get : ∀ {ds : List D} {vs : List LV} {i : Nat} {d : D}, RVs K ρ H ds vs → ds[i]? = some d → ∃ v, vs[i]? = some v ∧ RV K ρ H d v
  | _, _, _, _, .nil, e => by simp at e
  | _, _, 0, _, .cons h _, e => by simp at e; subst e; exact ⟨_, rfl, h⟩
  | _, _, i + 1, d, .cons _ r, e => by
    obtain ⟨v, h1, h2⟩ := RVs.get (i := i) (d := d) r (by simpa using e)
    exact ⟨v, by simpa using h1, h2⟩
theorem RVs.getV : ∀ {ds : List D} {vs : List LV} {i : Nat} {v : LV}, RVs K ρ H ds vs → vs[i]? = some v → ∃ d, ds[i]? = some d ∧ RV K ρ H d v
  | _, _, _, _, .nil, e => by simp at e
  | _, _, 0, _, .cons h _, e => by simp at e; subst e; exact ⟨_, rfl, h⟩
  | _, _, i + 1, v, .cons _ r, e => by
    obtain ⟨d, h1, h2⟩ := RVs.getV (i := i) (v := v) r (by simpa using e)
    exact ⟨d, by simpa using h1, h2⟩
theorem RVs.append : ∀ {ds es : List D} {vs ws : List LV}, RVs K ρ H ds vs → RVs K ρ H es ws → RVs K ρ H (ds ++ es) (vs ++ ws)
  | _, _, _, _, .nil, s => s
  | _, _, _, _, .cons h r, s => .cons h (RVs.append r s)
theorem RVs.take : ∀ {ds : List D} {vs : List LV} (n : Nat), RVs K ρ H ds vs → RVs K ρ H (ds.take n) (vs.take n)
  | _, _, 0, _ => .nil
  | _, _, _ + 1, .nil => .nil
  | _, _, n + 1, .cons h r => .cons h (RVs.take n r)
theorem RVs.drop : ∀ {ds : List D} {vs : List LV} (n : Nat), RVs K ρ H ds vs → RVs K ρ H (ds.drop n) (vs.drop n)
  | _, _, 0, r => r
  | _, _, _ + 1, .nil => .nil
  | _, _, n + 1, .cons _ r => RVs.drop n r
theorem RVs.set {d : D} {v : LV} (h : RV K ρ H d v) : ∀ {ds : List D} {vs : List LV} (n : Nat), RVs K ρ H ds vs → RVs K ρ H (ds.set n d) (vs.set n v)
  | _, _, _, .nil => .nil
  | _, _, 0, .cons _ r => .cons h r
  | _, _, n + 1, .cons q r => .cons q (RVs.set h n r)
theorem RVs.reverse : ∀ {ds : List D} {vs : List LV}, RVs K ρ H ds vs → RVs K ρ H ds.reverse vs.reverse
  | _, _, .nil => .nil
  | _, _, .cons h r => by rw [List.reverse_cons, List.reverse_cons]; exact RVs.append (RVs.reverse r) (.cons h .nil)
theorem RVs.eraseIdx : ∀ {ds : List D} {vs : List LV} (n : Nat), RVs K ρ H ds vs → RVs K ρ H (ds.eraseIdx n) (vs.eraseIdx n)
  | _, _, _, .nil => .nil
  | _, _, 0, .cons _ r => r
  | _, _, n + 1, .cons q r => .cons q (RVs.eraseIdx n r)
theorem RVs.dropLast {ds : List D} {vs : List LV} (r : RVs K ρ H ds vs) : RVs K ρ H ds.dropLast vs.dropLast := by
  rw [List.dropLast_eq_take, List.dropLast_eq_take, ← r.length]
  exact r.take _
theorem RVs.rep {ds : List D} {vs : List LV} (r : RVs K ρ H ds vs) : ∀ n : Nat, RVs K ρ H (List.replicate n ds).flatten (List.replicate n vs).flatten
  | 0 => .nil
  | n + 1 => by rw [List.replicate_succ, List.replicate_succ, List.flatten_cons, List.flatten_cons]; exact r.append (r.rep n)
end
end M

end
section
set_option Elab.async false
set_option linter.all false
set_option autoImplicit false
set_option maxRecDepth 100000
set_option maxHeartbeats 4000000
/-! the heaps' relation, readings of mini's meaning -/
namespace M
open PySem (Addr Obj Value Str)

theorem lim_eq : PySem.sizeLine = LIM := PySem.sizeLine_eq

/-- an int or text key -/
def leafKey : D → Option L2.Key
  | .int i => some (.inl i)
  | .str s => some (.inr ⟨s.toArray⟩)
  | _ => none
mutual
/-- a key at any depth -/
def nkey : D → PySem.NestedKey
  | .non => .none
  | .bl b => .num (if b then 1 else 0)
  | .int i => .num i
  | .str s => .text ⟨s.toArray⟩
  | .tup xs => .tup (nkeys xs)
  | .lst _ => .none
  | .ref _ => .none
def nkeys : List D → List PySem.NestedKey
  | [] => []
  | x :: xs => nkey x :: nkeys xs
end

section
variable (P : PySem.Program) (w : PySem.World) (K : PySem.W.Frag)
/-- the entries of a dict with int and text keys -/
inductive LK (ρ : List Addr) (H : LHp) : List (D × D) → List (L2.Key × LV) → Prop
  | nil : LK ρ H [] []
  | cons {k v : D} {kk : L2.Key} {vv : LV} {r : List (D × D)} {r' : List (L2.Key × LV)} : leafKey k = some kk → RV K ρ H k (L2.kV kk) → RV K ρ H v vv → LK ρ H r r' → LK ρ H ((k, v) :: r) ((kk, vv) :: r')
/-- the entries of a dict with tuple keys -/
inductive TKs (ρ : List Addr) (H : LHp) : List (D × D) → List (PySem.NestedKey × Addr × Value) → Prop
  | nil : TKs ρ H [] []
  | cons {ks : List D} {v : D} {a : Addr} {vv : LV} {u : Value} {r : List (D × D)} {r' : List (PySem.NestedKey × Addr × Value)} :
      keyOK (.tup ks) = true → RV K ρ H (.tup ks) (.ref a) → RV K ρ H v vv → L2.RelV vv u → TKs ρ H r r' → TKs ρ H ((.tup ks, v) :: r) ((nkey (.tup ks), a, u) :: r')
/-- the object of a dict with tuple keys -/
def DObj (ρ : List Addr) (H : LHp) (o : Obj) (kvs : List (D × D)) : Prop :=
  ∃ xs es ep, o.ExactDict ∧ o.data = .dict es ep ∧ es.toList = xs.map (PySem.entryOfKey (PySem.nestedKind P w)) ∧ (xs.map (·.1)).Nodup ∧ TKs K ρ H kvs xs ∧ kvs ≠ [] ∧ kvs.length ≤ LIM
/-- a list of the written part -/
def KLst (a : Addr) (xs : List LV) : Prop := ∃ (o : Obj) (its : Array Value) (n : Nat), K.lookup a = some o ∧ o.cls = .type "list" ∧ o.dict = none ∧ o.data = .seq its n ∧ its.size ≤ PySem.sizeLine ∧ L2.Vals xs its.toList
def CellOk (ρ : List Addr) (H : LHp) (a : Addr) : Cell → Prop
  | .lst ds => ∃ xs, H a = some (.lst xs) ∧ RVs K ρ H ds xs
  | .ro ds => ∃ xs, ((∃ ob, H a = some (.frz ob (.lst xs))) ∨ KLst K a xs) ∧ RVs K ρ H ds xs
  | .dct kvs => (∃ kvs', H a = some (.dK kvs') ∧ LK K ρ H kvs kvs' ∧ kvs.length ≤ LIM) ∨
      (a == PySem.sysModules) = false ∧ ∃ o, H a = some (.ext fun h => h.get? a = some o) ∧ DObj P w K ρ H o kvs
structure HR (ρ : List Addr) (hp : Hm) (H : LHp) : Prop where
  len : ρ.length = hp.length
  ok : ∀ (i : Nat) (a : Addr) (c : Cell), ρ[i]? = some a → hp[i]? = some c → CellOk P w K ρ H a c
  inj : ∀ (i j : Nat) (a : Addr) (c c' : Cell), ρ[i]? = some a → ρ[j]? = some a → hp[i]? = some c → hp[j]? = some c' → (∀ xs, c ≠ .ro xs) → (∀ xs, c' ≠ .ro xs) → i = j
end

section
variable {P : PySem.Program} {w : PySem.World} {K : PySem.W.Frag} {ρ ρ' : List Addr} {H H' : LHp} {hp : Hm}
theorem LK.mono (p : ρ <+: ρ') (t : TK H H') : ∀ {l : List (D × D)} {l' : List (L2.Key × LV)}, LK K ρ H l l' → LK K ρ' H' l l'
  | _, _, .nil => .nil
  | _, _, .cons a b c r => .cons a (b.mono p t) (c.mono p t) (LK.mono p t r)
theorem TKs.mono (p : ρ <+: ρ') (t : TK H H') : ∀ {l : List (D × D)} {l' : List (PySem.NestedKey × Addr × Value)}, TKs K ρ H l l' → TKs K ρ' H' l l'
  | _, _, .nil => .nil
  | _, _, .cons a b c d r => .cons a (b.mono p t) (c.mono p t) d (TKs.mono p t r)
theorem DObj.mono (p : ρ <+: ρ') (t : TK H H') {o : Obj} {kvs : List (D × D)} (h : DObj P w K ρ H o kvs) : DObj P w K ρ' H' o kvs := by
  obtain ⟨xs, es, ep, h1, h2, h3, h4, h5, h6, h7⟩ := h
  exact ⟨xs, es, ep, h1, h2, h3, h4, h5.mono p t, h6, h7⟩
/-- a cell stays, its own place being kept -/
theorem CellOk.mono (p : ρ <+: ρ') (t : TK H H') {a : Addr} {c : Cell} (h : CellOk P w K ρ H a c) (ha : (∀ xs, c ≠ .ro xs) → ∀ o, H a = some o → H' a = some o) : CellOk P w K ρ' H' a c := by
  cases c with
  | lst ds =>
    obtain ⟨xs, e, r⟩ := h
    exact ⟨xs, ha (fun _ z => nomatch z) _ e, r.mono p t⟩
  | ro ds =>
    obtain ⟨xs, e, r⟩ := h
    refine ⟨xs, ?_, r.mono p t⟩
    rcases e with ⟨ob, e⟩ | e
    · exact .inl ⟨ob, t.frz _ _ _ e⟩
    · exact .inr e
  | dct kvs =>
    rcases h with ⟨kvs', e, r, z⟩ | ⟨hs, o, e, r⟩
    · exact .inl ⟨kvs', ha (fun _ z => nomatch z) _ e, r.mono p t, z⟩
    · exact .inr ⟨hs, o, ha (fun _ z => nomatch z) _ e, r.mono p t⟩
theorem CellOk.there {a : Addr} {c : Cell} (h : CellOk P w K ρ H a c) (hc : ∀ xs, c ≠ .ro xs) : ∃ o, H a = some o ∧ Chg o := by
  cases c with
  | lst ds =>
    obtain ⟨xs, e, r⟩ := h
    exact ⟨_, e, trivial⟩
  | ro ds => exact absurd rfl (hc ds)
  | dct kvs =>
    rcases h with ⟨kvs', e, r, z⟩ | ⟨hs, o, e, r⟩
    · exact ⟨_, e, trivial⟩
    · exact ⟨_, e, trivial⟩
theorem HR.cell (h : HR P w K ρ hp H) {i : Nat} {a : Addr} {c : Cell} (hi : ρ[i]? = some a) (hc : hp[i]? = some c) : CellOk P w K ρ H a c := h.ok i a c hi hc
/-- the heap grows, nothing that is tracked here changes -/
theorem HR.grow (h : HR P w K ρ hp H) (t : TK H H') (k : ∀ a o, H a = some o → Chg o → H' a = some o) : HR P w K ρ hp H' :=
  ⟨h.len, fun i a c hi hc => (h.ok i a c hi hc).mono (List.prefix_refl _) t fun nr o e => by
    obtain ⟨o', e', c'⟩ := (h.ok i a c hi hc).there nr
    rw [e] at e'; cases e'
    exact k a o e c', h.inj⟩
theorem HR.new (h : HR P w K ρ hp H) {p : Addr} {o : L2.HO} (hn : H p = none) : HR P w K ρ hp (L2.upd H p o) :=
  h.grow (TK.new hn) fun a u e _ => by rw [L2.upd_ne (L2.ne_of_none e hn)]; exact e
theorem pre_snoc {α : Type} (l : List α) (x : α) : l <+: l ++ [x] := ⟨[x], rfl⟩
/-- a new cell -/
theorem HR.alloc (h : HR P w K ρ hp H) {p : Addr} {o : L2.HO} {c : Cell} (hn : H p = none) (hc : CellOk P w K (ρ ++ [p]) (L2.upd H p o) p c) (nr : ∀ xs, c ≠ .ro xs) : HR P w K (ρ ++ [p]) (hp ++ [c]) (L2.upd H p o) := by
  have hl := h.len
  have get : ∀ {i : Nat} {a : Addr}, (ρ ++ [p])[i]? = some a → (i < ρ.length ∧ ρ[i]? = some a) ∨ (i = ρ.length ∧ a = p) := fun {i a} e => by
    by_cases hi : i < ρ.length
    · rw [List.getElem?_append_left hi] at e; exact .inl ⟨hi, e⟩
    · rw [List.getElem?_append_right (by omega)] at e
      by_cases h0 : i - ρ.length = 0
      · rw [h0] at e; simp at e; exact .inr ⟨by omega, e.symm⟩
      · rw [List.getElem?_eq_none (by simp; omega)] at e; cases e
  have getc : ∀ {i : Nat} {c' : Cell}, i < ρ.length → (hp ++ [c])[i]? = some c' → hp[i]? = some c' := fun {i c'} hi e => by
    rwa [List.getElem?_append_left (by omega)] at e
  have getl : ∀ {c' : Cell}, (hp ++ [c])[ρ.length]? = some c' → c' = c := fun {c'} e => by
    rw [hl, List.getElem?_append_right (Nat.le_refl _)] at e; simp at e; exact e.symm
  refine ⟨by simp [hl], fun i a c' hi hc' => ?_, fun i j a c1 c2 hi hj h1 h2 n1 n2 => ?_⟩
  · rcases get hi with ⟨hlt, ha⟩ | ⟨rfl, rfl⟩
    · have q := h.ok i a c' ha (getc hlt hc')
      refine q.mono (pre_snoc _ _) (TK.new hn) fun nr' o' e => ?_
      rw [L2.upd_ne (L2.ne_of_none e hn)]; exact e
    · rw [getl hc']; exact hc
  · rcases get hi with ⟨hlt, ha⟩ | ⟨rfl, rfl⟩
    · rcases get hj with ⟨hlt', hb⟩ | ⟨rfl, rfl⟩
      · exact h.inj i j a c1 c2 ha hb (getc hlt h1) (getc hlt' h2) n1 n2
      · obtain ⟨o', e', _⟩ := (h.ok i a c1 ha (getc hlt h1)).there n1
        rw [hn] at e'; cases e'
    · rcases get hj with ⟨hlt', hb⟩ | ⟨rfl, _⟩
      · obtain ⟨o', e', _⟩ := (h.ok j a c2 hb (getc hlt' h2)).there n2
        rw [hn] at e'; cases e'
      · rfl
/-- a cell is changed -/
theorem HR.put (h : HR P w K ρ hp H) {i : Nat} {a : Addr} {c c' : Cell} {o u : L2.HO} (hi : ρ[i]? = some a) (hc : hp[i]? = some c) (nr : ∀ xs, c ≠ .ro xs) (hu : H a = some u) (cu : Chg u) (nr' : ∀ xs, c' ≠ .ro xs)
    (hc' : CellOk P w K ρ (L2.upd H a o) a c') : HR P w K ρ (hp.set i c') (L2.upd H a o) := by
  have t : TK H (L2.upd H a o) := TK.put hu cu
  have hlt : i < hp.length := (List.getElem?_eq_some_iff.mp hc).1
  refine ⟨by simp [h.len], fun j b d hj hd => ?_, fun j l b d1 d2 hj hl h1 h2 n1 n2 => ?_⟩
  · by_cases e : i = j
    · subst e
      rw [List.getElem?_set_self hlt] at hd
      cases hd
      rw [hi] at hj; cases hj
      exact hc'
    · rw [List.getElem?_set_ne e] at hd
      refine (h.ok j b d hj hd).mono (List.prefix_refl _) t fun nd o' e' => ?_
      have hb : b ≠ a := fun z => by
        subst z
        exact e (h.inj i j b c d hi hj hc hd nr nd)
      rw [L2.upd_ne hb]; exact e'
  · have old : ∀ {j : Nat} {d : Cell}, (hp.set i c')[j]? = some d → (∀ xs, d ≠ .ro xs) → ∃ d', hp[j]? = some d' ∧ ∀ xs, d' ≠ .ro xs := fun {j d} hd nd => by
      by_cases e : i = j
      · subst e; exact ⟨c, hc, nr⟩
      · rw [List.getElem?_set_ne e] at hd; exact ⟨d, hd, nd⟩
    obtain ⟨e1, q1, m1⟩ := old h1 n1
    obtain ⟨e2, q2, m2⟩ := old h2 n2
    exact h.inj j l b e1 e2 hj hl q1 q2 m1 m2

/-! ### a def's slots -/
def EnvR (K : PySem.W.Frag) (ρ : List Addr) (H : LHp) (env : Env) (σ : L2.St) : Prop :=
  σ.length = env.length ∧ ∀ (i : Nat) (d : D), env[i]? = some (some d) → ∃ v, σ[i]? = some (some v) ∧ RV K ρ H d v
theorem EnvR.mono {env : Env} {σ : L2.St} (p : ρ <+: ρ') (t : TK H H') (h : EnvR K ρ H env σ) : EnvR K ρ' H' env σ :=
  ⟨h.1, fun i d e => let ⟨v, a, b⟩ := h.2 i d e; ⟨v, a, b.mono p t⟩⟩
theorem EnvR.set {env : Env} {σ : L2.St} {i : Nat} {d : D} {v : LV} (h : EnvR K ρ H env σ) (r : RV K ρ H d v) : EnvR K ρ H (env.set i (some d)) (σ.set i (some v)) := by
  refine ⟨by simp [h.1], fun j d' e => ?_⟩
  by_cases hj : i = j
  · subst hj
    by_cases hi : i < env.length
    · rw [List.getElem?_set_self hi] at e
      cases e
      exact ⟨v, by rw [List.getElem?_set_self (by rw [h.1]; exact hi)], r⟩
    · rw [List.getElem?_eq_none (by simp; omega)] at e; cases e
  · rw [List.getElem?_set_ne hj] at e
    obtain ⟨v', a, b⟩ := h.2 j d' e
    exact ⟨v', by rw [List.getElem?_set_ne hj]; exact a, b⟩
theorem EnvR.none {env : Env} {σ : L2.St} {i : Nat} (h : EnvR K ρ H env σ) : EnvR K ρ H (env.set i none) (σ.set i none) := by
  refine ⟨by simp [h.1], fun j d' e => ?_⟩
  by_cases hj : i = j
  · subst hj
    by_cases hi : i < env.length
    · rw [List.getElem?_set_self hi] at e; cases e
    · rw [List.getElem?_eq_none (by simp; omega)] at e; cases e
  · rw [List.getElem?_set_ne hj] at e
    obtain ⟨v', a, b⟩ := h.2 j d' e
    exact ⟨v', by rw [List.getElem?_set_ne hj]; exact a, b⟩
theorem EnvR.wipe {env : Env} {σ : L2.St} (h : EnvR K ρ H env σ) : ∀ vs : List Nat, EnvR K ρ H (wipeE env vs) (L2.wipe σ vs)
  | [] => h
  | _ :: r => (EnvR.wipe h r).none
end

/-! ### readings -/
section
variable (P : PySem.Program) (w : PySem.World) (K : PySem.W.Frag)
/-- what is wanted behind, in the layer's words -/
def PV (ρ : List Addr) (H : LHp) (Q : L2.VK) : VQ := fun d hp' => ∀ (ρ' : List Addr) (H' : LHp) (v : LV), ρ <+: ρ' → TK H H' → HR P w K ρ' hp' H' → RV K ρ' H' d v → Q v H'
/-- an expression's reading by its meaning -/
def rdE (W : Env → Hm → VQ → Prop) : L2.TE := fun σ H Q => ∃ ρ env hp, HR P w K ρ hp H ∧ EnvR K ρ H env σ ∧ W env hp (PV P w K ρ H Q)
/-- a test's -/
def PB (ρ : List Addr) (H : LHp) (Q : Bool → LHp → Prop) : VQ := fun d hp' => ws (truth hp' d) fun k => ∀ (ρ' : List Addr) (H' : LHp), ρ <+: ρ' → TK H H' → HR P w K ρ' hp' H' → Q k H'
def rdT (W : Env → Hm → VQ → Prop) : L2.TT := fun σ H Q => ∃ ρ env hp, HR P w K ρ hp H ∧ EnvR K ρ H env σ ∧ W env hp (PB P w K ρ H Q)
/-- a list of arguments' -/
def PVs (ρ : List Addr) (H : LHp) (Q : List LV → LHp → Prop) : List D → Hm → Prop := fun ds hp' => ∀ (ρ' : List Addr) (H' : LHp) (vs : List LV), ρ <+: ρ' → TK H H' → HR P w K ρ' hp' H' → RVs K ρ' H' ds vs → Q vs H'
def rdA (W : Env → Hm → (List D → Hm → Prop) → Prop) : L2.TA := fun σ H Q => ∃ ρ env hp, HR P w K ρ hp H ∧ EnvR K ρ H env σ ∧ W env hp (PVs P w K ρ H Q)
end
/-- the meaning asks no more of less -/
def Mono (W : Env → Hm → VQ → Prop) : Prop := ∀ env h (Q Q' : VQ), W env h Q → (∀ d h', Q d h' → Q' d h') → W env h Q'

theorem PE.imp {X : L2.Cx} {e : PySem.Expr} {t t' : L2.TE} (h : L2.PE X e t) (k : ∀ σ H Q, t' σ H Q → t σ H Q) : L2.PE X e t' := ⟨fun pins s σ H Q I q => h.run pins s σ H Q I (k σ H Q q)⟩
theorem PT.imp {X : L2.Cx} {e : PySem.Expr} {t t' : L2.TT} (h : L2.PT X e t) (k : ∀ σ H Q, t' σ H Q → t σ H Q) : L2.PT X e t' := ⟨fun pins s σ H Q I q => h.run pins s σ H Q I (k σ H Q q)⟩
theorem PA.imp {X : L2.Cx} {e : List PySem.Expr} {t t' : L2.TA} (h : L2.PA X e t) (k : ∀ σ H Q, t' σ H Q → t σ H Q) : L2.PA X e t' := ⟨fun pos pins s σ H Q I q => h.run pos pins s σ H Q I (k σ H Q q)⟩
theorem PS.imp {X : L2.Cx} {e : PySem.Stmt} {t t' : L2.TS} (h : L2.PS X e t) (k : ∀ D σ H, t' D σ H → t D σ H) : L2.PS X e t' := ⟨fun pins s σ H D I q => h.run pins s σ H D I (k D σ H q)⟩
theorem PSs.imp {X : L2.Cx} {e : List PySem.Stmt} {t t' : L2.TS} (h : L2.PSs X e t) (k : ∀ D σ H, t' D σ H → t D σ H) : L2.PSs X e t' := ⟨fun pins s σ H D I q => h.run pins s σ H D I (k D σ H q)⟩
end M

end
section
set_option Elab.async false
set_option linter.all false
set_option autoImplicit false
set_option maxRecDepth 100000
set_option maxHeartbeats 4000000
/-! expressions: names, constants, operators -/
namespace M
open PySem (Addr Obj Value Str)
section
variable {X : L2.Cx}
abbrev rE (X : L2.Cx) (W : Env → Hm → VQ → Prop) : L2.TE := rdE X.prog X.w X.K W
abbrev rT (X : L2.Cx) (W : Env → Hm → VQ → Prop) : L2.TT := rdT X.prog X.w X.K W
abbrev rA (X : L2.Cx) (W : Env → Hm → (List D → Hm → Prop) → Prop) : L2.TA := rdA X.prog X.w X.K W
abbrev HRX (X : L2.Cx) := HR X.prog X.w X.K
abbrev PVX (X : L2.Cx) := PV X.prog X.w X.K

theorem PV.weak {P : PySem.Program} {w : PySem.World} {K : PySem.W.Frag} {ρ ρ' : List Addr} {H H' : LHp} {Q : L2.VK} (p : ρ <+: ρ') (t : TK H H') {d : D} {h : Hm} (q : PV P w K ρ H Q d h) : PV P w K ρ' H' Q d h :=
  fun ρ2 H2 v p2 t2 hr rv => q ρ2 H2 v (p.trans p2) (t.trans t2) hr rv
/-- where the heap is as it was -/
theorem PV.here {P : PySem.Program} {w : PySem.World} {K : PySem.W.Frag} {ρ : List Addr} {H : LHp} {Q : L2.VK} {d : D} {h : Hm} {v : LV} (q : PV P w K ρ H Q d h) (hr : HR P w K ρ h H) (rv : RV K ρ H d v) : Q v H :=
  q ρ H v (List.prefix_refl _) (TK.refl _) hr rv
/-- a new list -/
theorem PV.newL {P : PySem.Program} {w : PySem.World} {K : PySem.W.Frag} {ρ : List Addr} {H : LHp} {Q : L2.VK} {h : Hm} {ds : List D} {xs : List LV} {p : Addr} (q : PV P w K ρ H Q (.ref h.length) (h ++ [.lst ds])) (hr : HR P w K ρ h H) (r : RVs K ρ H ds xs) (hp : H p = none) :
    Q (.ref p) (L2.upd H p (.lst xs)) := by
  have t : TK H (L2.upd H p (.lst xs)) := TK.new hp
  refine q (ρ ++ [p]) _ _ (pre_snoc _ _) t (hr.alloc hp ⟨xs, L2.upd_same, r.mono (pre_snoc _ _) t⟩ fun _ z => nomatch z) (.ref ?_)
  rw [← hr.len]; simp
/-- a new tuple -/
theorem PV.newT {P : PySem.Program} {w : PySem.World} {K : PySem.W.Frag} {ρ : List Addr} {H : LHp} {Q : L2.VK} {h : Hm} {ds : List D} {xs : List LV} {p : Addr} (q : PV P w K ρ H Q (.tup ds) h) (hr : HR P w K ρ h H) (r : RVs K ρ H ds xs) (hp : H p = none) :
    Q (.ref p) (L2.upd H p (.tup xs)) := by
  have t : TK H (L2.upd H p (.tup xs)) := TK.new hp
  exact q ρ _ _ (List.prefix_refl _) t (hr.new hp) (.tup (L2.SqT.of L2.upd_same) (r.mono (List.prefix_refl _) t))

theorem pe_locM {F : FnS} {E : XP} {i : Nat} {x : Str} {pos : PySem.Pos} (hN : X.N[i]? = some x) (hv : L2.Vis X.env.scope x) (hd : (x == (PySem.Str.ofString "__debug__")) = false) (hcd : (x == (PySem.Str.ofString "__classdict__")) = false) : L2.PE X (.Name x pos) (rE X (wpE F E (.loc i))) :=
  PE.imp (L2.pe_var hN hv hd hcd) fun σ H Q ⟨ρ, env, hp, hr, he, h⟩ => by
    unfold wpE at h
    cases e : env[i]? with
    | none => rw [e] at h; exact h.elim
    | some o =>
      rw [e] at h
      cases o with
      | none => exact h.elim
      | some d =>
        obtain ⟨v, h1, h2⟩ := he.2 i d e
        exact ⟨v, h1, PV.here h hr h2⟩
theorem pe_intM {F : FnS} {E : XP} {i : Int} {j : Nat} {pos : PySem.Pos} : L2.PE X (.Constant (.int i) j pos) (rE X (wpE F E (.lit (.int i)))) :=
  PE.imp L2.pe_int fun σ H Q ⟨ρ, env, hp, hr, he, h⟩ => by unfold wpE at h; exact PV.here h hr (.int i)
theorem pe_blM {F : FnS} {E : XP} {b : Bool} {j : Nat} {pos : PySem.Pos} : L2.PE X (.Constant (.bool b) j pos) (rE X (wpE F E (.lit (.bl b)))) :=
  PE.imp L2.pe_bl fun σ H Q ⟨ρ, env, hp, hr, he, h⟩ => by unfold wpE at h; exact PV.here h hr (.bl b)
theorem pe_nonM {F : FnS} {E : XP} {j : Nat} {pos : PySem.Pos} : L2.PE X (.Constant .none j pos) (rE X (wpE F E (.lit .non))) :=
  PE.imp L2.pe_non fun σ H Q ⟨ρ, env, hp, hr, he, h⟩ => by unfold wpE at h; exact PV.here h hr .non
theorem pe_strM {F : FnS} {E : XP} {s : Str} {j : Nat} {pos : PySem.Pos} (hs : sOK s.cps.toList = true) : L2.PE X (.Constant (.str s) j pos) (rE X (wpE F E (.lit (.str s.cps.toList)))) :=
  PE.imp L2.pe_str fun σ H Q ⟨ρ, env, hp, hr, he, h⟩ => by
    unfold wpE at h
    have r : RV X.K ρ H (.str s.cps.toList) (.str ⟨s.cps.toList.toArray⟩) := .str _ hs
    exact PV.here h hr r
/-- a value of the written part -/
theorem pe_globM {F : FnS} {E : XP} {x : Str} {pos : PySem.Pos} {d : D} {v : LV} {u : Value} (hg : L2.Gl X x) (hm : X.mg x = some u) (r : L2.RelV v u) (hv : ∀ ρ H, RV X.K ρ H d v) (hd : (x == (PySem.Str.ofString "__debug__")) = false) : L2.PE X (.Name x pos) (rE X (wpE F E (.lit d))) :=
  PE.imp (L2.pe_glob hg hm r hd) fun σ H Q ⟨ρ, env, hp, hr, he, h⟩ => by unfold wpE at h; exact PV.here h hr (hv ρ H)

/-! ### lists of arguments -/
theorem pa_nilM {F : FnS} {E : XP} : L2.PA X [] (rA X (wpEs F E [])) :=
  PA.imp L2.pa_nil fun σ H Q ⟨ρ, env, hp, hr, he, h⟩ => by
    unfold wpEs at h
    exact h ρ H [] (List.prefix_refl _) (TK.refl _) hr .nil
theorem rd_cons {F : FnS} (hF : FMono F) {E : XP} {c : CE} {cs : List CE} {σ : L2.St} {H : LHp} {Q : List LV → LHp → Prop} (h : rA X (wpEs F E (c :: cs)) σ H Q) : L2.tCons (rE X (wpE F E c)) (rA X (wpEs F E cs)) σ H Q := by
  obtain ⟨ρ, env, hp, hr, he, h⟩ := h
  unfold wpEs at h
  refine ⟨ρ, env, hp, hr, he, wpE_mono hF c E env hp _ _ h fun d h1 q ρ1 H1 v p1 t1 hr1 rv1 => ?_⟩
  refine ⟨ρ1, env, h1, hr1, he.mono p1 t1, wpEs_mono hF cs E env h1 _ _ q fun ds h2 q ρ2 H2 vs p2 t2 hr2 rv2 => ?_⟩
  exact q ρ2 H2 (v :: vs) (p1.trans p2) (t1.trans t2) hr2 (.cons (rv1.mono p2 t2) rv2)
theorem pa_consM {F : FnS} (hF : FMono F) {E : XP} {e : PySem.Expr} {es : List PySem.Expr} {c : CE} {cs : List CE} (ha : L2.PE X e (rE X (wpE F E c))) (hr : L2.PA X es (rA X (wpEs F E cs))) (hs : PySem.starEach (e :: es) X.env = (false, PySem.eval e X.env) :: PySem.starEach es X.env) :
    L2.PA X (e :: es) (rA X (wpEs F E (c :: cs))) := PA.imp (L2.pa_cons ha hr hs) fun _ _ _ h => rd_cons hF h

/-! ### operators by values -/
/-- what a partial function of two values and the heap asks in the layer's words -/
def liftR (X : L2.Cx) (S : D → D → Hm → Option (D × Hm)) : L2.R2 := fun v u H Q => ∃ ρ hp x y r, HRX X ρ hp H ∧ RV X.K ρ H x v ∧ RV X.K ρ H y u ∧ S x y hp = some r ∧ PVX X ρ H Q r.1 r.2
theorem rd_bin {F : FnS} (hF : FMono F) {E : XP} {a b : CE} {S : D → D → Hm → Option (D × Hm)} {σ : L2.St} {H : LHp} {Q : L2.VK}
    (h : rE X (fun env h Q => wpE F E a env h fun x h1 => wpE F E b env h1 fun y h2 => ws (S x y h2) fun r => Q r.1 r.2) σ H Q) : L2.tOp (liftR X S) (rE X (wpE F E a)) (rE X (wpE F E b)) σ H Q := by
  obtain ⟨ρ, env, hp, hr, he, h⟩ := h
  refine ⟨ρ, env, hp, hr, he, wpE_mono hF a E env hp _ _ h fun x h1 q ρ1 H1 v p1 t1 hr1 rv1 => ?_⟩
  refine ⟨ρ1, env, h1, hr1, he.mono p1 t1, wpE_mono hF b E env h1 _ _ q fun y h2 q ρ2 H2 u p2 t2 hr2 rv2 => ?_⟩
  obtain ⟨r, e, q⟩ := ws_iff.mp q
  exact ⟨ρ2, h2, x, y, r, hr2, rv1.mono p2 t2, rv2, e, PV.weak (p1.trans p2) (t1.trans t2) q⟩

theorem OpR.imp {f : Value → Value → PySem.Sem Value} {r r' : L2.R2} (h : L2.OpR X f r) (k : ∀ x y H Q, r' x y H Q → r x y H Q) : L2.OpR X f r' := fun pins s σ H x y v u Q I rx ry q => h pins s σ H x y v u Q I rx ry (k _ _ _ _ q)
/-- a list that is read -/
theorem HR.getL {P : PySem.Program} {w : PySem.World} {K : PySem.W.Frag} {ρ : List Addr} {H : LHp} {hp : Hm} (hr : HR P w K ρ hp H) {i : Nat} {ds : List D} (h : getL hp i = some ds) : ∃ a xs, ρ[i]? = some a ∧ L2.SqL K H a xs ∧ RVs K ρ H ds xs := by
  have hl := hr.len
  unfold M.getL at h
  have hi : i < hp.length := by
    by_cases c : i < hp.length
    · exact c
    · rw [List.getElem?_eq_none (by omega)] at h; cases h
  have ha : ρ[i]? = some ρ[i] := List.getElem?_eq_getElem (by omega)
  cases e : hp[i]? with
  | none => rw [e] at h; cases h
  | some c =>
    rw [e] at h
    have q := hr.ok i _ c ha e
    cases c with
    | lst xs =>
      cases h
      obtain ⟨ys, e1, r⟩ := q
      exact ⟨_, ys, ha, .inl (.inl e1), r⟩
    | ro xs =>
      cases h
      obtain ⟨ys, e1, r⟩ := q
      refine ⟨_, ys, ha, ?_, r⟩
      rcases e1 with ⟨ob, e1⟩ | e1
      · exact .inl (.inr ⟨ob, e1⟩)
      · exact .inr e1
    | dct kvs => cases h
theorem RV.ref_inv {K : PySem.W.Frag} {ρ : List Addr} {H : LHp} {i : Nat} {v : LV} (h : RV K ρ H (.ref i) v) : ∃ a, v = .ref a ∧ ρ[i]? = some a := by
  cases h with
  | ref e => exact ⟨_, rfl, e⟩
theorem RV.tup_inv {K : PySem.W.Frag} {ρ : List Addr} {H : LHp} {ds : List D} {v : LV} (h : RV K ρ H (.tup ds) v) : ∃ a xs, v = .ref a ∧ L2.SqT K H a xs ∧ RVs K ρ H ds xs := by
  cases h with
  | tup e r => exact ⟨_, _, rfl, e, r⟩
theorem RV.int_inv {K : PySem.W.Frag} {ρ : List Addr} {H : LHp} {i : Int} {v : LV} (h : RV K ρ H (.int i) v) : v = .int i := by
  cases h; rfl
theorem RV.str_inv {K : PySem.W.Frag} {ρ : List Addr} {H : LHp} {s : List Nat} {v : LV} (h : RV K ρ H (.str s) v) : v = .str ⟨s.toArray⟩ ∧ sOK s = true := by
  cases h with
  | str _ h => exact ⟨rfl, h⟩

theorem sOK_app {a b : List Nat} (h : sOK a = true) (k : sOK b = true) (hl : a.length + b.length ≤ LIM) : sOK (a ++ b) = true := by
  unfold sOK at *
  simp only [Bool.and_eq_true, decide_eq_true_eq, List.all_append, List.length_append] at *
  exact ⟨hl, h.2, k.2⟩
theorem str_app (a b : List Nat) : (({ cps := a.toArray } : Str) ++ ({ cps := b.toArray } : Str)) = { cps := (a ++ b).toArray } := by
  show ({ cps := a.toArray ++ b.toArray } : Str) = _
  rw [List.append_toArray]
/-- a list that may be written -/
theorem HR.getM {P : PySem.Program} {w : PySem.World} {K : PySem.W.Frag} {ρ : List Addr} {H : LHp} {hp : Hm} (hr : HR P w K ρ hp H) {i : Nat} {ds : List D} (h : getM hp i = some ds) : ∃ a xs, ρ[i]? = some a ∧ hp[i]? = some (.lst ds) ∧ H a = some (.lst xs) ∧ RVs K ρ H ds xs := by
  have hl := hr.len
  unfold M.getM at h
  have hi : i < hp.length := by
    by_cases c : i < hp.length
    · exact c
    · rw [List.getElem?_eq_none (by omega)] at h; cases h
  have ha : ρ[i]? = some ρ[i] := List.getElem?_eq_getElem (by omega)
  cases e : hp[i]? with
  | none => rw [e] at h; cases h
  | some c =>
    rw [e] at h
    have q := hr.ok i _ c ha e
    cases c with
    | lst xs =>
      cases h
      obtain ⟨ys, e1, r⟩ := q
      exact ⟨_, ys, ha, rfl, e1, r⟩
    | ro xs => cases h
    | dct kvs => cases h
theorem getM_getL {hp : Hm} {i : Nat} {ds : List D} (h : getM hp i = some ds) : getL hp i = some ds := by
  unfold getM at h; unfold getL
  cases e : hp[i]? with
  | none => rw [e] at h; cases h
  | some c => rw [e] at h; cases c <;> first | exact h | cases h
theorem ref_eq {ρ : List Addr} {i : Nat} {a b : Addr} (h : ρ[i]? = some a) (h' : ρ[i]? = some b) : a = b := by rw [h] at h'; exact Option.some.inj h'
theorem newC_inv {h : Hm} {c : Cell} {r : D × Hm} (e : newC h c = some r) : r = (.ref h.length, h ++ [c]) := (Option.some.inj e).symm
theorem op_addM : L2.OpR X (PySem.binaryOp .Add) (liftR X (binS .add)) := by
  refine OpR.imp (L2.op_add.or (L2.op_add_str.or (L2.op_catA.or L2.op_cat))) fun v u H Q h => ?_
  obtain ⟨ρ, hp, x, y, r, hr, rx, ry, e, q⟩ := h
  cases x <;> cases y <;> simp only [binS] at e <;> first | (cases e; done) | skip
  · obtain rfl := rx.int_inv; obtain rfl := ry.int_inv
    cases e
    exact .inl ⟨_, _, rfl, rfl, PV.here q hr (.int _)⟩
  · obtain ⟨rfl, z1⟩ := rx.str_inv; obtain ⟨rfl, z2⟩ := ry.str_inv
    split at e
    · rename_i hl
      cases e
      refine .inr (.inl ⟨_, _, rfl, rfl, ?_, ?_⟩)
      · rw [lim_eq]; simpa [PySem.Str.length] using hl
      · rw [str_app]
        exact PV.here q hr (.str _ (sOK_app z1 z2 hl))
    · cases e
  · obtain ⟨a, xs, rfl, sa, ra⟩ := rx.tup_inv; obtain ⟨b, ys, rfl, sb, rb⟩ := ry.tup_inv
    split at e
    · rename_i hl
      cases e
      refine .inr (.inr (.inl ⟨a, b, xs, ys, rfl, rfl, sa, sb, ?_, ?_, ?_, ?_⟩))
      · rw [lim_eq, ← ra.length, ← rb.length]; exact hl
      · rintro rfl
        cases ra
        exact PV.here q hr (.tup sb (by simpa using rb))
      · rintro _ rfl
        cases rb
        exact PV.here q hr (.tup sa (by simpa using ra))
      · intro _ _ p hp'
        exact PV.newT q hr (ra.append rb) hp'
    · cases e
  · obtain ⟨a, rfl, ea⟩ := rx.ref_inv; obtain ⟨b, rfl, eb⟩ := ry.ref_inv
    split at e
    · rename_i s t e1 e2
      split at e
      · rename_i hl
        obtain rfl := newC_inv e
        obtain ⟨a', xs, ha, _, sa, ra⟩ := hr.getM e1
        obtain ⟨b', ys, hb, _, sb, rb⟩ := hr.getM e2
        obtain rfl := ref_eq ea ha
        obtain rfl := ref_eq eb hb
        exact .inr (.inr (.inr ⟨a, b, xs, ys, rfl, rfl, sa, sb, by rw [lim_eq, ← ra.length, ← rb.length]; exact hl, fun p hp' => PV.newL q hr (ra.append rb) hp'⟩))
      · cases e
    · cases e
theorem op_subM : L2.OpR X (PySem.binaryOp .Sub) (liftR X (binS .sub)) := by
  refine OpR.imp L2.op_sub fun v u H Q h => ?_
  obtain ⟨ρ, hp, x, y, r, hr, rx, ry, e, q⟩ := h
  cases x <;> cases y <;> simp only [binS] at e <;> first | (cases e; done) | skip
  obtain rfl := rx.int_inv; obtain rfl := ry.int_inv
  cases e
  exact ⟨_, _, rfl, rfl, PV.here q hr (.int _)⟩
theorem op_mulM : L2.OpR X (PySem.binaryOp .Mult) (liftR X (binS .mul)) := by
  refine OpR.imp (L2.op_mul.or (L2.op_repT.or L2.op_rep)) fun v u H Q h => ?_
  obtain ⟨ρ, hp, x, y, r, hr, rx, ry, e, q⟩ := h
  cases x <;> cases y <;> simp only [binS] at e <;> first | (cases e; done) | skip
  · obtain rfl := rx.int_inv; obtain rfl := ry.int_inv
    split at e
    · rename_i c
      cases e
      refine .inl ⟨_, _, rfl, rfl, ?_, PV.here q hr (.int _)⟩
      unfold LINT at c
      rcases c with c | c
      · exact .inl ⟨by omega, by omega⟩
      · exact .inr ⟨by omega, by omega⟩
    · cases e
  · obtain ⟨a, xs, rfl, sa, ra⟩ := rx.tup_inv; obtain rfl := ry.int_inv
    split at e
    · rename_i c
      cases e
      have hl := ra.length
      refine .inr (.inl ⟨a, _, xs, rfl, rfl, sa, ?_, c.2.1, c.2.2.1, by omega, fun p hp' => PV.newT q hr (ra.rep _) hp'⟩)
      rintro rfl
      exact c.1 hl
    · cases e
  · obtain ⟨a, rfl, ea⟩ := rx.ref_inv; obtain rfl := ry.int_inv
    split at e
    · rename_i s e1
      split at e
      · rename_i c
        obtain rfl := newC_inv e
        obtain ⟨a', xs, ha, _, sa, ra⟩ := hr.getM e1
        obtain rfl := ref_eq ea ha
        have hl := ra.length
        refine .inr (.inr ⟨a, _, xs, rfl, rfl, sa, by omega, by omega, ?_, fun p hp' => PV.newL q hr (ra.rep _) hp'⟩)
        rw [lim_eq]
        have := Nat.mul_le_mul (show xs.length ≤ 10000 by omega) (show _ ≤ 1000 from Int.toNat_le.mpr c.2.1)
        unfold LIM
        omega
      · cases e
    · cases e
theorem op_fdivM : L2.OpR X (PySem.binaryOp .FloorDiv) (liftR X (binS .fdiv)) := by
  refine OpR.imp L2.op_fdivN fun v u H Q h => ?_
  obtain ⟨ρ, hp, x, y, r, hr, rx, ry, e, q⟩ := h
  cases x <;> cases y <;> simp only [binS] at e <;> first | (cases e; done) | skip
  obtain rfl := rx.int_inv; obtain rfl := ry.int_inv
  split at e
  · rename_i c
    cases e
    exact ⟨_, _, rfl, rfl, c, PV.here q hr (.int _)⟩
  · cases e
theorem op_modM : L2.OpR X (PySem.binaryOp .Mod) (liftR X (binS .mod)) := by
  refine OpR.imp L2.op_modN fun v u H Q h => ?_
  obtain ⟨ρ, hp, x, y, r, hr, rx, ry, e, q⟩ := h
  cases x <;> cases y <;> simp only [binS] at e <;> first | (cases e; done) | skip
  obtain rfl := rx.int_inv; obtain rfl := ry.int_inv
  split at e
  · rename_i c
    cases e
    exact ⟨_, _, rfl, rfl, c, PV.here q hr (.int _)⟩
  · cases e
theorem op_powM : L2.OpR X (PySem.binaryOp .Pow) (liftR X (binS .pow)) := by
  refine OpR.imp L2.op_pow fun v u H Q h => ?_
  obtain ⟨ρ, hp, x, y, r, hr, rx, ry, e, q⟩ := h
  cases x <;> cases y <;> simp only [binS] at e <;> first | (cases e; done) | skip
  obtain rfl := rx.int_inv; obtain rfl := ry.int_inv
  split at e
  · rename_i c
    cases e
    exact ⟨_, _, rfl, rfl, c, PV.here q hr (.int _)⟩
  · cases e
end
end M

end
section
set_option Elab.async false
set_option linter.all false
set_option autoImplicit false
set_option maxRecDepth 100000
set_option maxHeartbeats 4000000
/-! comparisons, truth, what is equal -/
namespace M
open PySem (Addr Obj Value Str PyData)
mutual
def pd : D → PyData
  | .non => .none
  | .bl b => .bool b
  | .int i => .int i
  | .str s => .str ⟨s.toArray⟩
  | .tup xs => .tuple (pds xs)
  | .lst xs => .list (pds xs)
  | .ref _ => .dict []
def pds : List D → List PyData
  | [] => []
  | x :: xs => pd x :: pds xs
end
theorem str_mk_eq (a b : List Nat) : (({ cps := a.toArray } : Str) == { cps := b.toArray }) = decide (a = b) := by
  by_cases h : a = b
  · subst h; simp
  · rw [decide_eq_false h]
    refine beq_eq_false_iff_ne.mpr fun e => h ?_
    have := congrArg (fun z : Str => z.cps.toList) e
    simpa using this
mutual
theorem eqD_pd : ∀ x y : D, eqD x y = PyData.eqv (pd x) (pd y)
  | .non, y => by cases y <;> simp [eqD, pd, PyData.eqv]
  | .bl b, y => by cases y <;> simp [eqD, pd, PyData.eqv]
  | .int i, y => by
    cases y <;> simp [eqD, pd, PyData.eqv]
    rfl
  | .str s, y => by
    cases y <;> simp [eqD, pd, PyData.eqv]
    exact (str_mk_eq _ _).symm
  | .tup xs, y => by
    cases y <;> simp only [eqD, pd, PyData.eqv]
    exact eqDs_pds xs _
  | .lst xs, y => by
    cases y <;> simp only [eqD, pd, PyData.eqv]
    exact eqDs_pds xs _
  | .ref a, y => by cases y <;> simp [eqD, pd, PyData.eqv]
theorem eqDs_pds : ∀ xs ys : List D, eqDs xs ys = PyData.eqvAll (pds xs) (pds ys)
  | [], ys => by cases ys <;> simp [eqDs, pds, PyData.eqvAll]
  | x :: xs, ys => by
    cases ys with
    | nil => simp [eqDs, pds, PyData.eqvAll]
    | cons y ys => simp only [eqDs, pds, PyData.eqvAll, eqD_pd x y, eqDs_pds xs ys]
end
/-- what a snapshot is in the layer's words -/
structure SnapOk (K : PySem.W.Frag) (H : LHp) (v : LV) (s : D) : Prop where
  dp : L2.Dp K H v (pd s)
  lay : (pd s).canLay0 = true
  dep : dep s = (pd s).depth
structure SnapsOk (K : PySem.W.Frag) (H : LHp) (vs : List LV) (ss : List D) : Prop where
  dp : L2.DpAll K H vs (pds ss)
  lay : PyData.canLayAll0 (pds ss) = true
  dep : deps ss = PyData.depthAll (pds ss)
section
variable {K : PySem.W.Frag} {ρ : List Addr} {H : LHp} {f : Nat → Option (List D)}
theorem strOk_of {s : List Nat} (h : sOK s = true) : PyData.strOk ⟨s.toArray⟩ = true := by
  unfold sOK at h
  rw [Bool.and_eq_true] at h
  show Array.all s.toArray (fun c => decide (c < 0x110000)) = true
  rw [← Array.all_toList]
  exact h.2
mutual
theorem snapD_ok (hf : ∀ a ss, f a = some ss → ∀ addr, ρ[a]? = some addr → ∃ xs, L2.SqL K H addr xs ∧ SnapsOk K H xs ss) : ∀ (d s : D) (v : LV), RV K ρ H d v → snapD f d = some s → SnapOk K H v s
  | .non, s, v, r, e => by
    cases r; simp only [snapD, Option.some.injEq] at e; subst e
    exact ⟨.non, rfl, rfl⟩
  | .bl b, s, v, r, e => by
    cases r; simp only [snapD, Option.some.injEq] at e; subst e
    exact ⟨.bl b, rfl, rfl⟩
  | .int i, s, v, r, e => by
    cases r; simp only [snapD, Option.some.injEq] at e; subst e
    exact ⟨.int i, rfl, rfl⟩
  | .str x, s, v, r, e => by
    obtain ⟨rfl, h⟩ := r.str_inv; simp only [snapD, Option.some.injEq] at e; subst e
    exact ⟨.str _, strOk_of h, rfl⟩
  | .tup xs, s, v, r, e => by
    obtain ⟨a, ys, rfl, h1, h2⟩ := r.tup_inv
    simp only [snapD, Option.map_eq_some_iff] at e
    obtain ⟨ss, e1, rfl⟩ := e
    have q := snapDs_ok hf xs ss ys h2 e1
    exact ⟨.tup h1 q.dp, by simpa only [pd, PyData.canLay0] using q.lay, by simp only [pd, M.dep, PyData.depth, q.dep]⟩
  | .ref a, s, v, r, e => by
    obtain ⟨addr, rfl, h1⟩ := r.ref_inv
    simp only [snapD, Option.map_eq_some_iff] at e
    obtain ⟨ss, e1, rfl⟩ := e
    obtain ⟨xs, h2, q⟩ := hf a ss e1 addr h1
    exact ⟨.lst h2 q.dp, by simpa only [pd, PyData.canLay0] using q.lay, by simp only [pd, M.dep, PyData.depth, q.dep]⟩
  | .lst xs, s, v, r, e => by cases r
theorem snapDs_ok (hf : ∀ a ss, f a = some ss → ∀ addr, ρ[a]? = some addr → ∃ xs, L2.SqL K H addr xs ∧ SnapsOk K H xs ss) : ∀ (ds ss : List D) (vs : List LV), RVs K ρ H ds vs → snapDs f ds = some ss → SnapsOk K H vs ss
  | [], ss, vs, r, e => by
    cases r; simp only [snapDs, Option.some.injEq] at e; subst e
    exact ⟨.nil, rfl, rfl⟩
  | d :: ds, ss, vs, r, e => by
    cases r with
    | cons r1 r2 =>
      simp only [snapDs] at e
      split at e
      · rename_i y ys e1 e2
        cases e
        have q1 := snapD_ok hf d y _ r1 e1
        have q2 := snapDs_ok hf ds ys _ r2 e2
        exact ⟨.cons q1.dp q2.dp, by simp only [pds, PyData.canLayAll0, q1.lay, q2.lay, Bool.and_self], by simp only [pds, deps, PyData.depthAll, q1.dep, q2.dep]⟩
      · cases e
end
theorem snapN_ok {P : PySem.Program} {w : PySem.World} {hp : Hm} (hr : HR P w K ρ hp H) : ∀ (n a : Nat) (ss : List D), snapN hp n a = some ss → ∀ addr, ρ[a]? = some addr → ∃ xs, L2.SqL K H addr xs ∧ SnapsOk K H xs ss
  | 0, _, _, e, _, _ => by simp [snapN] at e
  | n + 1, a, ss, e, addr, ha => by
    simp only [snapN] at e
    split at e
    · rename_i xs e1
      obtain ⟨b, ys, hb, h1, h2⟩ := hr.getL e1
      obtain rfl := ref_eq ha hb
      exact ⟨ys, h1, snapDs_ok (snapN_ok hr n) xs ss ys h2 e⟩
    · cases e
theorem snap_ok {P : PySem.Program} {w : PySem.World} {hp : Hm} (hr : HR P w K ρ hp H) {d s : D} {v : LV} (r : RV K ρ H d v) (e : snap hp d = some s) : SnapOk K H v s := snapD_ok (snapN_ok hr 6) d s v r e
end

section
variable {X : L2.Cx}
/-- a comparison by values -/
def liftC (X : L2.Cx) (S : D → D → Hm → Option Bool) : L2.R2 := liftR X fun x y h => (S x y h).map fun k => (.bl k, h)
theorem op_eqM (hu : X.A.units + 64 < PySem.cLine) : L2.OpR X (PySem.compareOp .Eq) (liftC X fun x y h => cmpS .eq x y h) := by
  intro pins s σ H v u v' u' Q I rv ru h
  obtain ⟨ρ, hp, x, y, r, hr, rx, ry, e, q⟩ := h
  obtain ⟨k, e, rfl⟩ := Option.map_eq_some_iff.mp e
  simp only [cmpS, eqv] at e
  split at e
  · rename_i a b ea eb
    split at e
    · rename_i hd
      cases e
      have qa := snap_ok hr rx ea
      have qb := snap_ok hr ry eb
      obtain ⟨as, r1⟩ := L2.Dp.reads I _ _ _ qa.dp rv
      obtain ⟨bs, r2⟩ := L2.Dp.reads I _ _ _ qb.dp ru
      refine PySem.SeqAt.compareEq_reads r1 r2 qa.lay qb.lay ?_ ⟨.bl _, H, I, rfl, ?_⟩
      · rw [← qa.dep, ← qb.dep]; omega
      · rw [← eqD_pd]; exact PV.here q hr (.bl _)
    · cases e
  · cases e
theorem op_neM (hu : X.A.units + 64 < PySem.cLine) : L2.OpR X (PySem.compareOp .NotEq) (liftC X fun x y h => cmpS .ne x y h) := by
  intro pins s σ H v u v' u' Q I rv ru h
  obtain ⟨ρ, hp, x, y, r, hr, rx, ry, e, q⟩ := h
  obtain ⟨k, e', rfl⟩ := Option.map_eq_some_iff.mp e
  have e3 : (eqv hp x y).map not = some k := e'
  obtain ⟨k', e2, hk⟩ := Option.map_eq_some_iff.mp e3
  clear e e' e3
  subst hk
  simp only [eqv] at e2
  split at e2
  · rename_i a b ea eb
    split at e2
    · rename_i hd
      obtain rfl := Option.some.inj e2
      have qa := snap_ok hr rx ea
      have qb := snap_ok hr ry eb
      obtain ⟨as, r1⟩ := L2.Dp.reads I _ _ _ qa.dp rv
      obtain ⟨bs, r2⟩ := L2.Dp.reads I _ _ _ qb.dp ru
      refine PySem.SeqAt.compareNe_reads r1 r2 qa.lay qb.lay ?_ ⟨.bl _, H, I, rfl, ?_⟩
      · rw [← qa.dep, ← qb.dep]; omega
      · rw [← eqD_pd]; exact PV.here q hr (.bl _)
    · cases e2
  · cases e2
theorem any_pds (a : D) : ∀ bs : List D, ((pds bs).any fun b => b.eqv (pd a)) = bs.any fun b => eqD b a
  | [] => rfl
  | b :: bs => by simp only [pds, List.any_cons, any_pds a bs, eqD_pd]
/-- x in a list or a tuple -/
theorem in_run (hu : X.A.units + 65 < PySem.cLine) {pins : List (Addr × Obj)} {s : PySem.Shared} {σ : L2.St} {H : LHp} {E : Value → PySem.Shared → Prop} (I : L2.Inv X pins σ H s) {ρ : List Addr} {hp : Hm} (hr : HRX X ρ hp H) {x : D} {ys : List D} {v : LV} {xs : List LV} {a : Addr} {v' : Value}
    (rx : RV X.K ρ H x v) (ry : RVs X.K ρ H ys xs) (rv : L2.RelV v v') (ha : L2.SqL X.K H a xs ∨ L2.SqT X.K H a xs) {k : Bool} (e : anyEq hp x ys = some k) {Q : Value → PySem.Shared → Prop} :
    (Q (.bool k) s → PySem.wpAny (PySem.model X.prog X.w) X.A (PySem.compareOp .In v' (.ref a)) Q E s) ∧ (Q (.bool !k) s → PySem.wpAny (PySem.model X.prog X.w) X.A (PySem.compareOp .NotIn v' (.ref a)) Q E s) := by
  simp only [anyEq] at e
  split at e
  · rename_i d ds e1 e2
    split at e
    · rename_i hd
      cases e
      have qa := snap_ok hr rx e1
      have qb := snapDs_ok (snapN_ok hr 6) ys ds xs ry e2
      obtain ⟨as, r1⟩ := L2.Dp.reads I _ _ _ qa.dp rv
      have room : X.A.units + 1 + min (PyData.depthAll (pds ds)) (pd d).depth < PySem.cLine := by rw [← qa.dep, ← qb.dep]; omega
      rcases ha with ha | ha
      · obtain ⟨bs, r2⟩ := L2.Dp.reads I (.list (pds ds)) (.ref a) (.ref a) (.lst ha qb.dp) rfl
        exact ⟨fun q => PySem.SeqAt.in_list_reads r2 r1 qb.lay qa.lay room (by rw [any_pds]; exact q), fun q => PySem.SeqAt.notIn_list_reads r2 r1 qb.lay qa.lay room (by rw [any_pds]; exact q)⟩
      · obtain ⟨bs, r2⟩ := L2.Dp.reads I (.tuple (pds ds)) (.ref a) (.ref a) (.tup ha qb.dp) rfl
        exact ⟨fun q => PySem.SeqAt.in_tuple_reads r2 r1 qb.lay qa.lay room (by rw [any_pds]; exact q), fun q => PySem.SeqAt.notIn_tuple_reads r2 r1 qb.lay qa.lay room (by rw [any_pds]; exact q)⟩
    · cases e
  · cases e
end
end M

end
section
set_option Elab.async false
set_option linter.all false
set_option autoImplicit false
set_option maxRecDepth 100000
set_option maxHeartbeats 4000000
/-! dicts -/
namespace M
open PySem (Addr Obj Value Str PyData Heap NestedKey NestedIs NestedAll)
section
variable {X : L2.Cx} {pins : List (Addr × Obj)} {s : PySem.Shared} {σ : L2.St} {H : LHp} {ρ : List Addr}
mutual
/-- pure data is a key of the heap -/
theorem nested_of (I : L2.Inv X pins σ H s) : ∀ (d : D) (v : LV) (u : Value), pureD d = true → RV X.K ρ H d v → L2.RelV v u → NestedIs s.heap (nkey d) u
  | .non, _, _, _, r, ru => by cases r; cases ru; exact .none
  | .bl b, _, _, _, r, ru => by cases r; cases ru; exact .bool rfl
  | .int i, _, _, _, r, ru => by cases r; obtain ⟨t, rfl⟩ := ru; exact .int i t
  | .str x, _, _, _, r, ru => by obtain ⟨rfl, _⟩ := r.str_inv; obtain ⟨t, rfl⟩ := ru; exact .text _ t
  | .tup xs, _, _, hp, r, ru => by
    obtain ⟨a, ys, rfl, h1, h2⟩ := r.tup_inv
    cases ru
    obtain ⟨its, rv, ⟨o, ho, hc, n, hd⟩, _⟩ := I.tuple h1
    exact .tup ho hc hd (by simpa using nested_all I xs ys its (by simpa only [pureD] using hp) h2 rv)
  | .lst _, _, _, hp, _, _ => by simp [pureD] at hp
  | .ref _, _, _, hp, _, _ => by simp [pureD] at hp
theorem nested_all (I : L2.Inv X pins σ H s) : ∀ (ds : List D) (vs : List LV) (us : List Value), pureDs ds = true → RVs X.K ρ H ds vs → L2.Vals vs us → NestedAll s.heap (nkeys ds) us
  | [], _, _, _, r, ru => by cases r; cases ru; exact .nil
  | d :: ds, _, _, hp, r, ru => by
    cases r with
    | cons r1 r2 =>
      cases ru with
      | cons u1 u2 =>
        simp only [pureDs, Bool.and_eq_true] at hp
        exact .cons (nested_of I d _ _ hp.1 r1 u1) (nested_all I ds _ _ hp.2 r2 u2)
end
mutual
theorem nkey_depth : ∀ d : D, pureD d = true → (nkey d).depth = dep d
  | .non, _ => rfl
  | .bl _, _ => rfl
  | .int _, _ => rfl
  | .str _, _ => rfl
  | .tup xs, h => by simp only [nkey, NestedKey.depth, dep, nkeys_depth xs (by simpa only [pureD] using h)]
  | .lst _, h => by simp [pureD] at h
  | .ref _, h => by simp [pureD] at h
theorem nkeys_depth : ∀ ds : List D, pureDs ds = true → NestedKey.depthAll (nkeys ds) = deps ds
  | [], _ => rfl
  | d :: ds, h => by
    simp only [pureDs, Bool.and_eq_true] at h
    simp only [nkeys, NestedKey.depthAll, deps, nkey_depth d h.1, nkeys_depth ds h.2]
end
mutual
theorem nkey_eq : ∀ d e : D, pureD d = true → pureD e = true → NestedKey.beq (nkey d) (nkey e) = eqD d e
  | .non, e, _, he => by cases e <;> simp_all [nkey, NestedKey.beq, eqD, pureD]
  | .bl b, e, _, he => by
    cases e with
    | bl c => cases b <;> cases c <;> simp [nkey, NestedKey.beq, eqD]
    | int j => simp only [nkey, NestedKey.beq, eqD]; rfl
    | _ => simp_all [nkey, NestedKey.beq, eqD, pureD]
  | .int i, e, _, he => by
    cases e with
    | bl c => simp only [nkey, NestedKey.beq, eqD]; rfl
    | _ => simp_all [nkey, NestedKey.beq, eqD, pureD]
  | .str x, e, _, he => by cases e <;> simp_all [nkey, NestedKey.beq, eqD, pureD]
  | .tup xs, e, hd, he => by
    cases e <;> simp only [nkey, NestedKey.beq, eqD, pureD] at * <;> first | exact nkeys_eq xs _ hd he | simp_all
  | .lst _, _, h, _ => by simp [pureD] at h
  | .ref _, _, h, _ => by simp [pureD] at h
theorem nkeys_eq : ∀ ds es : List D, pureDs ds = true → pureDs es = true → NestedKey.beqAll (nkeys ds) (nkeys es) = eqDs ds es
  | [], es, _, _ => by cases es <;> simp [nkeys, NestedKey.beqAll, eqDs]
  | d :: ds, es, hd, he => by
    cases es with
    | nil => simp [nkeys, NestedKey.beqAll, eqDs]
    | cons e es =>
      simp only [pureDs, Bool.and_eq_true] at hd he
      simp only [nkeys, NestedKey.beqAll, eqDs, nkey_eq d e hd.1 he.1, nkeys_eq ds es hd.2 he.2]
end
theorem keyOK_pure {d : D} (h : keyOK d = true) : pureD d = true ∧ dep d ≤ 8 := by
  cases d <;> simp_all [keyOK, pureD, dep]
theorem nkey_dec {d e : D} (hd : pureD d = true) (he : pureD e = true) : decide (nkey d = nkey e) = eqD d e := by
  rw [NestedKey.decide_eq, nkey_eq d e hd he]
end

section
variable {K : PySem.W.Frag} {ρ : List Addr} {H : LHp}
theorem leaf_eq {a k : D} {ka kk : L2.Key} (h : leafKey a = some ka) (h' : leafKey k = some kk) : eqD a k = decide (ka = kk) := by
  cases a <;> simp only [leafKey] at h <;> first | (cases h; done) | skip
  all_goals (cases k <;> simp only [leafKey] at h' <;> first | (cases h'; done) | skip)
  all_goals (cases h; cases h')
  · rw [L2.key_ll]; rfl
  · rw [L2.key_lr]; rfl
  · rw [L2.key_rl]; rfl
  · rw [L2.key_rr]
    simp only [eqD]
    rename_i x y
    have := str_mk_eq x y
    rw [← this]
    by_cases e : ({ cps := x.toArray } : Str) = { cps := y.toArray }
    · rw [decide_eq_true e, e]; simp
    · rw [decide_eq_false e]; exact beq_eq_false_iff_ne.mpr e
theorem leaf_noTup {k : D} {kk : L2.Key} (h : leafKey k = some kk) : isTup k = false := by
  cases k <;> simp only [leafKey] at h <;> first | rfl | cases h
theorem dget_cons (a b k : D) (r : List (D × D)) : dget ((a, b) :: r) k = if eqD a k = true then some b else dget r k := by
  unfold dget
  rw [List.find?_cons]
  cases h : eqD a k with
  | true => simp
  | false => simp
theorem LK.get : ∀ {kvs : List (D × D)} {kvs' : List (L2.Key × LV)} {k : D} {kk : L2.Key}, LK K ρ H kvs kvs' → leafKey k = some kk →
    (dget kvs k = none ∧ L2.valV kvs' kk = none) ∨ ∃ d vv, dget kvs k = some d ∧ L2.valV kvs' kk = some vv ∧ RV K ρ H d vv
  | _, _, _, _, .nil, _ => .inl ⟨rfl, rfl⟩
  | _, _, k, kk, .cons (k := a) (kk := ka) h1 h2 h3 r, hk => by
    have e := leaf_eq h1 hk
    rw [dget_cons]
    by_cases q : ka = kk
    · rw [e, decide_eq_true q, if_pos rfl]
      exact .inr ⟨_, _, rfl, L2.valV_pos (p := (ka, _)) q, h3⟩
    · rw [e, decide_eq_false q, if_neg (by simp), L2.valV_neg (p := (ka, _)) q]
      exact LK.get r hk
theorem LK.any : ∀ {kvs : List (D × D)} {kvs' : List (L2.Key × LV)} {k : D} {kk : L2.Key}, LK K ρ H kvs kvs' → leafKey k = some kk → (kvs.any fun p => eqD p.1 k) = kvs'.any fun p => decide (p.1 = kk)
  | _, _, _, _, .nil, _ => rfl
  | _, _, k, kk, .cons h1 h2 h3 r, hk => by simp only [List.any_cons, leaf_eq h1 hk, LK.any r hk]
theorem LK.repl {k d : D} {kk : L2.Key} {dv : LV} (hk : leafKey k = some kk) (rd : RV K ρ H d dv) : ∀ {kvs : List (D × D)} {kvs' : List (L2.Key × LV)}, LK K ρ H kvs kvs' →
    LK K ρ H (kvs.map fun p => if eqD p.1 k = true then (p.1, d) else p) (kvs'.map fun p => if p.1 = kk then (p.1, dv) else p)
  | _, _, .nil => .nil
  | _, _, .cons (kk := ka) h1 h2 h3 r => by
    simp only [List.map_cons, leaf_eq h1 hk, decide_eq_true_eq]
    by_cases q : ka = kk
    · rw [if_pos q, if_pos q]; exact .cons h1 h2 rd (LK.repl hk rd r)
    · rw [if_neg q, if_neg q]; exact .cons h1 h2 h3 (LK.repl hk rd r)
theorem LK.snoc {k d : D} {kk : L2.Key} {dv : LV} (hk : leafKey k = some kk) (rk : RV K ρ H k (L2.kV kk)) (rd : RV K ρ H d dv) : ∀ {kvs : List (D × D)} {kvs' : List (L2.Key × LV)}, LK K ρ H kvs kvs' → LK K ρ H (kvs ++ [(k, d)]) (kvs' ++ [(kk, dv)])
  | _, _, .nil => .cons hk rk rd .nil
  | _, _, .cons h1 h2 h3 r => .cons h1 h2 h3 (LK.snoc hk rk rd r)
theorem LK.put {k d : D} {kk : L2.Key} {dv : LV} (hk : leafKey k = some kk) (rk : RV K ρ H k (L2.kV kk)) (rd : RV K ρ H d dv) {kvs : List (D × D)} {kvs' : List (L2.Key × LV)} (h : LK K ρ H kvs kvs') : LK K ρ H (dput kvs k d) (L2.putK kvs' kk dv) := by
  unfold dput L2.putK
  rw [h.any hk]
  split
  · exact h.repl hk rd
  · exact h.snoc hk rk rd
theorem LK.length : ∀ {kvs : List (D × D)} {kvs' : List (L2.Key × LV)}, LK K ρ H kvs kvs' → kvs.length = kvs'.length
  | _, _, .nil => rfl
  | _, _, .cons _ _ _ r => congrArg (· + 1) r.length

theorem TKs.length : ∀ {kvs : List (D × D)} {xs : List (NestedKey × Addr × Value)}, TKs K ρ H kvs xs → kvs.length = xs.length
  | _, _, .nil => rfl
  | _, _, .cons _ _ _ _ r => congrArg (· + 1) r.length
theorem TKs.get {ks : List D} (hk : keyOK (.tup ks) = true) : ∀ {kvs : List (D × D)} {xs : List (NestedKey × Addr × Value)}, TKs K ρ H kvs xs →
    (dget kvs (.tup ks) = none ∧ PySem.atKey xs (nkey (.tup ks)) = none) ∨ ∃ d a vv u, dget kvs (.tup ks) = some d ∧ PySem.atKey xs (nkey (.tup ks)) = some (a, u) ∧ RV K ρ H d vv ∧ L2.RelV vv u
  | _, _, .nil => .inl ⟨rfl, rfl⟩
  | _, _, .cons (ks := as) h1 h2 h3 h4 r => by
    have e := nkey_dec (keyOK_pure h1).1 (keyOK_pure hk).1
    rw [dget_cons]
    unfold PySem.atKey
    rw [List.find?_cons]
    cases q : eqD (.tup as) (.tup ks) with
    | true =>
      rw [q] at e
      simp only [e, if_true]
      exact .inr ⟨_, _, _, _, rfl, rfl, h3, h4⟩
    | false =>
      rw [q] at e
      simp only [e]
      exact TKs.get hk r
theorem atKey_isSome (k : NestedKey) : ∀ xs : List (NestedKey × Addr × Value), (PySem.atKey xs k).isSome = xs.any fun x => decide (x.1 = k)
  | [] => rfl
  | x :: xs => by
    unfold PySem.atKey
    rw [List.find?_cons, List.any_cons]
    cases h : decide (x.1 = k) with
    | true => simp
    | false => simp only [Bool.false_or]; exact atKey_isSome k xs
theorem TKs.any {ks : List D} (hk : keyOK (.tup ks) = true) : ∀ {kvs : List (D × D)} {xs : List (NestedKey × Addr × Value)}, TKs K ρ H kvs xs → (kvs.any fun p => eqD p.1 (.tup ks)) = xs.any fun x => decide (x.1 = nkey (.tup ks))
  | _, _, .nil => rfl
  | _, _, .cons h1 h2 h3 h4 r => by simp only [List.any_cons, TKs.any hk r, nkey_dec (keyOK_pure h1).1 (keyOK_pure hk).1]
theorem TKs.isSome {ks : List D} (hk : keyOK (.tup ks) = true) {kvs : List (D × D)} {xs : List (NestedKey × Addr × Value)} (h : TKs K ρ H kvs xs) : (PySem.atKey xs (nkey (.tup ks))).isSome = (dget kvs (.tup ks)).isSome := by
  rcases h.get hk with ⟨q, q'⟩ | ⟨d', a', vv, u, q1, q2, _, _⟩
  · rw [q, q']; rfl
  · rw [q1, q2]; rfl
theorem TKs.repl {ks : List D} {d : D} {dv : LV} {u : Value} (hk : keyOK (.tup ks) = true) (rd : RV K ρ H d dv) (ru : L2.RelV dv u) : ∀ {kvs : List (D × D)} {xs : List (NestedKey × Addr × Value)}, TKs K ρ H kvs xs →
    TKs K ρ H (kvs.map fun p => if eqD p.1 (.tup ks) = true then (p.1, d) else p) (xs.map (PySem.putAt (nkey (.tup ks)) u))
  | _, _, .nil => .nil
  | _, _, .cons h1 h2 h3 h4 r => by
    simp only [List.map_cons, ← nkey_dec (keyOK_pure h1).1 (keyOK_pure hk).1, decide_eq_true_eq, PySem.putAt]
    split
    · exact .cons h1 h2 rd ru (TKs.repl hk rd ru r)
    · exact .cons h1 h2 h3 h4 (TKs.repl hk rd ru r)
theorem TKs.snoc {ks : List D} {d : D} {a : Addr} {dv : LV} {u : Value} (hk : keyOK (.tup ks) = true) (rk : RV K ρ H (.tup ks) (.ref a)) (rd : RV K ρ H d dv) (ru : L2.RelV dv u) : ∀ {kvs : List (D × D)} {xs : List (NestedKey × Addr × Value)}, TKs K ρ H kvs xs →
    TKs K ρ H (kvs ++ [(.tup ks, d)]) (xs ++ [(nkey (.tup ks), a, u)])
  | _, _, .nil => .cons hk rk rd ru .nil
  | _, _, .cons h1 h2 h3 h4 r => .cons h1 h2 h3 h4 (TKs.snoc hk rk rd ru r)
theorem TKs.put {ks : List D} {d : D} {a : Addr} {dv : LV} {u : Value} (hk : keyOK (.tup ks) = true) (rk : RV K ρ H (.tup ks) (.ref a)) (rd : RV K ρ H d dv) (ru : L2.RelV dv u) {kvs : List (D × D)} {xs : List (NestedKey × Addr × Value)} (h : TKs K ρ H kvs xs) :
    TKs K ρ H (dput kvs (.tup ks) d) (PySem.storedH xs (nkey (.tup ks)) a u) := by
  unfold dput PySem.storedH
  rw [h.any hk, atKey_isSome]
  split
  · exact h.repl hk rd ru
  · exact h.snoc hk rk rd ru
theorem dput_ne {kvs : List (D × D)} {k v : D} : dput kvs k v ≠ [] := by
  unfold dput
  split
  · rename_i h
    intro e
    have := List.map_eq_nil_iff.mp e
    subst this
    simp at h
  · simp
theorem dput_length (kvs : List (D × D)) (k v : D) : (dput kvs k v).length ≤ kvs.length + 1 := by
  unfold dput
  split <;> simp
end

section
variable {X : L2.Cx} {pins : List (Addr × Obj)} {s : PySem.Shared} {σ : L2.St} {H : LHp} {ρ : List Addr} {A : PySem.Around} {E : Value → PySem.Shared → Prop} {a : Addr} {kvs : List (D × D)}
abbrev CellX (X : L2.Cx) := CellOk X.prog X.w X.K
theorem key_at (I : L2.Inv X pins σ H s) {ks : List D} {b : Addr} (hk : keyOK (.tup ks) = true) (r : RV X.K ρ H (.tup ks) (.ref b)) : (PySem.nestedKind X.prog X.w).is s.heap (nkey (.tup ks)) b :=
  ⟨nested_of I _ _ _ (keyOK_pure hk).1 r rfl, by rw [nkey_depth _ (keyOK_pure hk).1]; exact (keyOK_pure hk).2⟩
theorem keys_at (I : L2.Inv X pins σ H s) : ∀ {kvs : List (D × D)} {xs : List (NestedKey × Addr × Value)}, TKs X.K ρ H kvs xs → ∀ x ∈ xs, (PySem.nestedKind X.prog X.w).is s.heap x.1 x.2.1
  | _, _, .nil, _, h => nomatch h
  | _, _, .cons h1 h2 h3 h4 r, x, h => by
    rcases List.mem_cons.mp h with rfl | h
    · exact key_at I h1 h2
    · exact keys_at I r x h
/-- a dict's cell read with a tuple key -/
theorem keyed_of (I : L2.Inv X pins σ H s) (hc : CellX X ρ H a (.dct kvs)) {ks : List D} (hk : keyIn kvs (.tup ks) = true) :
    ∃ xs, s.heap.DictOfH (PySem.nestedKind X.prog X.w) a xs ∧ TKs X.K ρ H kvs xs ∧ (a == PySem.sysModules) = false ∧ xs.length ≤ PySem.sizeLine := by
  rcases hc with ⟨kvs', e, r, z⟩ | ⟨hs, o, e, xs, es, ep, h1, h2, h3, h4, h5, h6, h7⟩
  · cases r with
    | nil =>
      obtain ⟨_, hd, vs, rel, o, es, ep, q1, q2, q3, q4, q5, q6⟩ := L2.dk_of I.hok e
      cases rel
      refine ⟨[], ⟨o, es, ep, q1, q2, q3, ?_, fun x h => (nomatch h), List.nodup_nil⟩, .nil, hd, Nat.zero_le _⟩
      cases hes : es.toList with
      | nil => rfl
      | cons x r => rw [hes] at q5; cases q5
    | cons g1 g2 g3 g4 =>
      unfold keyIn at hk
      rw [Bool.and_eq_true] at hk
      have := hk.2
      rw [List.all_cons, Bool.and_eq_true] at this
      have := this.1
      rw [leaf_noTup g1] at this
      simp [isTup] at this
  · obtain ⟨q, _, _⟩ := I.hok a _ e
    exact ⟨xs, ⟨o, es, ep, q, h1, h2, h3, keys_at I h5, h4⟩, h5, hs, by rw [lim_eq, ← h5.length]; exact h7⟩
theorem leaf_of (hc : CellX X ρ H a (.dct kvs)) {k : D} (hk : keyIn kvs k = true) (ht : isTup k = false) : ∃ kvs' kk, H a = some (.dK kvs') ∧ LK X.K ρ H kvs kvs' ∧ leafKey k = some kk ∧ kvs.length ≤ LIM := by
  unfold keyIn at hk
  rw [Bool.and_eq_true] at hk
  obtain ⟨k1, k2⟩ := hk
  have lk : ∃ kk, leafKey k = some kk := by
    cases k <;> simp_all [keyOK, isTup, leafKey]
  obtain ⟨kk, lk⟩ := lk
  rcases hc with ⟨kvs', e, r, z⟩ | ⟨hs, o, e, xs, es, ep, h1, h2, h3, h4, h5, h6, h7⟩
  · exact ⟨kvs', kk, e, r, lk, z⟩
  · cases h5 with
    | nil => exact absurd rfl h6
    | cons g1 g2 g3 g4 r =>
      rw [List.all_cons, Bool.and_eq_true] at k2
      have := k2.1
      rw [ht] at this
      simp [isTup] at this
theorem leaf_rv {k : D} {kk : L2.Key} {kv : LV} (h : leafKey k = some kk) (r : RV X.K ρ H k kv) : kv = L2.kV kk := by
  cases k <;> simp only [leafKey] at h <;> first | (cases h; done) | skip
  · cases h; exact r.int_inv
  · cases h; exact r.str_inv.1
theorem isTup_cases (k : D) : isTup k = false ∨ ∃ ks, k = .tup ks := by
  cases k <;> first | (left; rfl) | exact .inr ⟨_, rfl⟩
theorem room8 (hu : A.units + 9 < PySem.cLine) : (PySem.nestedKind X.prog X.w).room A.in1 := by
  show A.units + 1 + 8 < PySem.cLine
  omega
/-- d[k], k in d: what a look gives -/
theorem d_look (hu : A.units + 9 < PySem.cLine) (I : L2.Inv X pins σ H s) (hc : CellX X ρ H a (.dct kvs)) {k : D} {kv : LV} {u : Value} (hk : keyIn kvs k = true) (rk : RV X.K ρ H k kv) (ru : L2.RelV kv u) :
    (∀ d (Q : Value → PySem.Shared → Prop), dget kvs k = some d → (∀ vv w' s', L2.Inv X pins σ H s' → RV X.K ρ H d vv → L2.RelV vv w' → Q w' s') → PySem.wpAny (PySem.model X.prog X.w) A (PySem.getItem (.ref a) u) Q E s) ∧
    (∀ (Q : Value → PySem.Shared → Prop), (∀ s', L2.Inv X pins σ H s' → Q (.bool (dget kvs k).isSome) s') → PySem.wpAny (PySem.model X.prog X.w) A (PySem.compareOp .In u (.ref a)) Q E s) ∧
    (∀ (Q : Value → PySem.Shared → Prop), (∀ s', L2.Inv X pins σ H s' → Q (.bool (!(dget kvs k).isSome)) s') → PySem.wpAny (PySem.model X.prog X.w) A (PySem.compareOp .NotIn u (.ref a)) Q E s) := by
  rcases isTup_cases k with ht | ⟨ks, rfl⟩
  · obtain ⟨kvs', kk, e, r, lk, z⟩ := leaf_of hc hk ht
    obtain rfl := leaf_rv lk rk
    have g := L2.DGet.k (k := kk) e
    refine ⟨fun d Q hd h => ?_, fun Q h => ?_, fun Q h => ?_⟩
    · rcases r.get lk with ⟨q, _⟩ | ⟨d', vv, q1, q2, q3⟩
      · rw [hd] at q; cases q
      · rw [hd] at q1; cases q1
        exact L2.d_getItem (by omega) I (by rw [q2] at g; exact g) ru fun w' s' I' rw' => h vv w' s' I' q3 rw'
    · refine L2.d_in (by omega) I g ru fun s' I' => ?_
      rcases r.get lk with ⟨q, q'⟩ | ⟨d', vv, q1, q2, q3⟩
      · have := h s' I'; rw [q] at this; rw [q']; exact this
      · have := h s' I'; rw [q1] at this; rw [q2]; exact this
    · refine L2.d_notIn (by omega) I g ru fun s' I' => ?_
      rcases r.get lk with ⟨q, q'⟩ | ⟨d', vv, q1, q2, q3⟩
      · have := h s' I'; rw [q] at this; rw [q']; exact this
      · have := h s' I'; rw [q1] at this; rw [q2]; exact this
  · obtain ⟨xs, hm, r, hs, hz⟩ := keyed_of I hc hk
    have hk' : keyOK (.tup ks) = true := by unfold keyIn at hk; exact (Bool.and_eq_true_iff.mp hk).1
    obtain ⟨b, ys, rfl, _, _⟩ := rk.tup_inv
    cases ru
    have key := key_at I hk' rk
    refine ⟨fun d Q hd h => ?_, fun Q h => ?_, fun Q h => ?_⟩
    · rcases r.get hk' with ⟨q, _⟩ | ⟨d', a', vv, u, q1, q2, q3, q4⟩
      · rw [hd] at q; cases q
      · rw [hd] at q1; cases q1
        exact PySem.wpAny_getItem_heap (room8 hu) key hm q2 (h vv _ _ (I.tok _) q3 q4)
    · refine PySem.wpAny_in_heap (room8 hu) key hs hm ?_
      rw [r.isSome hk']
      exact h _ (I.tok _)
    · refine PySem.notIn_keyed (room8 hu) key hs ⟨xs, hm, rfl⟩ ?_
      rw [PySem.valueAt_pairsH, Option.isSome_map, r.isSome hk']
      exact h _ (I.tok _)
theorem cell_mut (hc : CellX X ρ H a (.dct kvs)) : L2.Mut (H a) ∧ ∃ u, H a = some u ∧ Chg u := by
  rcases hc with ⟨kvs', e, r, z⟩ | ⟨hs, o, e, _⟩
  · exact ⟨by rw [e]; trivial, _, e, trivial⟩
  · exact ⟨by rw [e]; trivial, _, e, trivial⟩
/-- behind a store with a tuple key -/
theorem stored_cell (I : L2.Inv X pins σ H s) (hc : CellX X ρ H a (.dct kvs)) {ks : List D} {d : D} {b : Addr} {dv : LV} {r : Value} {xs : List (NestedKey × Addr × Value)} {h' : Heap} {t : Nat} (hk : keyOK (.tup ks) = true) (rk : RV X.K ρ H (.tup ks) (.ref b)) (rd : RV X.K ρ H d dv) (rr : L2.RelV dv r)
    (rel : TKs X.K ρ H kvs xs) (hs : (a == PySem.sysModules) = false) (hl : kvs.length < LIM) (dd : h'.DictOfH (PySem.nestedKind X.prog X.w) a (PySem.storedH xs (nkey (.tup ks)) b r)) (sb : Heap.SameBut a s.heap h') :
    ∃ o', L2.Inv X pins σ (L2.upd H a o') { s with heap := h', toks := t } ∧ CellX X ρ (L2.upd H a o') a (.dct (dput kvs (.tup ks) d)) := by
  obtain ⟨o, es, ep, q1, q2, q3, q4, q5, q6⟩ := dd
  obtain ⟨mu, u, eu, cu⟩ := cell_mut hc
  refine ⟨.ext fun h => h.get? a = some o, L2.d_write I mu sb ⟨o, q1⟩ ⟨q1, ⟨o, q1⟩, fun h1 h2 p k => k _ p⟩, .inr ⟨hs, o, L2.upd_same, _, es, ep, q2, q3, q4, q6, (rel.put hk rk rd rr).mono (List.prefix_refl _) (TK.put eu cu), dput_ne, ?_⟩⟩
  have := dput_length kvs (.tup ks) d
  omega
/-- d[k] = v -/
theorem d_put (hu : A.units + 9 < PySem.cLine) (I : L2.Inv X pins σ H s) (hc : CellX X ρ H a (.dct kvs)) {k d : D} {kv dv : LV} {u r : Value} (hk : keyIn kvs k = true) (rk : RV X.K ρ H k kv) (ru : L2.RelV kv u) (rd : RV X.K ρ H d dv) (rr : L2.RelV dv r) (hl : kvs.length < LIM) {Q : Unit → PySem.Shared → Prop}
    (h : ∀ s' o', L2.Inv X pins σ (L2.upd H a o') s' → CellX X ρ (L2.upd H a o') a (.dct (dput kvs k d)) → Q () s') : PySem.wpAny (PySem.model X.prog X.w) A (PySem.setItem (.ref a) u r) Q E s := by
  rcases isTup_cases k with ht | ⟨ks, rfl⟩
  · obtain ⟨kvs', kk, e, rel, lk, z⟩ := leaf_of hc hk ht
    obtain rfl := leaf_rv lk rk
    have hl' : kvs'.length < PySem.sizeLine := by rw [lim_eq, ← rel.length]; exact hl
    refine L2.d_setItem (by omega) I (L2.DPut.k (k := kk) (v := dv) e hl') ru rr fun s' I' => h s' _ I' (.inl ⟨_, L2.upd_same, (rel.put lk rk rd).mono (List.prefix_refl _) (TK.put e trivial), ?_⟩)
    have := dput_length kvs k d
    omega
  · obtain ⟨xs, hm, rel, hs, hz⟩ := keyed_of I hc hk
    have hk' : keyOK (.tup ks) = true := by unfold keyIn at hk; exact (Bool.and_eq_true_iff.mp hk).1
    obtain ⟨b, ys, rfl, _, _⟩ := rk.tup_inv
    cases ru
    refine PySem.wpAny_setItem_heap (hsz := hz) (room8 hu) (key_at I hk' rk) hm fun h' dd sb => ?_
    obtain ⟨o', I', c'⟩ := stored_cell I hc hk' rk rd rr rel hs hl dd sb
    exact h _ o' I' c'
/-- d.setdefault(k, v) -/
theorem d_setdef (hu : A.units + 9 < PySem.cLine) (I : L2.Inv X pins σ H s) (hc : CellX X ρ H a (.dct kvs)) {k d : D} {kv dv : LV} {u r : Value} (hk : keyIn kvs k = true) (rk : RV X.K ρ H k kv) (ru : L2.RelV kv u) (rd : RV X.K ρ H d dv) (rr : L2.RelV dv r) (hl : kvs.length < LIM) {Q : Value → PySem.Shared → Prop}
    (h1 : ∀ x, dget kvs k = some x → ∀ vv w' s', L2.Inv X pins σ H s' → RV X.K ρ H x vv → L2.RelV vv w' → Q w' s')
    (h2 : dget kvs k = none → ∀ w' s' o', L2.Inv X pins σ (L2.upd H a o') s' → L2.RelV dv w' → CellX X ρ (L2.upd H a o') a (.dct (dput kvs k d)) → Q w' s') : PySem.wpAny (PySem.model X.prog X.w) A (PySem.call (.builtin "dict.setdefault") [.ref a, u, r]) Q E s := by
  rcases isTup_cases k with ht | ⟨ks, rfl⟩
  · obtain ⟨kvs', kk, e, rel, lk, z⟩ := leaf_of hc hk ht
    obtain rfl := leaf_rv lk rk
    have hl' : kvs'.length < PySem.sizeLine := by rw [lim_eq, ← rel.length]; exact hl
    refine L2.d_setd I e ru rr hl' (fun v hv w' s' I' rw' => ?_) fun hn w' s' I' rw' => ?_
    · rcases rel.get lk with ⟨q, q'⟩ | ⟨d', vv, q1, q2, q3⟩
      · rw [hv] at q'; cases q'
      · rw [hv] at q2; cases q2
        exact h1 d' q1 _ w' s' I' q3 rw'
    · rcases rel.get lk with ⟨q, q'⟩ | ⟨d', vv, q1, q2, q3⟩
      · refine h2 q w' s' _ I' rw' (.inl ⟨_, L2.upd_same, (rel.put lk rk rd).mono (List.prefix_refl _) (TK.put e trivial), ?_⟩)
        have := dput_length kvs k d
        omega
      · rw [hn] at q2; cases q2
  · obtain ⟨xs, hm, rel, hs, hz⟩ := keyed_of I hc hk
    have hk' : keyOK (.tup ks) = true := by unfold keyIn at hk; exact (Bool.and_eq_true_iff.mp hk).1
    obtain ⟨b, ys, rfl, _, _⟩ := rk.tup_inv
    cases ru
    refine PySem.call_setdefault_heap (hsz := hz) (room8 hu) (key_at I hk' rk) hs hm (fun p hp => ?_) fun hn h' dd sb => ?_
    · rcases rel.get hk' with ⟨q, q'⟩ | ⟨d', a', vv, w', q1, q2, q3, q4⟩
      · rw [hp] at q'; cases q'
      · rw [hp] at q2; cases q2
        exact h1 d' q1 vv w' _ (I.tok _) q3 q4
    · rcases rel.get hk' with ⟨q, q'⟩ | ⟨d', a', vv, w', q1, q2, q3, q4⟩
      · obtain ⟨o', I', c'⟩ := stored_cell I hc hk' rk rd rr rel hs hl dd sb
        exact h2 q r _ o' I' rr c'
      · rw [hn] at q2; cases q2
/-- d.get(k, v) -/
theorem d_get2M (hu : A.units + 9 < PySem.cLine) (I : L2.Inv X pins σ H s) (hc : CellX X ρ H a (.dct kvs)) {k d : D} {kv dv : LV} {u r : Value} (hk : keyIn kvs k = true) (rk : RV X.K ρ H k kv) (ru : L2.RelV kv u) (rd : RV X.K ρ H d dv) (rr : L2.RelV dv r) {Q : Value → PySem.Shared → Prop}
    (h : ∀ vv w' s', L2.Inv X pins σ H s' → RV X.K ρ H ((dget kvs k).getD d) vv → L2.RelV vv w' → Q w' s') : PySem.wpAny (PySem.model X.prog X.w) A (PySem.call (.builtin "dict.get") [.ref a, u, r]) Q E s := by
  rcases isTup_cases k with ht | ⟨ks, rfl⟩
  · obtain ⟨kvs', kk, e, rel, lk, z⟩ := leaf_of hc hk ht
    obtain rfl := leaf_rv lk rk
    refine L2.d_get2 (by omega) I (L2.DGet.k (k := kk) e) ru rr fun w' s' I' rw' => ?_
    rcases rel.get lk with ⟨q, q'⟩ | ⟨d', vv, q1, q2, q3⟩
    · rw [q'] at rw'
      exact h dv w' s' I' (by rw [q]; exact rd) rw'
    · rw [q2] at rw'
      exact h vv w' s' I' (by rw [q1]; exact q3) rw'
  · obtain ⟨xs, hm, rel, hs, hz⟩ := keyed_of I hc hk
    have hk' : keyOK (.tup ks) = true := by unfold keyIn at hk; exact (Bool.and_eq_true_iff.mp hk).1
    obtain ⟨b, ys, rfl, _, _⟩ := rk.tup_inv
    cases ru
    refine PySem.getOr_keyed (room8 hu) (key_at I hk' rk) hs ⟨xs, hm, rfl⟩ ?_
    rw [PySem.valueAt_pairsH]
    rcases rel.get hk' with ⟨q, q'⟩ | ⟨d', a', vv, w', q1, q2, q3, q4⟩
    · rw [q']
      exact h dv r _ (I.tok _) (by rw [q]; exact rd) rr
    · rw [q2]
      exact h vv w' _ (I.tok _) (by rw [q1]; exact q3) q4
end
end M

end
section
set_option Elab.async false
set_option linter.all false
set_option autoImplicit false
set_option maxRecDepth 100000
set_option maxHeartbeats 4000000
/-! built-ins by values -/
namespace M
open PySem (Addr Obj Value Str PyData)
section
variable {X : L2.Cx}
/-- a partial function of a list of values in the layer's words -/
def liftA (X : L2.Cx) (S : List D → Hm → Option (D × Hm)) : List LV → LHp → L2.VK → Prop := fun vs H Q => ∃ ρ hp ds r, HRX X ρ hp H ∧ RVs X.K ρ H ds vs ∧ S ds hp = some r ∧ PVX X ρ H Q r.1 r.2
theorem CallR.imp {f : Value} {r r' : List LV → LHp → L2.VK → Prop} (h : L2.CallR X f r) (k : ∀ vs H Q, r' vs H Q → r vs H Q) : L2.CallR X f r' := fun pins s σ H xs us Q I rx q => h pins s σ H xs us Q I rx (k _ _ _ q)
theorem CallR.or {f : Value} {r r' : List LV → LHp → L2.VK → Prop} (h : L2.CallR X f r) (h' : L2.CallR X f r') : L2.CallR X f (fun vs H Q => r vs H Q ∨ r' vs H Q) := fun pins s σ H xs us Q I rx q => q.elim (h pins s σ H xs us Q I rx) (h' pins s σ H xs us Q I rx)
theorem rd_blt {F : FnS} (hF : FMono F) {E : XP} {es : List CE} {S : List D → Hm → Option (D × Hm)} {σ : L2.St} {H : LHp} {Q : L2.VK}
    (h : rE X (fun env h Q => wpEs F E es env h fun ds h1 => ws (S ds h1) fun r => Q r.1 r.2) σ H Q) : L2.tCB (liftA X S) (rA X (wpEs F E es)) σ H Q := by
  obtain ⟨ρ, env, hp, hr, he, h⟩ := h
  refine ⟨ρ, env, hp, hr, he, wpEs_mono hF es E env hp _ _ h fun ds h1 q ρ1 H1 vs p1 t1 hr1 rv1 => ?_⟩
  obtain ⟨r, e, q⟩ := ws_iff.mp q
  exact ⟨ρ1, h1, ds, r, hr1, rv1, e, PV.weak p1 t1 q⟩
theorem RVs.one_inv {K : PySem.W.Frag} {ρ : List Addr} {H : LHp} {d : D} {vs : List LV} (h : RVs K ρ H [d] vs) : ∃ v, vs = [v] ∧ RV K ρ H d v := by
  cases h with
  | cons a b => cases b; exact ⟨_, rfl, a⟩
theorem RVs.two_inv {K : PySem.W.Frag} {ρ : List Addr} {H : LHp} {d e : D} {vs : List LV} (h : RVs K ρ H [d, e] vs) : ∃ v u, vs = [v, u] ∧ RV K ρ H d v ∧ RV K ρ H e u := by
  cases h with
  | cons a b => obtain ⟨u, rfl, c⟩ := b.one_inv; exact ⟨_, u, rfl, a, c⟩
theorem RVs.nil_inv {K : PySem.W.Frag} {ρ : List Addr} {H : LHp} {vs : List LV} (h : RVs K ρ H [] vs) : vs = [] := by cases h; rfl
/-- a partial function that looks at its arguments' form -/
theorem len_cases {α : Type} {P : List α → Prop} (l : List α) (h0 : P []) (h1 : ∀ a, P [a]) (h2 : ∀ a b, P [a, b]) (h3 : ∀ a b c r, P (a :: b :: c :: r)) : P l := match l with
  | [] => h0
  | [a] => h1 a
  | [a, b] => h2 a b
  | a :: b :: c :: r => h3 a b c r

theorem str_len {s : List Nat} : ({ cps := s.toArray } : Str).length = s.length := by simp [PySem.Str.length]
theorem sOK_len {s : List Nat} (h : sOK s = true) : s.length ≤ LIM := by
  unfold sOK at h; rw [Bool.and_eq_true, decide_eq_true_eq] at h; exact h.1
/-- len of a dict's cell -/
theorem len_dict {pins : List (Addr × Obj)} {s : PySem.Shared} {σ : L2.St} {H : LHp} {ρ : List Addr} {E : Value → PySem.Shared → Prop} {a : Addr} {kvs : List (D × D)} (I : L2.Inv X pins σ H s) (hc : CellX X ρ H a (.dct kvs)) {Q : Value → PySem.Shared → Prop}
    (h : ∀ t s', L2.Inv X pins σ H s' → Q (.int kvs.length t) s') : PySem.wpAny (PySem.model X.prog X.w) X.A (PySem.call (.builtin "len") [.ref a]) Q E s := by
  rcases hc with ⟨kvs', e, r, z⟩ | ⟨hs, o, e, xs, es, ep, h1, h2, h3, h4, h5, h6, h7⟩
  · refine L2.d_len I (.inl e) fun t s' I' => ?_
    rw [← r.length]; exact h t s' I'
  · obtain ⟨q, _, _⟩ := I.hok a _ e
    have hm : s.heap.DictOfH (PySem.nestedKind X.prog X.w) a xs := ⟨o, es, ep, q, h1, h2, h3, keys_at I h5, h4⟩
    have hl : (PySem.pairsH xs).length = kvs.length := by rw [PySem.pairsH_length, ← h5.length]
    have hlim := lim_eq
    refine PyProof.Rows.call_len_slot (n := (PySem.pairsH xs).length) hm.typeIs PySem.F.slot_dict_len (fun Q' hq => PySem.len_keyed hs ⟨xs, hm, rfl⟩ hq) (by omega) (by rw [hl]; unfold LIM at h7; omega) ?_
    rw [hl]
    exact h _ _ (I.tok _)
theorem call_lenM : L2.CallR X (.builtin "len") (liftA X (bltS .len)) := by
  intro pins s σ H vs us Q I rx h
  obtain ⟨ρ, hp, ds, r, hr, rv, e, q⟩ := h
  match ds, rv, e with
  | [d], rv, e =>
    obtain ⟨v, rfl, rv1⟩ := rv.one_inv
    simp only [bltS, Option.map_eq_some_iff] at e
    obtain ⟨n, e, rfl⟩ := e
    have go : (∃ n', L2.LenV X.K v H n' ∧ n' = n) → PySem.wpAny (PySem.model X.prog X.w) X.A (PySem.call (.builtin "len") us) (L2.EP X pins σ Q) X.xe s := fun ⟨n', l, en⟩ => by
      subst en
      exact L2.call_len pins s σ H [v] us Q I rx ⟨v, n', rfl, l, PV.here q hr (.int _)⟩
    cases d <;> simp only [lenS] at e <;> first | (cases e; done) | skip
    · obtain ⟨rfl, z⟩ := rv1.str_inv
      refine go ⟨_, ⟨?_, rfl⟩, ?_⟩
      · rw [lim_eq, str_len]; exact sOK_len z
      · rw [str_len]; exact Option.some.inj e
    · obtain ⟨a, xs, rfl, h1, h2⟩ := rv1.tup_inv
      exact go ⟨xs.length, .inr ⟨xs, h1, rfl⟩, by rw [← h2.length]; exact Option.some.inj e⟩
    · obtain ⟨a, rfl, ha⟩ := rv1.ref_inv
      split at e
      · rename_i xs hx
        cases e
        obtain ⟨ys, e1, r1⟩ := hr.ok _ a _ ha hx
        exact go ⟨ys.length, .inl ⟨ys, .inl (.inl e1), rfl⟩, by rw [r1.length]⟩
      · rename_i xs hx
        cases e
        obtain ⟨ys, e1, r1⟩ := hr.ok _ a _ ha hx
        refine go ⟨ys.length, .inl ⟨ys, ?_, rfl⟩, by rw [r1.length]⟩
        rcases e1 with ⟨ob, e1⟩ | e1
        · exact .inl (.inr ⟨ob, e1⟩)
        · exact .inr e1
      · rename_i kvs hx
        cases e
        obtain ⟨u, rfl, ru⟩ := L2.vals1 rx
        cases ru
        exact len_dict I (hr.ok _ a _ ha hx) fun t s' I' => ⟨.int _, H, I', ⟨t, rfl⟩, PV.here q hr (.int _)⟩
      · cases e
  | [], rv, e => simp [bltS] at e
  | _ :: _ :: _, rv, e => simp [bltS] at e
theorem call_absM : L2.CallR X (.builtin "abs") (liftA X (bltS .abs)) := by
  refine CallR.imp L2.call_abs fun vs H Q h => ?_
  obtain ⟨ρ, hp, ds, r, hr, rv, e, q⟩ := h
  rcases ds with _ | ⟨d, _ | ⟨d2, ds⟩⟩ <;> try (simp [bltS] at e; done)
  cases d <;> try (simp [bltS] at e; done)
  simp only [bltS, Option.some.injEq] at e
  subst e
  obtain ⟨v, rfl, r1⟩ := rv.one_inv
  obtain rfl := r1.int_inv
  exact ⟨_, rfl, PV.here q hr (.int _)⟩
theorem call_intM : L2.CallR X (.type "int") (liftA X (bltS .int)) := by
  refine CallR.imp L2.call_int1 fun vs H Q h => ?_
  obtain ⟨ρ, hp, ds, r, hr, rv, e, q⟩ := h
  rcases ds with _ | ⟨d, _ | ⟨d2, ds⟩⟩ <;> try (simp [bltS] at e; done)
  cases d <;> try (simp [bltS] at e; done)
  simp only [bltS, Option.some.injEq] at e
  subst e
  obtain ⟨v, rfl, r1⟩ := rv.one_inv
  obtain rfl := r1.int_inv
  exact .inl ⟨_, rfl, PV.here q hr (.int _)⟩
theorem call_strM : L2.CallR X (.type "str") (liftA X (bltS .str1)) := by
  refine CallR.imp L2.call_str_int fun vs H Q h => ?_
  obtain ⟨ρ, hp, ds, r, hr, rv, e, q⟩ := h
  rcases ds with _ | ⟨d, _ | ⟨d2, ds⟩⟩ <;> try (simp [bltS] at e; done)
  cases d <;> try (simp [bltS] at e; done)
  rename_i i
  simp only [bltS] at e
  split at e
  · rename_i hc
    cases e
    obtain ⟨v, rfl, r1⟩ := rv.one_inv
    obtain rfl := r1.int_inv
    refine ⟨_, rfl, ?_, ?_⟩
    · have hs := hc.1
      unfold small at hs
      rw [Bool.and_eq_true, decide_eq_true_eq, decide_eq_true_eq] at hs
      have h1 : i.natAbs < 2 ^ 1920 := Nat.lt_of_le_of_lt (show i.natAbs ≤ 1000000 by omega) (by decide +kernel)
      by_cases h0 : i.natAbs = 0
      · rw [h0]; decide
      · exact (Nat.log2_lt h0).mpr h1
    · have e2 : PySem.Str.ofString (toString i) = ⟨(strI i).toArray⟩ := PySem.Str.ofString_eq_toList _
      show Q (.str (PySem.Str.ofString (toString i))) H
      rw [e2]
      exact PV.here q hr (.str _ hc.2)
  · cases e
theorem call_max2M (hc : X.calm = true) : L2.CallR X (.builtin "max") (liftA X (bltS .max2)) := by
  refine CallR.imp (L2.call_max2 hc) fun vs H Q h => ?_
  obtain ⟨ρ, hp, ds, r, hr, rv, e, q⟩ := h
  rcases ds with _ | ⟨d, _ | ⟨d2, _ | ⟨d3, ds⟩⟩⟩ <;> try (simp [bltS] at e; done)
  cases d <;> try (simp [bltS] at e; done)
  cases d2 <;> try (simp [bltS] at e; done)
  simp only [bltS, Option.some.injEq] at e
  subst e
  obtain ⟨v, u, rfl, r1, r2⟩ := rv.two_inv
  obtain rfl := r1.int_inv
  obtain rfl := r2.int_inv
  exact ⟨_, _, rfl, PV.here q hr (.int _)⟩
theorem call_min2M (hc : X.calm = true) : L2.CallR X (.builtin "min") (liftA X (bltS .min2)) := by
  refine CallR.imp (L2.call_min2 hc) fun vs H Q h => ?_
  obtain ⟨ρ, hp, ds, r, hr, rv, e, q⟩ := h
  rcases ds with _ | ⟨d, _ | ⟨d2, _ | ⟨d3, ds⟩⟩⟩ <;> try (simp [bltS] at e; done)
  cases d <;> try (simp [bltS] at e; done)
  cases d2 <;> try (simp [bltS] at e; done)
  simp only [bltS, Option.some.injEq] at e
  subst e
  obtain ⟨v, u, rfl, r1, r2⟩ := rv.two_inv
  obtain rfl := r1.int_inv
  obtain rfl := r2.int_inv
  exact ⟨_, _, rfl, PV.here q hr (.int _)⟩
theorem ints_inv {K : PySem.W.Frag} {ρ : List Addr} {H : LHp} : ∀ {ds : List D} {ns : List Int} {vs : List LV}, intsOf ds = some ns → RVs K ρ H ds vs → vs = ns.map L2.V.int
  | [], ns, vs, e, r => by cases e; cases r; rfl
  | d :: ds, ns, vs, e, r => by
    cases d <;> simp only [intsOf] at e <;> first | (cases e; done) | skip
    obtain ⟨ms, e1, rfl⟩ := Option.map_eq_some_iff.mp e
    cases r with
    | cons r1 r2 =>
      obtain rfl := r1.int_inv
      rw [ints_inv e1 r2]; rfl
theorem bools_inv {K : PySem.W.Frag} {ρ : List Addr} {H : LHp} : ∀ {ds : List D} {ns : List Bool} {vs : List LV}, boolsOf ds = some ns → RVs K ρ H ds vs → vs = ns.map L2.V.bl
  | [], ns, vs, e, r => by cases e; cases r; rfl
  | d :: ds, ns, vs, e, r => by
    cases d <;> simp only [boolsOf] at e <;> first | (cases e; done) | skip
    obtain ⟨ms, e1, rfl⟩ := Option.map_eq_some_iff.mp e
    cases r with
    | cons r1 r2 =>
      cases r1
      rw [bools_inv e1 r2]; rfl
/-- a list argument -/
theorem lst_arg {ρ : List Addr} {H : LHp} {hp : Hm} {d : D} {v : LV} {xs : List D} (hr : HRX X ρ hp H) (r : RV X.K ρ H d v) (e : lstOf hp d = some xs) : ∃ a ys, v = .ref a ∧ L2.SqL X.K H a ys ∧ RVs X.K ρ H xs ys := by
  cases d <;> simp only [lstOf] at e <;> first | (cases e; done) | skip
  obtain ⟨a, rfl, ha⟩ := r.ref_inv
  obtain ⟨b, ys, hb, h1, h2⟩ := hr.getL e
  obtain rfl := ref_eq ha hb
  exact ⟨a, ys, rfl, h1, h2⟩
theorem call_sumM (hc : X.calm = true) : L2.CallR X (.builtin "sum") (liftA X (bltS .sum)) := by
  refine CallR.imp (L2.cr_sum hc) fun vs H Q h => ?_
  obtain ⟨ρ, hp, ds, r, hr, rv, e, q⟩ := h
  rcases ds with _ | ⟨d, _ | ⟨d2, ds⟩⟩ <;> try (simp [bltS] at e; done)
  simp only [bltS, Option.map_eq_some_iff, Option.bind_eq_some_iff] at e
  obtain ⟨ns, ⟨xs, e1, e2⟩, rfl⟩ := e
  obtain ⟨v, rfl, r1⟩ := rv.one_inv
  obtain ⟨a, ys, rfl, h1, h2⟩ := lst_arg hr r1 e1
  obtain rfl := ints_inv e2 h2
  exact ⟨a, ns, rfl, h1, PV.here q hr (.int _)⟩
theorem foldl_max_mem : ∀ (ns : List Int) (m : Int), (ns.foldl max m = m ∨ ns.foldl max m ∈ ns) ∧ m ≤ ns.foldl max m ∧ ∀ y ∈ ns, y ≤ ns.foldl max m
  | [], m => ⟨.inl rfl, Int.le_refl _, fun _ h => nomatch h⟩
  | n :: ns, m => by
    obtain ⟨a, b, c⟩ := foldl_max_mem ns (max m n)
    rw [List.foldl_cons]
    refine ⟨?_, by omega, fun y hy => ?_⟩
    · rcases a with a | a
      · rw [a]
        rcases Int.le_total m n with h | h
        · right; rw [Int.max_eq_right h]; exact List.mem_cons_self
        · left; exact Int.max_eq_left h
      · right; exact List.mem_cons_of_mem _ a
    · rcases List.mem_cons.mp hy with rfl | hy
      · omega
      · exact c y hy
theorem foldl_min_mem : ∀ (ns : List Int) (m : Int), (ns.foldl min m = m ∨ ns.foldl min m ∈ ns) ∧ ns.foldl min m ≤ m ∧ ∀ y ∈ ns, ns.foldl min m ≤ y
  | [], m => ⟨.inl rfl, Int.le_refl _, fun _ h => nomatch h⟩
  | n :: ns, m => by
    obtain ⟨a, b, c⟩ := foldl_min_mem ns (min m n)
    rw [List.foldl_cons]
    refine ⟨?_, by omega, fun y hy => ?_⟩
    · rcases a with a | a
      · rw [a]
        rcases Int.le_total m n with h | h
        · left; exact Int.min_eq_left h
        · right; rw [Int.min_eq_right h]; exact List.mem_cons_self
      · right; exact List.mem_cons_of_mem _ a
    · rcases List.mem_cons.mp hy with rfl | hy
      · omega
      · exact c y hy
theorem call_max1M (hc : X.calm = true) : L2.CallR X (.builtin "max") (liftA X (bltS .max1)) := by
  refine CallR.imp (L2.cr_max hc) fun vs H Q h => ?_
  obtain ⟨ρ, hp, ds, r, hr, rv, e, q⟩ := h
  rcases ds with _ | ⟨d, _ | ⟨d2, ds⟩⟩ <;> try (simp [bltS] at e; done)
  simp only [bltS, Option.bind_eq_some_iff] at e
  obtain ⟨ns, ⟨xs, e1, e2⟩, e3⟩ := e
  split at e3
  · rename_i hne
    cases e3
    obtain ⟨v, rfl, r1⟩ := rv.one_inv
    obtain ⟨a, ys, rfl, h1, h2⟩ := lst_arg hr r1 e1
    obtain rfl := ints_inv e2 h2
    refine ⟨a, ns, rfl, h1, List.length_pos_iff.mpr hne, fun m hm hle => ?_⟩
    have em : m = ns.foldl max (ns.headD 0) := by
      obtain ⟨p, q1, q2⟩ := foldl_max_mem ns (ns.headD 0)
      have hin : ns.foldl max (ns.headD 0) ∈ ns := by
        rcases p with p | p
        · rw [p]; cases ns with
          | nil => exact absurd rfl hne
          | cons x r => exact List.mem_cons_self
        · exact p
      have h1 := hle _ hin
      have h2 := q2 _ hm
      omega
    rw [em]
    exact PV.here q hr (.int _)
  · cases e3
theorem call_min1M (hc : X.calm = true) : L2.CallR X (.builtin "min") (liftA X (bltS .min1)) := by
  refine CallR.imp (L2.cr_min hc) fun vs H Q h => ?_
  obtain ⟨ρ, hp, ds, r, hr, rv, e, q⟩ := h
  rcases ds with _ | ⟨d, _ | ⟨d2, ds⟩⟩ <;> try (simp [bltS] at e; done)
  simp only [bltS, Option.bind_eq_some_iff] at e
  obtain ⟨ns, ⟨xs, e1, e2⟩, e3⟩ := e
  split at e3
  · rename_i hne
    cases e3
    obtain ⟨v, rfl, r1⟩ := rv.one_inv
    obtain ⟨a, ys, rfl, h1, h2⟩ := lst_arg hr r1 e1
    obtain rfl := ints_inv e2 h2
    refine ⟨a, ns, rfl, h1, List.length_pos_iff.mpr hne, fun m hm hle => ?_⟩
    have em : m = ns.foldl min (ns.headD 0) := by
      obtain ⟨p, q1, q2⟩ := foldl_min_mem ns (ns.headD 0)
      have hin : ns.foldl min (ns.headD 0) ∈ ns := by
        rcases p with p | p
        · rw [p]; cases ns with
          | nil => exact absurd rfl hne
          | cons x r => exact List.mem_cons_self
        · exact p
      have h1 := hle _ hin
      have h2 := q2 _ hm
      omega
    rw [em]
    exact PV.here q hr (.int _)
  · cases e3
theorem call_allM (hc : X.calm = true) : L2.CallR X (.builtin "all") (liftA X (bltS .all)) := by
  refine CallR.imp (L2.cr_all hc) fun vs H Q h => ?_
  obtain ⟨ρ, hp, ds, r, hr, rv, e, q⟩ := h
  rcases ds with _ | ⟨d, _ | ⟨d2, ds⟩⟩ <;> try (simp [bltS] at e; done)
  simp only [bltS, Option.map_eq_some_iff, Option.bind_eq_some_iff] at e
  obtain ⟨ns, ⟨xs, e1, e2⟩, rfl⟩ := e
  obtain ⟨v, rfl, r1⟩ := rv.one_inv
  obtain ⟨a, ys, rfl, h1, h2⟩ := lst_arg hr r1 e1
  obtain rfl := bools_inv e2 h2
  exact ⟨a, ns, rfl, h1, PV.here q hr (.bl _)⟩
theorem call_anyM (hc : X.calm = true) : L2.CallR X (.builtin "any") (liftA X (bltS .any)) := by
  refine CallR.imp (L2.cr_any hc) fun vs H Q h => ?_
  obtain ⟨ρ, hp, ds, r, hr, rv, e, q⟩ := h
  rcases ds with _ | ⟨d, _ | ⟨d2, ds⟩⟩ <;> try (simp [bltS] at e; done)
  simp only [bltS, Option.map_eq_some_iff, Option.bind_eq_some_iff] at e
  obtain ⟨ns, ⟨xs, e1, e2⟩, rfl⟩ := e
  obtain ⟨v, rfl, r1⟩ := rv.one_inv
  obtain ⟨a, ys, rfl, h1, h2⟩ := lst_arg hr r1 e1
  obtain rfl := bools_inv e2 h2
  exact ⟨a, ns, rfl, h1, PV.here q hr (.bl _)⟩
end
end M

end
section
set_option Elab.async false
set_option linter.all false
set_option autoImplicit false
set_option maxRecDepth 100000
set_option maxHeartbeats 4000000
/-! what is collected, sorted -/
namespace M
open PySem (Addr Obj Value Str PyData Heap NestedKey)
mutual
theorem toks_pd : ∀ d : D, PySem.W.keyToks (pd d) = toks d
  | .non => rfl
  | .bl b => rfl
  | .int n => rfl
  | .str x => rfl
  | .tup xs => toks_pds xs
  | .lst xs => toks_pds xs
  | .ref a => rfl
theorem toks_pds : ∀ ds : List D, PySem.W.keyToksAll (pds ds) = toksL ds
  | [] => rfl
  | d :: ds => by simp only [pds, PySem.W.keyToksAll, toksL, toks_pd d, toks_pds ds]
end
mutual
theorem alike_pd : ∀ x y : D, alikeD x y = true → PySem.W.alike (pd x) (pd y) = true
  | .non, y, h => by cases y <;> simp_all [alikeD, pd, PySem.W.alike]
  | .bl b, y, h => by cases y <;> simp_all [alikeD, pd, PySem.W.alike]
  | .int n, y, h => by cases y <;> simp_all [alikeD, pd, PySem.W.alike]
  | .str x, y, h => by cases y <;> simp_all [alikeD, pd, PySem.W.alike]
  | .tup xs, y, h => by
    cases y <;> simp only [alikeD, pd, PySem.W.alike] at * <;> first | exact alike_pds xs _ h | simp_all
  | .lst xs, y, h => by cases y <;> simp [alikeD] at h
  | .ref a, y, h => by cases y <;> simp [alikeD] at h
theorem alike_pds : ∀ xs ys : List D, alikeDs xs ys = true → PySem.W.alikeAll (pds xs) (pds ys) = true
  | [], ys, h => by cases ys <;> rfl
  | x :: xs, [], h => rfl
  | x :: xs, y :: ys, h => by
    simp only [alikeDs, Bool.and_eq_true] at h
    simp only [pds, PySem.W.alikeAll, Bool.and_eq_true]
    exact ⟨alike_pd x y h.1, alike_pds xs ys h.2⟩
end
theorem ltI_eq : ∀ a b, PyProof.Rows.itemLt a b = ltI a b
  | .inl _, .inl _ => rfl
  | .inl _, .inr _ => rfl
  | .inr _, .inl _ => rfl
  | .inr _, .inr _ => rfl
theorem ltT_eq : ∀ a b, PyProof.Rows.lexLt PyProof.Rows.itemOrd a b = ltT a b
  | [], [] => rfl
  | [], _ :: _ => rfl
  | _ :: _, [] => rfl
  | x :: r, y :: t => by
    show (PyProof.Rows.itemLt x y || (!PyProof.Rows.itemLt y x && PyProof.Rows.lexLt PyProof.Rows.itemOrd r t)) = _
    rw [ltT_eq r t, ltI_eq, ltI_eq]; rfl
theorem le_eq (x y : D) : PySem.W.dataLe false pd x y = !ltB y x := by
  show (!PyProof.Rows.lexLt PyProof.Rows.itemOrd (PySem.W.keyToks (pd y)) (PySem.W.keyToks (pd x))) = _
  rw [toks_pd, toks_pd, ltT_eq]; rfl
theorem le_total : PySem.W.TotalLe (PySem.W.dataLe false pd) := PySem.W.sortLe_total _ _ _
theorem insD_perm (x : D) : ∀ ys : List D, (insD x ys).Perm (x :: ys)
  | [] => List.Perm.refl _
  | y :: ys => by
    unfold insD
    split
    · exact ((insD_perm x ys).cons y).trans (List.Perm.swap x y ys)
    · exact List.Perm.refl _
theorem sortD_perm : ∀ xs : List D, (sortD xs).Perm xs
  | [] => List.Perm.refl _
  | x :: xs => (insD_perm x _).trans ((sortD_perm xs).cons x)
abbrev leD := PySem.W.dataLe false pd
theorem insD_sorted (x : D) : ∀ ys : List D, ys.Pairwise (fun a b => leD a b = true) → (insD x ys).Pairwise (fun a b => leD a b = true)
  | [], _ => by simp [insD]
  | y :: ys, h => by
    rw [List.pairwise_cons] at h
    unfold insD
    split
    · rename_i c
      refine List.pairwise_cons.mpr ⟨fun z hz => ?_, insD_sorted x ys h.2⟩
      rcases List.mem_cons.mp ((insD_perm x ys).mem_iff.mp hz) with rfl | hz
      · rcases le_total.total y z with q | q
        · exact q
        · rw [le_eq, c] at q; cases q
      · exact h.1 z hz
    · rename_i c
      have xy : leD x y = true := by rw [show leD x y = !ltB y x from le_eq x y]; simpa using c
      refine List.pairwise_cons.mpr ⟨fun z hz => ?_, List.pairwise_cons.mpr h⟩
      rcases List.mem_cons.mp hz with rfl | hz
      · exact xy
      · exact le_total.trans _ _ _ xy (h.1 z hz)
theorem insD_stable (c x : D) : ∀ ys : List D, (insD x ys).filter (PySem.W.sameRank leD c) = (x :: ys).filter (PySem.W.sameRank leD c)
  | [] => rfl
  | y :: ys => by
    unfold insD
    split
    · rename_i q
      rw [List.filter_cons, insD_stable c x ys, List.filter_cons, List.filter_cons, List.filter_cons]
      by_cases hx : PySem.W.sameRank leD c x = true
      · by_cases hy : PySem.W.sameRank leD c y = true
        · -- x, y of one rank: then not y < x
          unfold PySem.W.sameRank at hx hy
          rw [Bool.and_eq_true] at hx hy
          have := le_total.trans x c y hx.2 hy.1
          rw [le_eq, q] at this; cases this
        · simp [hx, hy]
      · simp [hx]
    · rfl
theorem sortD_stable (c : D) : ∀ xs : List D, (sortD xs).filter (PySem.W.sameRank leD c) = xs.filter (PySem.W.sameRank leD c)
  | [] => rfl
  | x :: xs => by
    show (insD x (sortD xs)).filter _ = _
    rw [insD_stable, List.filter_cons, List.filter_cons, sortD_stable c xs]
theorem sortD_sorted : ∀ xs : List D, (sortD xs).Pairwise (fun a b => leD a b = true)
  | [] => .nil
  | x :: xs => insD_sorted x _ (sortD_sorted xs)
theorem sortD_eq (xs : List D) : xs.mergeSort leD = sortD xs := (PySem.W.sort_unique le_total (sortD_sorted xs) fun c => sortD_stable c xs).symm

/-! ### collecting a dict's keys -/
theorem leaf_inj {K : PySem.W.Frag} {ρ : List Addr} {H : LHp} : ∀ {kvs : List (D × D)} {kvs' : List (L2.Key × LV)}, LK K ρ H kvs kvs' → RVs K ρ H (kvs.map (·.1)) (kvs'.map fun p => L2.kV p.1)
  | _, _, .nil => .nil
  | _, _, .cons h1 h2 h3 r => .cons h2 (leaf_inj r)
theorem tks_keys {K : PySem.W.Frag} {ρ : List Addr} {H : LHp} : ∀ {kvs : List (D × D)} {xs : List (NestedKey × Addr × Value)}, TKs K ρ H kvs xs → RVs K ρ H (kvs.map (·.1)) (xs.map fun x => L2.V.ref x.2.1)
  | _, _, .nil => .nil
  | _, _, .cons h1 h2 h3 h4 r => .cons h2 (tks_keys r)
theorem ref_vals : ∀ xs : List (NestedKey × Addr × Value), L2.Vals (xs.map fun x => L2.V.ref x.2.1) (xs.map fun x => Value.ref x.2.1)
  | [] => .nil
  | _ :: r => .cons rfl (ref_vals r)
section
variable {X : L2.Cx} {pins : List (Addr × Obj)} {s : PySem.Shared} {σ : L2.St} {H : LHp} {ρ : List Addr} {A : PySem.Around} {E : Value → PySem.Shared → Prop} {a : Addr} {kvs : List (D × D)}
theorem kdl_rawM {prog : PySem.Program} {w : PySem.World} {d : Addr} {o : Obj} {es : Array PySem.DictEntry} {ep : Nat} (lo : (d == PySem.sysModules) = false) (hx : o.ExactDict) (hd : o.data = .dict es ep) :
    PySem.W.KdlSrc prog w "dict" d d es.size (fun i v => ∃ en : PySem.DictEntry, es[i]? = some en ∧ v = en.key) (fun h => h.get? d = some o) := L2.kdl_raw lo hx hd
/-- the source of a dict's keys -/
theorem dict_src (I : L2.Inv X pins σ H s) (hc : CellX X ρ H a (.dct kvs)) : ∃ (n : Nat) (P : Nat → Value → Prop) (OK : Heap → Prop), PySem.W.KdlSrc X.prog X.w "dict" a a n P OK ∧ OK s.heap ∧ n ≤ PySem.sizeLine ∧
    ∀ acc : List Value, (∀ j v, acc[j]? = some v → P j v) → acc.length = n → ∃ ys, L2.Vals ys acc ∧ RVs X.K ρ H (kvs.map (·.1)) ys := by
  rcases hc with ⟨kvs', e, r, z⟩ | ⟨hs, o, e, xs, es, ep, h1, h2, h3, h4, h5, h6, h7⟩
  · obtain ⟨z', lo, vs, rel, dd⟩ := L2.dk_of I.hok e
    obtain ⟨ep, hat⟩ := dd.dictAt
    refine ⟨_, _, _, PySem.W.kdl_dict (knd := L2.mixKind X.prog X.w) (kvs := vs) (ep := ep) lo, hat, by rw [← rel.length]; exact z', fun acc h hl => ?_⟩
    refine ⟨_, L2.keys_at hl fun j v e => h j v e, ?_⟩
    have ek : (vs.map fun p => L2.kV p.1) = kvs'.map fun p => L2.kV p.1 := by
      have q := congrArg (List.map L2.kV) rel.keys
      rw [List.map_map, List.map_map] at q
      exact q.symm
    rw [ek]
    exact leaf_inj r
  · obtain ⟨q, _, _⟩ := I.hok a _ e
    have hsz : es.size = xs.length := PySem.size_of_entries h3
    refine ⟨_, _, _, L2.kdl_raw hs h1 h2, q, by rw [hsz, lim_eq, ← h5.length]; exact h7, fun acc h hl => ?_⟩
    have ea : acc = xs.map fun x => Value.ref x.2.1 := by
      refine List.ext_getElem? fun j => ?_
      rw [List.getElem?_map]
      cases hj : acc[j]? with
      | none =>
        have := List.getElem?_eq_none_iff.mp hj
        rw [List.getElem?_eq_none (by omega)]; rfl
      | some v =>
        obtain ⟨en, hen, hv⟩ := h j v hj
        have qe := PySem.entry_at h3 j
        rw [hen] at qe
        cases hb : xs[j]? with
        | none => rw [hb] at qe; exact nomatch (show some en = none from qe)
        | some b =>
          rw [hb] at qe
          have e2 : en = PySem.entryOfKey (PySem.nestedKind X.prog X.w) b := Option.some.inj qe
          rw [hv, e2]; rfl
    rw [ea]
    exact ⟨_, ref_vals xs, tks_keys h5⟩
/-- list(d) -/
theorem list_dict (hcalm : X.calm = true) (I : L2.Inv X pins σ H s) (hc : CellX X ρ H a (.dct kvs)) {Q : Value → PySem.Shared → Prop}
    (h : ∀ ys p s', H p = none → L2.Inv X pins σ (L2.upd H p (.lst ys)) s' → RVs X.K ρ H (kvs.map (·.1)) ys → Q (.ref p) s') : PySem.wpAny (PySem.model X.prog X.w) X.A (PySem.call (.type "list") [.ref a]) Q E s := by
  obtain ⟨n, P, OK, src, ok, hn, keys⟩ := dict_src I hc
  refine PySem.W.kdl_call src (I.ok.hd hcalm) ok hn fun h' tk acc' c' kp e it => ?_
  obtain ⟨ys, rv, rk⟩ := keys acc'.toList (fun j v e => it.2 j v (by rw [← Array.getElem?_toList]; exact e)) (by rw [Array.length_toList]; exact it.1)
  have hl := rv.length
  have hl2 : acc'.toList.length = n := by rw [Array.length_toList]; exact it.1
  have hz : ys.length ≤ PySem.sizeLine := by omega
  exact h ys _ _ (I.hok.fresh (Nat.le_refl _)) (I.laid (t' := tk) (o := .lst ys) kp (Nat.le_refl _) ⟨hz, acc'.toList, c', rv, by rw [Array.toArray_toList]; exact e⟩) rk
end

/-! ### sorted -/
theorem pure_snap {f : Nat → Option (List D)} : (∀ d, pureD d = true → snapD f d = some d) ∧ ∀ ds, pureDs ds = true → snapDs f ds = some ds := by
  constructor
  · intro d
    exact D.rec (motive_1 := fun d => pureD d = true → snapD f d = some d) (motive_2 := fun ds => pureDs ds = true → snapDs f ds = some ds)
      (fun _ => rfl) (fun _ _ => rfl) (fun _ _ => rfl) (fun _ _ => rfl)
      (fun xs ih h => by simp only [snapD, ih (by simpa only [pureD] using h), Option.map_some]) (fun xs _ h => by simp [pureD] at h) (fun a h => by simp [pureD] at h)
      (fun _ => rfl) (fun x xs ih1 ih2 h => by
        simp only [pureDs, Bool.and_eq_true] at h
        simp only [snapDs, ih1 h.1, ih2 h.2]) d
  · intro ds
    exact D.rec_1 (motive_1 := fun d => pureD d = true → snapD f d = some d) (motive_2 := fun ds => pureDs ds = true → snapDs f ds = some ds)
      (fun _ => rfl) (fun _ _ => rfl) (fun _ _ => rfl) (fun _ _ => rfl)
      (fun xs ih h => by simp only [snapD, ih (by simpa only [pureD] using h), Option.map_some]) (fun xs _ h => by simp [pureD] at h) (fun a h => by simp [pureD] at h)
      (fun _ => rfl) (fun x xs ih1 ih2 h => by
        simp only [pureDs, Bool.and_eq_true] at h
        simp only [snapDs, ih1 h.1, ih2 h.2]) ds
theorem deps_mem : ∀ {ds : List D} {d : D}, d ∈ ds → dep d ≤ deps ds
  | x :: xs, d, h => by
    rcases List.mem_cons.mp h with rfl | h
    · exact Nat.le_max_left _ _
    · exact Nat.le_trans (deps_mem h) (Nat.le_max_right _ _)
theorem pure_mem : ∀ {ds : List D} {d : D}, pureDs ds = true → d ∈ ds → pureD d = true
  | x :: xs, d, hp, h => by
    simp only [pureDs, Bool.and_eq_true] at hp
    rcases List.mem_cons.mp h with rfl | h
    · exact hp.1
    · exact pure_mem hp.2 h
theorem each_of {K : PySem.W.Frag} {ρ : List Addr} {H : LHp} : ∀ {ds : List D} {vs : List LV} {us : List Value}, RVs K ρ H ds vs → L2.Vals vs us → PySem.W.EachIs (fun u d => ∃ v, RV K ρ H d v ∧ L2.RelV v u) us ds
  | _, _, _, .nil, .nil => .nil
  | _, _, _, .cons r rs, .cons q qs => .cons ⟨_, r, q⟩ (each_of rs qs)
theorem of_each {K : PySem.W.Frag} {ρ : List Addr} {H : LHp} : ∀ {us : List Value} {ds : List D}, PySem.W.EachIs (fun u d => ∃ v, RV K ρ H d v ∧ L2.RelV v u) us ds → ∃ vs, RVs K ρ H ds vs ∧ L2.Vals vs us
  | _, _, .nil => ⟨[], .nil, .nil⟩
  | _, _, .cons ⟨v, r, q⟩ t => let ⟨vs, a, b⟩ := of_each t; ⟨v :: vs, .cons r a, .cons q b⟩
theorem pd_depth {d : D} (h : pureD d = true) : (pd d).depth = dep d := by
  refine D.rec (motive_1 := fun d => pureD d = true → (pd d).depth = dep d) (motive_2 := fun ds => pureDs ds = true → PyData.depthAll (pds ds) = deps ds)
      (fun _ => rfl) (fun _ _ => rfl) (fun _ _ => rfl) (fun _ _ => rfl)
      (fun xs ih h => by simp only [pd, PyData.depth, dep, ih (by simpa only [pureD] using h)]) (fun xs _ h => by simp [pureD] at h) (fun a h => by simp [pureD] at h)
      (fun _ => rfl) (fun x xs ih1 ih2 h => by
        simp only [pureDs, Bool.and_eq_true] at h
        simp only [pds, PyData.depthAll, deps, ih1 h.1, ih2 h.2]) d h
section
variable {X : L2.Cx} {pins : List (Addr × Obj)} {s : PySem.Shared} {σ : L2.St} {H : LHp} {ρ : List Addr} {E : Value → PySem.Shared → Prop}
theorem reads_each (I : L2.Inv X pins σ H s) {hp : Hm} (hr : HRX X ρ hp H) {us : List Value} {ds : List D} (hp' : pureDs ds = true) (e : PySem.W.EachIs (fun u d => ∃ v, RV X.K ρ H d v ∧ L2.RelV v u) us ds) {h' : Heap} (k : ∀ b o, s.heap.get? b = some o → h'.get? b = some o) :
    PySem.W.EachIs (fun u d => ∃ as, PySem.Reads h' u (pd d) as) us ds := by
  refine (PySem.W.each_mem e).mono fun u d ⟨⟨v, r, q⟩, hd⟩ => ?_
  have sn := snap_ok hr r (pure_snap.1 d (pure_mem hp' hd))
  obtain ⟨as, rr⟩ := L2.Dp.reads I _ _ _ sn.dp q
  exact ⟨as, PyProof.Rows.Reads.keeps (fun b o e => k b o e) rr⟩
/-- a new list of values, sorted -/
theorem sort_run {A : PySem.Around} (I : L2.Inv X pins σ H s) {hp : Hm} (hr : HRX X ρ hp H) {vs : List Value} {ys : List LV} {xs : List D} (rv : L2.Vals ys vs) (rx : RVs X.K ρ H xs ys) (ok : sortOK xs = true) (hu : A.units + 64 < PySem.cLine) (hl : vs.length ≤ PySem.sizeLine) {P : PySem.Fin → PySem.Shared → Prop}
    (h : ∀ zs p s', H p = none → p = s.heap.objs.size → L2.Inv X pins σ (L2.upd H p (.lst zs)) s' → RVs X.K ρ H (sortD xs) zs → P (.done (.ret .none)) s') :
    PySem.wpAny (PySem.model X.prog X.w) A (PySem.Builtin.«list.sort» ⟨[.ref s.heap.objs.size], []⟩) P E { s with heap := s.heap.push (PyProof.Rows.seqObj "list" vs.toArray 0) } := by
  unfold sortOK at ok
  simp only [Bool.and_eq_true, decide_eq_true_eq] at ok
  obtain ⟨⟨⟨o1, o2⟩, o3⟩, o4⟩ := ok
  have hoL : (s.heap.push (PyProof.Rows.seqObj "list" vs.toArray 0)).get? s.heap.objs.size = some (PyProof.Rows.seqObj "list" vs.toArray 0) := PySem.Heap.get?_push_size _ rfl
  have keepS : ∀ b o, s.heap.get? b = some o → (PySem.W.sortingHeap (s.heap.push (PyProof.Rows.seqObj "list" vs.toArray 0)) s.heap.objs.size vs).get? b = some o := fun b o e =>
    PySem.W.sortingHeap_old (Nat.ne_of_lt (PySem.Heap.lt_size e)) (PySem.Heap.get?_push_of_some _ e)
  have e := each_of rx rv
  have er := reads_each I hr o1 e keepS
  have noNone : ∀ x ∈ xs, x ≠ .non := fun x hx => by
    rw [Bool.or_eq_true] at o4
    rcases o4 with o4 | o4
    · have := List.all_eq_true.mp o4 x hx; rintro rfl; simp [consTup] at this
    · have := List.all_eq_true.mp o4 x hx; rintro rfl; simp [flatD] at this
  have hal : PySem.W.AllAlike (xs.map pd) := by
    intro a ha b hb
    obtain ⟨x, hx, rfl⟩ := List.mem_map.mp ha
    obtain ⟨y, hy, rfl⟩ := List.mem_map.mp hb
    exact alike_pd x y (List.all_eq_true.mp (List.all_eq_true.mp o3 x hx) y hy)
  have hk : PySem.W.Sortable (xs.map pd) := by
    rw [Bool.or_eq_true] at o4
    rcases o4 with o4 | o4
    · refine .inl fun d hd => ?_
      obtain ⟨x, hx, rfl⟩ := List.mem_map.mp hd
      have := List.all_eq_true.mp o4 x hx
      cases x with
      | tup l => cases l with
        | nil => simp [consTup] at this
        | cons a b => exact ⟨pd a, pds b, rfl⟩
      | _ => simp [consTup] at this
    · refine .inr fun d hd => ?_
      obtain ⟨x, hx, rfl⟩ := List.mem_map.mp hd
      have := List.all_eq_true.mp o4 x hx
      cases x <;> simp_all [flatD, pd]
  have hdep : ∀ d, d ∈ xs.map pd → A.units + d.depth < PySem.cLine := fun d hd => by
    obtain ⟨x, hx, rfl⟩ := List.mem_map.mp hd
    rw [pd_depth (pure_mem o1 hx)]
    have := deps_mem hx
    omega
  refine PySem.W.list_sort_vals (s := { s with heap := s.heap.push (PyProof.Rows.seqObj "list" vs.toArray 0) }) hoL (PySem.W.SortsAt.data (PySem.W.each_map (R := fun v d => ∃ as, PySem.Reads _ v d as) pd er) hal hk hdep) hl ?_
  have out := PySem.W.sortVals_data (h' := PySem.W.sortingHeap (s.heap.push (PyProof.Rows.seqObj "list" vs.toArray 0)) s.heap.objs.size vs) false e er hal
  rw [sortD_eq] at out
  obtain ⟨zs, rz, vz⟩ := of_each out
  obtain ⟨ep, he'⟩ := PyProof.Rows.sortedHeap_at (vs := vs) (out := (PySem.W.sortVals (PySem.W.dataKind (PySem.W.sortingHeap (s.heap.push (PyProof.Rows.seqObj "list" vs.toArray 0)) s.heap.objs.size vs) (xs.map pd)) false vs vs).toArray) hoL
  have hzl : zs.length ≤ PySem.sizeLine := by
    rw [← rz.length, (sortD_perm xs).length_eq, rx.length, rv.length]; exact hl
  refine h zs s.heap.objs.size _ (I.hok.fresh (Nat.le_refl _)) rfl (I.laid (t' := s.toks) (fun b u e => ?_) (Nat.le_refl _) ⟨hzl, _, ep, vz, he'⟩) rz
  have hb : b < s.heap.objs.size := PySem.Heap.lt_size e
  rw [PyProof.Rows.sortedHeap_old (Nat.ne_of_lt hb) (by rw [PyProof.Rows.size_push']; exact Nat.lt_succ_of_lt hb)]
  exact PySem.Heap.get?_push_of_some _ e
end
end M

end
section
set_option Elab.async false
set_option linter.all false
set_option autoImplicit false
set_option maxRecDepth 100000
set_option maxHeartbeats 4000000
/-! further built-ins, methods, subscripts by values -/
namespace M
open PySem (Addr Obj Value Str PyData Heap NestedKey)
section
variable {X : L2.Cx}
theorem itemsOf_ref {hp : Hm} {i : Nat} {xs : List D} (e : itemsOf hp (.ref i) = some xs) : (∃ ds, getL hp i = some ds ∧ xs = ds) ∨ ∃ kvs, hp[i]? = some (.dct kvs) ∧ xs = kvs.map (·.1) := by
  simp only [itemsOf] at e
  split at e
  · rename_i ys h; cases e; exact .inl ⟨xs, by simp [getL, h], rfl⟩
  · rename_i ys h; cases e; exact .inl ⟨xs, by simp [getL, h], rfl⟩
  · rename_i kvs h; cases e; exact .inr ⟨kvs, h, rfl⟩
  · cases e
/-- behind the collecting -/
theorem sort_tail (hu : X.A.units + 80 < PySem.cLine) {pins : List (Addr × Obj)} {s : PySem.Shared} {σ : L2.St} {H : LHp} {Q : L2.VK} {ρ : List Addr} {hp : Hm} (I : L2.Inv X pins σ H s) (hr : HRX X ρ hp H) {vs : List Value} {ys : List LV} {xs : List D} (rv : L2.Vals ys vs) (rx : RVs X.K ρ H xs ys) (ok : sortOK xs = true) (hl : vs.length ≤ PySem.sizeLine)
    (q : PVX X ρ H Q (.ref hp.length) (hp ++ [.lst (sortD xs)])) :
    PySem.wpAny (PySem.model X.prog X.w) X.A.in1 (do
      let l ← PySem.newList vs
      let _ ← PySem.holding [l] (PySem.call (Value.builtin "list.sort") [l] [])
      PySem.ret l) (fun fin s' => ∃ v, fin = PySem.Fin.done (PySem.Flow.ret v) ∧ L2.EP X pins σ Q v s') X.xe s := by
  refine PySem.wpAny_bind (PySem.wpAny_newList ?_ hl)
  have hoL : (s.heap.push (PyProof.Rows.seqObj "list" vs.toArray 0)).get? s.heap.objs.size = some (PyProof.Rows.seqObj "list" vs.toArray 0) := PySem.Heap.get?_push_size _ rfl
  show PySem.wpAny _ _ _ _ _ { s with heap := s.heap.push (PyProof.Rows.seqObj "list" vs.toArray 0) }
  refine PySem.wpAny_bind (PySem.wpAny_holding (PySem.wpAny_call_entry PyProof.Rows.slot_list_sort ⟨_, hoL, rfl⟩ PyProof.Rows.entry_list_sort
    (sort_run I hr rv rx ok (by show X.A.units + 1 + 1 + 64 < _; omega) hl fun zs p s' hn hpe I' rz => ⟨_, rfl, ?_⟩) (PyProof.Rows.args_list_sort _)))
  subst hpe
  refine PySem.wpAny_pure ⟨_, rfl, .ref s.heap.objs.size, _, I', rfl, PV.newL q hr rz hn⟩
theorem call_sortedM (hcalm : X.calm = true) (hu : X.A.units + 80 < PySem.cLine) : L2.CallR X (.builtin "sorted") (liftA X (bltS .sorted)) := by
  intro pins s σ H vs us Q I rx h
  obtain ⟨ρ, hp, ds, r, hr, rv, e, q⟩ := h
  rcases ds with _ | ⟨d, _ | ⟨d2, ds⟩⟩ <;> try (simp [bltS] at e; done)
  cases d <;> try (simp [bltS] at e; done)
  rename_i i
  simp only [bltS, Option.bind_eq_some_iff] at e
  obtain ⟨xs, e1, e2⟩ := e
  split at e2
  case isFalse => cases e2
  rename_i ok
  obtain rfl := newC_inv e2
  obtain ⟨v, rfl, r1⟩ := rv.one_inv
  obtain ⟨a, rfl, ha⟩ := r1.ref_inv
  obtain ⟨u, rfl, ru⟩ := L2.vals1 rx
  cases ru
  refine PySem.Calls.call_function_entry PyProof.Rows.kind_sorted PyProof.Rows.plain_sorted PyProof.Rows.entry_sorted (PyProof.Rows.args_sorted1 _) ?_
  unfold PySem.Builtin.«sorted»
  refine PySem.wpAny_bind (m := PySem.checkCount "sorted" 1 1 _) (PySem.wpAny_pure ?_)
  rcases itemsOf_ref e1 with ⟨ds, e3, rfl⟩ | ⟨kvs, e3, rfl⟩
  · obtain ⟨b, ys, hb, h1, h2⟩ := hr.getL e3
    obtain rfl := ref_eq ha hb
    obtain ⟨its, rvs, pl, hz⟩ := I.list h1
    have hl : its.length ≤ PySem.sizeLine := by rw [← rvs.length]; exact hz
    refine PySem.wpAny_bind (PyProof.Rows.collect_list pl.isList ?_ hl)
    refine sort_tail hu (I.kept (t' := s.toks) fun b o e => ?_) hr rvs h2 ok hl q
    rw [PySem.Heap.get?_update_ne _ _ _ _ (Nat.ne_of_lt (PySem.Heap.lt_size e))]
    exact PySem.Heap.get?_push_of_some _ e
  · obtain ⟨n, P, OK, src, okk, hn, keys⟩ := dict_src I (hr.ok _ a _ ha e3)
    refine PySem.wpAny_bind (PySem.W.kdu_collect src (I.ok.hd hcalm) okk hn fun h' tk acc hk hacc => ?_)
    have hl2 : acc.toList.length = n := by rw [Array.length_toList]; exact hacc.1
    obtain ⟨ys, rvs, rk⟩ := keys acc.toList (fun j v e => hacc.2 j v (by rw [← Array.getElem?_toList]; exact e)) hl2
    exact sort_tail hu (I.kept (t' := tk) hk) hr rvs rk ok (by omega) q
/-! ### tuple(x), list(x) -/
theorem tup_seq {K : PySem.W.Frag} {ρ : List Addr} {H : LHp} {ds : List D} {v : LV} (h : RV K ρ H (.tup ds) v) : ∃ a xs, v = .ref a ∧ L2.SqT K H a xs ∧ RVs K ρ H ds xs := h.tup_inv
/-- a list or a tuple -/
theorem seq_arg {ρ : List Addr} {H : LHp} {hp : Hm} {d : D} {v : LV} {xs : List D} (hr : HRX X ρ hp H) (r : RV X.K ρ H d v) (e : seqOf hp d = some xs) : ∃ a ys, v = .ref a ∧ (L2.SqL X.K H a ys ∨ (d = .tup xs ∧ L2.SqT X.K H a ys)) ∧ RVs X.K ρ H xs ys := by
  cases d <;> simp only [seqOf] at e <;> first | (cases e; done) | skip
  · cases e
    obtain ⟨a, ys, rfl, h1, h2⟩ := r.tup_inv
    exact ⟨a, ys, rfl, .inr ⟨rfl, h1⟩, h2⟩
  · obtain ⟨a, rfl, ha⟩ := r.ref_inv
    obtain ⟨b, ys, hb, h1, h2⟩ := hr.getL e
    obtain rfl := ref_eq ha hb
    exact ⟨a, ys, rfl, .inl h1, h2⟩
theorem call_tupleM : L2.CallR X (.type "tuple") (liftA X (bltS .tuple)) := by
  refine CallR.imp L2.call_tuple_of fun vs H Q h => ?_
  obtain ⟨ρ, hp, ds, r, hr, rv, e, q⟩ := h
  rcases ds with _ | ⟨d, _ | ⟨d2, ds⟩⟩ <;> try (simp [bltS] at e; done)
  simp only [bltS, Option.map_eq_some_iff] at e
  obtain ⟨xs, e1, rfl⟩ := e
  obtain ⟨v, rfl, r1⟩ := rv.one_inv
  obtain ⟨a, ys, rfl, h1, h2⟩ := seq_arg hr r1 e1
  rcases h1 with h1 | ⟨rfl, h1⟩
  · exact ⟨a, ys, rfl, .inl ⟨h1, fun l hl => PV.newT q hr h2 hl⟩⟩
  · exact ⟨a, ys, rfl, .inr ⟨h1, PV.here q hr (.tup h1 h2)⟩⟩
theorem call_listM (hcalm : X.calm = true) : L2.CallR X (.type "list") (liftA X (bltS .list)) := by
  intro pins s σ H vs us Q I rx h
  obtain ⟨ρ, hp, ds, r, hr, rv, e, q⟩ := h
  rcases ds with _ | ⟨d, _ | ⟨d2, ds⟩⟩ <;> try (simp [bltS] at e; done)
  simp only [bltS, Option.bind_eq_some_iff] at e
  obtain ⟨xs, e1, e2⟩ := e
  obtain rfl := newC_inv e2
  obtain ⟨v, rfl, r1⟩ := rv.one_inv
  cases d <;> try (simp [itemsOf] at e1; done)
  · obtain ⟨a, ys, rfl, h1, h2⟩ := r1.tup_inv
    cases e1
    exact L2.call_list_of pins s σ H _ us Q I rx ⟨a, ys, rfl, .inr h1, fun l hl => PV.newL q hr h2 hl⟩
  · obtain ⟨a, rfl, ha⟩ := r1.ref_inv
    rcases itemsOf_ref e1 with ⟨ds, e3, rfl⟩ | ⟨kvs, e3, rfl⟩
    · obtain ⟨b, ys, hb, h1, h2⟩ := hr.getL e3
      obtain rfl := ref_eq ha hb
      exact L2.call_list_of pins s σ H _ us Q I rx ⟨a, ys, rfl, .inl h1, fun l hl => PV.newL q hr h2 hl⟩
    · obtain ⟨u, rfl, ru⟩ := L2.vals1 rx
      cases ru
      exact list_dict hcalm I (hr.ok _ a _ ha e3) fun ys p s' hn I' rk => ⟨.ref p, _, I', rfl, PV.newL q hr rk hn⟩

/-! ### isinstance -/
def tyName : Ty → String
  | .int => "int"
  | .bool => "bool"
  | .str => "str"
  | .tuple => "tuple"
  | .list => "list"
  | .dict => "dict"
/-- whether what is of the type n is of t -/
def isKind : Ty → String → Bool
  | .int, n => n == "int" || n == "bool"
  | .bool, n => n == "bool"
  | .str, n => n == "str"
  | .tuple, n => n == "tuple"
  | .list, n => n == "list"
  | .dict, n => n == "dict"
def kindNames : List String := ["NoneType", "bool", "int", "str", "tuple", "list", "dict"]
theorem kit_all (t : Ty) : (kindNames.all fun n => L2.kitB n (tyName t) == some (isKind t n)) = true := by
  cases t <;> decide +kernel
theorem kit_one (t : Ty) (n : String) (hn : n ∈ kindNames) : L2.kitB n (tyName t) = some (isKind t n) := by
  have := List.all_eq_true.mp (kit_all t) n hn
  exact eq_of_beq this
theorem isi_run {pins : List (Addr × Obj)} {s : PySem.Shared} {σ : L2.St} {H : LHp} {ρ : List Addr} {hp : Hm} (I : L2.Inv X pins σ H s) (hr : HRX X ρ hp H) {t : Ty} {d : D} {v : LV} {u u' : Value} {k : Bool} {Q : L2.VK} (r : RV X.K ρ H d v) (ru : L2.RelV v u) (hu' : u' = .type (tyName t)) (e : isiS hp t d = some k) (q : Q (.bl k) H) :
    PySem.wpAny (PySem.model X.prog X.w) X.A (PySem.call (.builtin "isinstance") [u, u']) (L2.EP X pins σ Q) X.xe s := by
  subst hu'
  have go : ∀ (n : String), n ∈ kindNames → L2.TyX X.K H v (.type n) → k = isKind t n → PySem.wpAny (PySem.model X.prog X.w) X.A (PySem.call (.builtin "isinstance") [u, .type (tyName t)]) (L2.EP X pins σ Q) X.xe s := fun n hn ty hk =>
    L2.call_isi pins s σ H [v, .ty (tyName t)] [u, .type (tyName t)] Q I (.cons ru (.cons rfl .nil)) ⟨v, .ty (tyName t), .type n, .type (tyName t), k, rfl, .ty _, ty, L2.kit_ty (by rw [kit_one t n hn, hk]), q⟩
  cases d <;> simp only [isiS] at e <;> first | (cases e; done) | skip
  · cases r; cases e; exact go "NoneType" (by simp [kindNames]) (.base .non) (by cases t <;> rfl)
  · cases r; cases e; exact go "bool" (by simp [kindNames]) (.base (.bl _)) (by cases t <;> rfl)
  · cases r; cases e; exact go "int" (by simp [kindNames]) (.base (.int _)) (by cases t <;> rfl)
  · obtain ⟨rfl, _⟩ := r.str_inv; cases e; exact go "str" (by simp [kindNames]) (.base (.str _)) (by cases t <;> rfl)
  · obtain ⟨a, xs, rfl, h1, h2⟩ := r.tup_inv
    cases e
    refine go "tuple" (by simp [kindNames]) ?_ (by cases t <;> rfl)
    rcases h1 with (h1 | ⟨o, h1⟩) | ⟨o, its, n, h1, h2, h3⟩
    · exact .base (.tup h1)
    · exact .fTuple h1
    · exact .kTuple h1 h2
  · obtain ⟨a, rfl, ha⟩ := r.ref_inv
    split at e
    · rename_i xs hx
      cases e
      obtain ⟨ys, e1, r1⟩ := hr.ok _ a _ ha hx
      exact go "list" (by simp [kindNames]) (.base (.lst e1)) (by cases t <;> rfl)
    · rename_i xs hx
      cases e
      obtain ⟨ys, e1, r1⟩ := hr.ok _ a _ ha hx
      refine go "list" (by simp [kindNames]) ?_ (by cases t <;> rfl)
      rcases e1 with ⟨ob, e1⟩ | ⟨o, its, n, h1, h2, h3⟩
      · exact .base (.frz e1)
      · exact .kList h1 h2
    · cases e
    · cases e
/-! ### in, <, .. -/
theorem op_inM (hu : X.A.units + 80 < PySem.cLine) : L2.OpR X (PySem.compareOp .In) (liftC X fun x y h => cmpS .isin x y h) ∧ L2.OpR X (PySem.compareOp .NotIn) (liftC X fun x y h => cmpS .notin x y h) := by
  have core : ∀ (pins : List (Addr × Obj)) (s : PySem.Shared) (σ : L2.St) (H : LHp) (v u : LV) (v' u' : Value) (ρ : List Addr) (hp : Hm) (x y : D) (k : Bool), L2.Inv X pins σ H s → L2.RelV v v' → L2.RelV u u' → HRX X ρ hp H → RV X.K ρ H x v → RV X.K ρ H y u → inS hp x y = some k → ∀ Q : Value → PySem.Shared → Prop,
      ((∀ s', L2.Inv X pins σ H s' → Q (.bool k) s') → PySem.wpAny (PySem.model X.prog X.w) X.A (PySem.compareOp .In v' u') Q X.xe s) ∧ ((∀ s', L2.Inv X pins σ H s' → Q (.bool !k) s') → PySem.wpAny (PySem.model X.prog X.w) X.A (PySem.compareOp .NotIn v' u') Q X.xe s) := by
    intro pins s σ H v u v' u' ρ hp x y k I rv ru hr rx ry e Q
    cases y <;> simp only [inS] at e <;> first | (cases e; done) | skip
    · obtain ⟨a, ys, rfl, h1, h2⟩ := ry.tup_inv
      cases ru
      have z := in_run (by omega) I hr rx h2 rv (.inr h1) e (Q := Q) (E := X.xe)
      exact ⟨fun q => z.1 (q s I), fun q => z.2 (q s I)⟩
    · obtain ⟨a, rfl, ha⟩ := ry.ref_inv
      cases ru
      split at e
      · rename_i ys hx
        obtain ⟨zs, e1, r1⟩ := hr.ok _ a _ ha hx
        have z := in_run (by omega) I hr rx r1 rv (.inl (.inl (.inl e1))) e (Q := Q) (E := X.xe)
        exact ⟨fun q => z.1 (q s I), fun q => z.2 (q s I)⟩
      · rename_i ys hx
        obtain ⟨zs, e1, r1⟩ := hr.ok _ a _ ha hx
        have sq : L2.SqL X.K H a zs := by
          rcases e1 with ⟨ob, e1⟩ | e1
          · exact .inl (.inr ⟨ob, e1⟩)
          · exact .inr e1
        have z := in_run (by omega) I hr rx r1 rv (.inl sq) e (Q := Q) (E := X.xe)
        exact ⟨fun q => z.1 (q s I), fun q => z.2 (q s I)⟩
      · rename_i kvs hx
        split at e
        · rename_i hk
          cases e
          have z := d_look (A := X.A) (E := X.xe) (by omega) I (hr.ok _ a _ ha hx) hk rx rv
          exact ⟨fun q => z.2.1 Q q, fun q => z.2.2 Q q⟩
        · cases e
      · cases e
  constructor
  · intro pins s σ H v u v' u' Q I rv ru h
    obtain ⟨ρ, hp, x, y, r, hr, rx, ry, e, q⟩ := h
    obtain ⟨k, e', rfl⟩ := Option.map_eq_some_iff.mp e
    exact (core pins s σ H v u v' u' ρ hp x y k I rv ru hr rx ry e' _).1 fun s' I' => ⟨.bl k, H, I', rfl, PV.here q hr (.bl _)⟩
  · intro pins s σ H v u v' u' Q I rv ru h
    obtain ⟨ρ, hp, x, y, r, hr, rx, ry, e, q⟩ := h
    obtain ⟨k, e', rfl⟩ := Option.map_eq_some_iff.mp e
    obtain ⟨k', e2, hk⟩ := Option.map_eq_some_iff.mp (show (inS hp x y).map not = some k from e')
    exact (core pins s σ H v u v' u' ρ hp x y k' I rv ru hr rx ry e2 _).2 fun s' I' => ⟨.bl k, H, I', by rw [← hk]; rfl, PV.here q hr (.bl _)⟩
theorem op_ltM : L2.OpR X (PySem.compareOp .Lt) (liftC X fun x y h => cmpS .lt x y h) := by
  refine OpR.imp (L2.op_lt.or L2.op_lt_str) fun v u H Q h => ?_
  obtain ⟨ρ, hp, x, y, r, hr, rx, ry, e, q⟩ := h
  obtain ⟨k, e, rfl⟩ := Option.map_eq_some_iff.mp e
  simp only [cmpS] at e
  cases x <;> cases y <;> simp only at e <;> first | (cases e; done) | skip
  · obtain rfl := rx.int_inv; obtain rfl := ry.int_inv
    cases e
    exact .inl ⟨_, _, rfl, rfl, PV.here q hr (.bl _)⟩
  · obtain ⟨rfl, _⟩ := rx.str_inv; obtain ⟨rfl, _⟩ := ry.str_inv
    cases e
    exact .inr ⟨_, _, rfl, rfl, PV.here q hr (.bl _)⟩
theorem op_leM : L2.OpR X (PySem.compareOp .LtE) (liftC X fun x y h => cmpS .le x y h) := by
  refine OpR.imp L2.op_le fun v u H Q h => ?_
  obtain ⟨ρ, hp, x, y, r, hr, rx, ry, e, q⟩ := h
  obtain ⟨k, e, rfl⟩ := Option.map_eq_some_iff.mp e
  simp only [cmpS] at e
  cases x <;> cases y <;> simp only at e <;> first | (cases e; done) | skip
  obtain rfl := rx.int_inv; obtain rfl := ry.int_inv
  cases e
  exact ⟨_, _, rfl, rfl, PV.here q hr (.bl _)⟩
theorem op_gtM : L2.OpR X (PySem.compareOp .Gt) (liftC X fun x y h => cmpS .gt x y h) := by
  refine OpR.imp L2.op_gt fun v u H Q h => ?_
  obtain ⟨ρ, hp, x, y, r, hr, rx, ry, e, q⟩ := h
  obtain ⟨k, e, rfl⟩ := Option.map_eq_some_iff.mp e
  simp only [cmpS] at e
  cases x <;> cases y <;> simp only at e <;> first | (cases e; done) | skip
  obtain rfl := rx.int_inv; obtain rfl := ry.int_inv
  cases e
  exact ⟨_, _, rfl, rfl, PV.here q hr (.bl _)⟩
theorem op_geM : L2.OpR X (PySem.compareOp .GtE) (liftC X fun x y h => cmpS .ge x y h) := by
  refine OpR.imp L2.op_ge fun v u H Q h => ?_
  obtain ⟨ρ, hp, x, y, r, hr, rx, ry, e, q⟩ := h
  obtain ⟨k, e, rfl⟩ := Option.map_eq_some_iff.mp e
  simp only [cmpS] at e
  cases x <;> cases y <;> simp only at e <;> first | (cases e; done) | skip
  obtain rfl := rx.int_inv; obtain rfl := ry.int_inv
  cases e
  exact ⟨_, _, rfl, rfl, PV.here q hr (.bl _)⟩
/-! ### truth -/
theorem tru_M {pins : List (Addr × Obj)} {s : PySem.Shared} {σ : L2.St} {H : LHp} {ρ : List Addr} {hp : Hm} (I : L2.Inv X pins σ H s) (hr : HRX X ρ hp H) {d : D} {v : LV} {u : Value} {k : Bool} {Q : Bool → LHp → Prop} (r : RV X.K ρ H d v) (ru : L2.RelV v u) (e : truth hp d = some k) (q : Q k H) :
    PySem.wpAny (PySem.model X.prog X.w) X.A (PySem.truthy u) (L2.TP X pins σ Q) X.xe s := by
  have go : L2.TruV X.K v H k → PySem.wpAny (PySem.model X.prog X.w) X.A (PySem.truthy u) (L2.TP X pins σ Q) X.xe s := fun t => L2.tru_ok pins s σ H v u Q I ru ⟨k, t, q⟩
  have emp : ∀ {ds : List D} {vs : List LV}, RVs X.K ρ H ds vs → (!ds.isEmpty) = !vs.isEmpty := fun r => by cases r <;> rfl
  cases d <;> simp only [truth] at e <;> first | (cases e; done) | skip
  · cases r; cases e; exact go rfl
  · cases r; cases e; exact go rfl
  · cases r; cases e
    refine go ?_
    show decide _ = _
    rename_i i
    by_cases h : i = 0
    · subst h; rfl
    · rw [decide_eq_true h]; exact (bne_iff_ne.mpr h).symm
  · obtain ⟨rfl, z⟩ := r.str_inv; cases e
    refine go ⟨by rw [lim_eq, str_len]; exact sOK_len z, ?_⟩
    rw [str_len]
    rename_i s0
    cases s0 with
    | nil => rfl
    | cons a b => simp; omega
  · obtain ⟨a, xs, rfl, h1, h2⟩ := r.tup_inv; cases e
    exact go (.inr (.inl ⟨xs, h1, emp h2⟩))
  · obtain ⟨a, rfl, ha⟩ := r.ref_inv
    split at e
    · rename_i xs hx
      cases e
      obtain ⟨ys, e1, r1⟩ := hr.ok _ a _ ha hx
      exact go (.inl ⟨ys, .inl (.inl e1), emp r1⟩)
    · rename_i xs hx
      cases e
      obtain ⟨ys, e1, r1⟩ := hr.ok _ a _ ha hx
      refine go (.inl ⟨ys, ?_, emp r1⟩)
      rcases e1 with ⟨ob, e1⟩ | e1
      · exact .inl (.inr ⟨ob, e1⟩)
      · exact .inr e1
    · cases e
/-! ### subscripts -/
theorem rd_idx {F : FnS} (hF : FMono F) {E : XP} {a b : CE} {S : D → D → Hm → Option D} {σ : L2.St} {H : LHp} {Q : L2.VK}
    (h : rE X (fun env h Q => wpE F E a env h fun x h1 => wpE F E b env h1 fun y h2 => ws (S x y h2) fun d => Q d h2) σ H Q) : L2.tOp (liftR X fun x y h => (S x y h).map fun d => (d, h)) (rE X (wpE F E a)) (rE X (wpE F E b)) σ H Q := by
  obtain ⟨ρ, env, hp, hr, he, h⟩ := h
  refine ⟨ρ, env, hp, hr, he, wpE_mono hF a E env hp _ _ h fun x h1 q ρ1 H1 v p1 t1 hr1 rv1 => ?_⟩
  refine ⟨ρ1, env, h1, hr1, he.mono p1 t1, wpE_mono hF b E env h1 _ _ q fun y h2 q ρ2 H2 u p2 t2 hr2 rv2 => ?_⟩
  obtain ⟨r, e, q⟩ := ws_iff.mp q
  exact ⟨ρ2, h2, x, y, (r, h2), hr2, rv1.mono p2 t2, rv2, by simp [e], PV.weak (p1.trans p2) (t1.trans t2) q⟩
theorem ixN_eq (n : Nat) (i : Int) : ixN n i = L2.ixN n i := rfl
theorem at_get {K : PySem.W.Frag} {ρ : List Addr} {H : LHp} {ds : List D} {vs : List LV} {i : Int} {d : D} (r : RVs K ρ H ds vs) (e : atI ds i = some d) : ∃ v, L2.atI vs i = some v ∧ RV K ρ H d v := by
  unfold atI at e
  obtain ⟨j, e1, e2⟩ := Option.bind_eq_some_iff.mp e
  obtain ⟨v, h1, h2⟩ := r.get e2
  refine ⟨v, ?_, h2⟩
  unfold L2.atI
  rw [← ixN_eq, ← r.length, e1]
  exact h1
theorem ix_M (hu : X.A.units + 80 < PySem.cLine) : L2.IxR X (liftR X fun x y h => (idxS x y h).map fun d => (d, h)) := by
  intro value slice pins s σ H v u v' u' Q I rv ru h hs
  obtain ⟨ρ, hp, x, y, r, hr, rx, ry, e0, q⟩ := h
  obtain ⟨d, e, hd⟩ := Option.map_eq_some_iff.mp e0
  clear e0
  subst hd
  cases x <;> simp only [idxS] at e <;> first | (cases e; done) | skip
  · cases y <;> simp only at e <;> first | (cases e; done) | skip
    obtain ⟨a, xs, rfl, h1, h2⟩ := rx.tup_inv
    obtain rfl := ry.int_inv
    obtain ⟨w, e1, rw'⟩ := at_get h2 e
    exact L2.ix_tup value slice pins s σ H _ _ v' u' Q I rv ru ⟨a, xs, _, w, rfl, rfl, h1, e1, PV.here q hr rw'⟩ hs
  · obtain ⟨a, rfl, ha⟩ := rx.ref_inv
    split at e
    · rename_i xs k hx
      obtain rfl := ry.int_inv
      obtain ⟨ys, e1, r1⟩ := hr.ok _ a _ ha hx
      obtain ⟨w, e2, rw'⟩ := at_get r1 e
      exact L2.ix_list value slice pins s σ H _ _ v' u' Q I rv ru ⟨a, ys, _, w, rfl, rfl, .inl (.inl e1), e2, PV.here q hr rw'⟩ hs
    · rename_i xs k hx
      obtain rfl := ry.int_inv
      obtain ⟨ys, e1, r1⟩ := hr.ok _ a _ ha hx
      obtain ⟨w, e2, rw'⟩ := at_get r1 e
      have sq : L2.SqL X.K H a ys := by
        rcases e1 with ⟨ob, e1⟩ | e1
        · exact .inl (.inr ⟨ob, e1⟩)
        · exact .inr e1
      exact L2.ix_list value slice pins s σ H _ _ v' u' Q I rv ru ⟨a, ys, _, w, rfl, rfl, sq, e2, PV.here q hr rw'⟩ hs
    · rename_i kvs k hx
      split at e
      · rename_i hk
        cases rv
        have hc := hr.ok _ a _ ha hx
        have ty : s.TypeIs (.ref a) "dict" := by
          rcases hc with ⟨kvs', e1, r1, z⟩ | ⟨hs, o, e1, xs, es, ep, h1, h2, h3, h4, h5, h6, h7⟩
          · obtain ⟨_, _, vs, _, dd⟩ := L2.dk_of I.hok e1
            exact dd.typeIs
          · obtain ⟨q, _, _⟩ := I.hok a _ e1
            exact ⟨o, q, h1.1⟩
        exact PyProof.Rows.tail_any ty PySem.F.slot_dict_getitem.lookup ((d_look (A := X.A) (E := X.xe) (by omega) I hc hk ry ru).1 d _ e fun vv w' s' I' rr rw' => ⟨vv, H, I', rw', PV.here q hr rr⟩) hs
      · cases e
    · cases e
theorem cut_eq {K : PySem.W.Frag} {ρ : List Addr} {H : LHp} {ds : List D} {vs : List LV} {lo hi : Option Int} (r : RVs K ρ H ds vs) : RVs K ρ H (cutL ds lo hi) (L2.cutV vs lo hi) := by
  have e : L2.cutV vs lo hi = (vs.drop (sIx vs.length 0 lo)).take (sIx vs.length vs.length hi - sIx vs.length 0 lo) := by
    unfold L2.cutV
    cases lo <;> cases hi <;> rfl
  rw [e]
  unfold cutL
  rw [← r.length]
  exact (r.drop _).take _
theorem cut_whole {ds : List D} {lo hi : Option Int} (h1 : sIx ds.length 0 lo = 0) (h2 : sIx ds.length ds.length hi = ds.length) : cutL ds lo hi = ds := by
  unfold cutL
  rw [h1, h2, List.drop_zero, Nat.sub_zero, List.take_length]
theorem sIx_eq (n d : Nat) (o : Option Int) : HT.sIx n d o = sIx n d o := by cases o <;> rfl
/-- a[lo:hi] -/
theorem sl_M : L2.SlR X (fun v lo hi H Q => ∃ ρ hp x r, HRX X ρ hp H ∧ RV X.K ρ H x v ∧ (match x with
    | .tup xs => some (.tup (cutL xs lo hi), hp)
    | .ref a => (getL hp a).bind fun xs => newC hp (.lst (cutL xs lo hi))
    | _ => none) = some r ∧ PVX X ρ H Q r.1 r.2) := by
  intro pins s σ H v v' vl vu lo hi sl Q I rv hs pl pu h
  obtain ⟨ρ, hp, x, r, hr, rx, e, q⟩ := h
  cases x <;> simp only at e <;> first | (cases e; done) | skip
  · obtain ⟨a, xs, rfl, h1, h2⟩ := rx.tup_inv
    cases e
    refine L2.sl_tupA pins s σ H _ v' vl vu lo hi sl Q I rv hs pl pu ⟨a, xs, rfl, h1, fun w => ?_, fun w p hp' => PV.newT q hr (cut_eq h2) hp'⟩
    rw [sIx_eq, sIx_eq, ← h2.length] at w
    refine PV.here q hr (.tup h1 ?_)
    rw [cut_whole w.1 w.2]
    exact h2
  · obtain ⟨a, rfl, ha⟩ := rx.ref_inv
    obtain ⟨xs, e1, e2⟩ := Option.bind_eq_some_iff.mp e
    obtain rfl := newC_inv e2
    obtain ⟨b, ys, hb, h1, h2⟩ := hr.getL e1
    obtain rfl := ref_eq ha hb
    exact L2.sl_list pins s σ H _ v' vl vu lo hi sl Q I rv hs pl pu ⟨a, ys, rfl, h1, fun p hp' => PV.newL q hr (cut_eq h2) hp'⟩
end
end M

end
section
set_option Elab.async false
set_option linter.all false
set_option autoImplicit false
set_option maxRecDepth 100000
set_option maxHeartbeats 4000000
/-! stores by index, methods -/
namespace M
open PySem (Addr Obj Value Str PyData Heap NestedKey)
section
variable {X : L2.Cx}
/-- what is wanted of the heap -/
def PH (X : L2.Cx) (ρ : List Addr) (H : LHp) (Q : LHp → Prop) : Hm → Prop := fun hp' => ∀ (H' : LHp), TK H H' → HRX X ρ hp' H' → Q H'
def liftS (X : L2.Cx) : L2.TSet := fun o i v H Q => ∃ ρ hp x y z hp', HRX X ρ hp H ∧ RV X.K ρ H x o ∧ RV X.K ρ H y i ∧ RV X.K ρ H z v ∧ setS x y z hp = some hp' ∧ PH X ρ H Q hp'
theorem ixN_lt {n : Nat} {i : Int} {j : Nat} (h : ixN n i = some j) : j < n := by
  unfold ixN at h
  split at h
  · split at h
    · cases h; omega
    · cases h
  · split at h
    · cases h; omega
    · cases h
theorem set_M (hu : X.A.units + 80 < PySem.cLine) : L2.PSet X (liftS X) := by
  intro pins s σ H o i v ov iv u Q I ro ri rv h
  obtain ⟨ρ, hp, x, y, z, hp', hr, rx, ry, rz, e, q⟩ := h
  cases x <;> simp only [setS] at e <;> first | (cases e; done) | skip
  obtain ⟨a, rfl, ha⟩ := rx.ref_inv
  split at e
  · rename_i xs k hx
    obtain ⟨j, e1, rfl⟩ := Option.map_eq_some_iff.mp e
    obtain rfl := ry.int_inv
    obtain ⟨ys, e2, r1⟩ := hr.ok _ a _ ha hx
    refine L2.set_list pins s σ H _ _ v ov iv u Q I ro ri rv ⟨a, ys, k, j, rfl, rfl, e2, by rw [← r1.length]; exact e1, ?_⟩
    have t : TK H (L2.upd H a (.lst (ys.set j v))) := TK.put e2 trivial
    exact q _ t (hr.put ha hx (fun _ z => nomatch z) e2 trivial (fun _ z => nomatch z) ⟨_, L2.upd_same, (r1.set rz j).mono (List.prefix_refl _) t⟩)
  · rename_i kvs k hx
    split at e
    · rename_i hk
      cases e
      cases ro
      have hc := hr.ok _ a _ ha hx
      obtain ⟨mu, u0, eu, cu⟩ := cell_mut hc
      refine d_put (A := X.A) (E := X.xe) (by omega) I hc hk.1 ry ri rz rv hk.2 fun s' o' I' c' => ⟨_, I', q _ (TK.put eu cu) (hr.put ha hx (fun _ z => nomatch z) eu cu (fun _ z => nomatch z) c')⟩
    · cases e
  · cases e

/-! ### methods -/
theorem MtR.imp {id : String} {r r' : LV → List LV → LHp → L2.VK → Prop} (h : L2.MtR X id r) (k : ∀ v vs H Q, r' v vs H Q → r v vs H Q) : L2.MtR X id r' := fun pins s σ H x xs v us Q I rx rxs q => h pins s σ H x xs v us Q I rx rxs (k _ _ _ _ q)
/-- a method's partial function in the layer's words -/
def liftM (X : L2.Cx) (b : Blt) : LV → List LV → LHp → L2.VK → Prop := fun v vs H Q => liftA X (bltS b) (v :: vs) H Q
/-- a changed list cell -/
theorem PV.putL {ρ : List Addr} {H : LHp} {hp : Hm} {Q : L2.VK} {i : Nat} {a : Addr} {ds : List D} {ds' : List D} {xs xs' : List LV} {d : D} {v : LV} (q : PVX X ρ H Q d (hp.set i (.lst ds'))) (hr : HRX X ρ hp H) (ha : ρ[i]? = some a) (hx : hp[i]? = some (.lst ds)) (e : H a = some (.lst xs)) (r : RVs X.K ρ H ds' xs') (rd : RV X.K ρ H d v) :
    Q v (L2.upd H a (.lst xs')) := by
  have t : TK H (L2.upd H a (.lst xs')) := TK.put e trivial
  exact q ρ _ v (List.prefix_refl _) t (hr.put ha hx (fun _ z => nomatch z) e trivial (fun _ z => nomatch z) ⟨xs', L2.upd_same, r.mono (List.prefix_refl _) t⟩) (rd.mono (List.prefix_refl _) t)
theorem getM_at {hp : Hm} {i : Nat} {ds : List D} (h : getM hp i = some ds) : hp[i]? = some (.lst ds) := by
  unfold getM at h
  split at h
  · rename_i xs e; cases h; exact e
  · cases h
theorem mt_appendM : L2.MtR X "list.append" (liftM X .append) := by
  refine MtR.imp L2.mt_append fun v vs H Q h => ?_
  obtain ⟨ρ, hp, ds, r, hr, rv, e, q⟩ := h
  rcases ds with _ | ⟨d, _ | ⟨d2, _ | ⟨d3, ds⟩⟩⟩ <;> try (simp [bltS] at e; done)
  cases d <;> try (simp [bltS] at e; done)
  simp only [bltS, Option.bind_eq_some_iff] at e
  obtain ⟨xs, e1, e2⟩ := e
  split at e2
  case isFalse => cases e2
  rename_i hl
  cases e2
  cases rv with
  | cons r1 r2 =>
    obtain ⟨y, rfl, ry⟩ := r2.one_inv
    obtain ⟨a, rfl, ha⟩ := r1.ref_inv
    obtain ⟨b, ys, hb, hx, h1, h2⟩ := hr.getM e1
    obtain rfl := ref_eq ha hb
    exact ⟨a, ys, y, rfl, rfl, h1, by rw [lim_eq, ← h2.length]; exact hl, PV.putL q hr ha hx h1 (h2.append (.cons ry .nil)) .non⟩
theorem mt_extendM : L2.MtR X "list.extend" (liftM X .extend) := by
  refine MtR.imp L2.mt_extend fun v vs H Q h => ?_
  obtain ⟨ρ, hp, ds, r, hr, rv, e, q⟩ := h
  rcases ds with _ | ⟨d, _ | ⟨d2, _ | ⟨d3, ds⟩⟩⟩ <;> try (simp [bltS] at e; done)
  cases d <;> try (simp [bltS] at e; done)
  cases d2 <;> try (simp [bltS] at e; done)
  simp only [bltS, Option.bind_eq_some_iff] at e
  obtain ⟨xs, e1, zs, e3, e2⟩ := e
  split at e2
  case isFalse => cases e2
  rename_i hl
  cases e2
  cases rv with
  | cons r1 r2 =>
    obtain ⟨y, rfl, ry⟩ := r2.one_inv
    obtain ⟨a, rfl, ha⟩ := r1.ref_inv
    obtain ⟨c, rfl, hc⟩ := ry.ref_inv
    obtain ⟨b, ys, hb, hx, h1, h2⟩ := hr.getM e1
    obtain rfl := ref_eq ha hb
    obtain ⟨b', ws, hb', hx', h1', h2'⟩ := hr.getM e3
    obtain rfl := ref_eq hc hb'
    exact ⟨a, c, ys, ws, rfl, rfl, h1, h1', by rw [lim_eq, ← h2.length, ← h2'.length]; exact hl.1, PV.putL q hr ha hx h1 (h2.append h2') .non⟩
theorem mt_pop0M : L2.MtR X "list.pop" (liftM X .pop0) := by
  refine MtR.imp L2.mt_pop fun v vs H Q h => ?_
  obtain ⟨ρ, hp, ds, r, hr, rv, e, q⟩ := h
  rcases ds with _ | ⟨d, _ | ⟨d2, ds⟩⟩ <;> try (simp [bltS] at e; done)
  · cases d <;> try (simp [bltS] at e; done)
    simp only [bltS, Option.bind_eq_some_iff, Option.map_eq_some_iff] at e
    obtain ⟨xs, e1, x, e2, rfl⟩ := e
    cases rv with
    | cons r1 r2 =>
      cases r2
      obtain ⟨a, rfl, ha⟩ := r1.ref_inv
      obtain ⟨b, ys, hb, hx, h1, h2⟩ := hr.getM e1
      obtain rfl := ref_eq ha hb
      rw [List.getLast?_eq_getElem?] at e2
      obtain ⟨y, hy, ry⟩ := h2.get e2
      exact ⟨a, ys, y, rfl, rfl, h1, by rw [← h2.length]; exact hy, PV.putL q hr ha hx h1 h2.dropLast ry⟩
theorem small_le {i : Int} (h : small i = true) : -1000000 ≤ i ∧ i ≤ 1000000 := by
  unfold small at h
  rw [Bool.and_eq_true, decide_eq_true_eq, decide_eq_true_eq] at h
  exact h
theorem ixN_seq {n : Nat} {i : Int} {k : Nat} (h : ixN n i = some k) : PySem.seqIndex? i n = some k := by
  unfold ixN at h
  unfold PySem.seqIndex?
  by_cases h0 : 0 ≤ i
  · rw [if_pos h0] at h
    by_cases h1 : i < n
    · rw [if_pos h1] at h
      cases h
      simp
      omega
    · rw [if_neg h1] at h; cases h
  · rw [if_neg h0] at h
    by_cases h1 : -(n : Int) ≤ i
    · rw [if_pos h1] at h
      cases h
      simp
      omega
    · rw [if_neg h1] at h; cases h
theorem mt_popIM : L2.MtR X "list.pop" (liftM X .popI) := by
  refine MtR.imp L2.mt_popAt fun v vs H Q h => ?_
  obtain ⟨ρ, hp, ds, r, hr, rv, e, q⟩ := h
  rcases ds with _ | ⟨d, _ | ⟨d2, _ | ⟨d3, ds⟩⟩⟩ <;> try (simp [bltS] at e; done)
  cases d <;> try (simp [bltS] at e; done)
  cases d2 <;> try (simp [bltS] at e; done)
  simp only [bltS] at e
  split at e
  case isFalse => cases e
  rename_i hs
  have hs := small_le hs
  simp only [Option.bind_eq_some_iff, Option.map_eq_some_iff] at e
  obtain ⟨xs, e1, k, e3, x, e2, rfl⟩ := e
  cases rv with
  | cons r1 r2 =>
    obtain ⟨y, rfl, ry⟩ := r2.one_inv
    obtain rfl := ry.int_inv
    obtain ⟨a, rfl, ha⟩ := r1.ref_inv
    obtain ⟨b, ys, hb, hx, h1, h2⟩ := hr.getM e1
    obtain rfl := ref_eq ha hb
    obtain ⟨y, hy, ry⟩ := h2.get e2
    refine ⟨a, ys, _, k, y, rfl, rfl, h1, by omega, by omega, ?_, hy, PV.putL q hr ha hx h1 (h2.eraseIdx k) ry⟩
    rw [← h2.length]
    exact ixN_seq e3
theorem mt_insertM : L2.MtR X "list.insert" (liftM X .insert) := by
  refine MtR.imp L2.mt_insert fun v vs H Q h => ?_
  obtain ⟨ρ, hp, ds, r, hr, rv, e, q⟩ := h
  rcases ds with _ | ⟨d, _ | ⟨d2, _ | ⟨d3, _ | ⟨d4, ds⟩⟩⟩⟩ <;> try (simp [bltS] at e; done)
  cases d <;> try (simp [bltS] at e; done)
  cases d2 <;> try (simp [bltS] at e; done)
  simp only [bltS, Option.bind_eq_some_iff] at e
  obtain ⟨xs, e1, e2⟩ := e
  split at e2
  case isFalse => cases e2
  rename_i hl
  cases e2
  cases rv with
  | cons r1 r2 =>
    obtain ⟨y, z, rfl, ry, rz⟩ := r2.two_inv
    obtain rfl := ry.int_inv
    obtain ⟨a, rfl, ha⟩ := r1.ref_inv
    obtain ⟨b, ys, hb, hx, h1, h2⟩ := hr.getM e1
    obtain rfl := ref_eq ha hb
    have hlim : LIM = 16777216 := rfl
    refine ⟨a, ys, _, z, rfl, rfl, h1, by rw [lim_eq, ← h2.length]; exact hl.1, hl.2.1, by omega, ?_⟩
    rw [List.append_assoc]
    exact PV.putL q hr ha hx h1 ((h2.take _).append (.cons rz (h2.drop _))) .non
end
end M

end
section
set_option Elab.async false
set_option linter.all false
set_option autoImplicit false
set_option maxRecDepth 100000
set_option maxHeartbeats 4000000
/-! calls of methods -/
namespace M
open PySem (Addr Obj Value Str PyData Heap NestedKey Expr)
/-! ### plain rows of arguments -/
def plainE : Expr → Bool
  | .Starred _ _ => false
  | _ => true
theorem star_plain {e : Expr} {es : List Expr} {env : PySem.Env} (h : plainE e = true) : PySem.starEach (e :: es) env = (false, PySem.eval e env) :: PySem.starEach es env := by
  cases e <;> first | rfl | exact Bool.noConfusion h
theorem stars_plain {env : PySem.Env} : ∀ {es : List Expr}, es.all plainE = true → PySem.starEach es env = es.map fun e => (false, PySem.eval e env)
  | [], _ => rfl
  | e :: es, h => by
    rw [List.all_cons, Bool.and_eq_true] at h
    rw [star_plain h.1, stars_plain h.2, List.map_cons]
theorem back_plain {env : PySem.Env} {pos : PySem.Pos} {es : List Expr} (h : es.all plainE = true) : PySem.backTo pos (PySem.starEach es env) = es.map fun e => (false, PySem.eval e env) := by
  rw [stars_plain h, PySem.backTo, List.map_map]
  rfl
theorem any_plain {env : PySem.Env} {pos : PySem.Pos} {es : List Expr} (h : es.all plainE = true) : (PySem.backTo pos (PySem.starEach es env)).any (·.1) = false := by
  rw [back_plain h, List.any_map]
  induction es with
  | nil => rfl
  | cons e es ih => rw [List.all_cons, Bool.and_eq_true] at h; simp [ih h.2]
theorem all_plain {env : PySem.Env} {pos : PySem.Pos} {es : List Expr} (h : es.all plainE = true) : (PySem.backTo pos (PySem.starEach es env)).all (fun x => !x.1) = true := by
  rw [back_plain h, List.all_map]
  induction es with
  | nil => rfl
  | cons e es ih => rw [List.all_cons, Bool.and_eq_true] at h; simp [ih h.2]
/-- no call super() -/
def baseE : Expr → Bool
  | .Call (.Name _ _) [] [] _ => false
  | _ => true
theorem base_of {o : Expr} {name : Str} {env : PySem.Env} {whole : PySem.Sem Value} (h : baseE o = true) : PySem.attributeBase o name env whole = whole := by
  unfold PySem.attributeBase
  split
  · exact Bool.noConfusion h
  · rfl

section
variable {X : L2.Cx}
theorem getK_at {hp : Hm} {i : Nat} {ds : List (D × D)} (h : getK hp i = some ds) : hp[i]? = some (.dct ds) := by
  unfold getK at h
  split at h
  · rename_i xs e; cases h; exact e
  · cases h
theorem findIdx_pds (a : D) : ∀ (bs : List D) (k : Nat), (bs.findIdx? fun b => eqD b a) = some k → ∃ z, (pds bs)[k]? = some z ∧ PyData.eqv z (pd a) = true ∧ ∀ (m : Nat) (z' : PyData), m < k → (pds bs)[m]? = some z' → PyData.eqv z' (pd a) = false
  | [], k, h => by simp at h
  | b :: bs, k, h => by
    rw [List.findIdx?_cons] at h
    split at h
    · rename_i hb
      cases h
      exact ⟨pd b, rfl, by rw [← eqD_pd]; exact hb, fun m z' hm => absurd hm (Nat.not_lt_zero m)⟩
    · rename_i hb
      obtain ⟨j, hj, rfl⟩ := Option.map_eq_some_iff.mp h
      obtain ⟨z, h1, h2, h3⟩ := findIdx_pds a bs j hj
      refine ⟨z, by simpa [pds] using h1, h2, fun m z' hm hz => ?_⟩
      cases m with
      | zero =>
        simp [pds] at hz
        subst hz
        rw [← eqD_pd]
        simpa using hb
      | succ m => exact h3 m z' (by omega) (by simpa [pds] using hz)
theorem shaped_of {d : PyData} (h1 : d.canLay0 = true) (h2 : d.depth ≤ 61) : PySem.SeqAt.shaped d = true := by
  unfold PySem.SeqAt.shaped
  rw [Bool.and_eq_true, decide_eq_true_eq]
  exact ⟨h1, by omega⟩
theorem mt_indexM (hu : X.A.units + 65 < PySem.cLine) : L2.MtR X "list.index" (liftM X .index) := by
  refine MtR.imp (L2.mt_indexD hu) fun v vs H Q h => ?_
  obtain ⟨ρ, hp, ds, r, hr, rv, e, q⟩ := h
  rcases ds with _ | ⟨d, _ | ⟨d2, _ | ⟨d3, ds⟩⟩⟩ <;> try (simp [bltS] at e; done)
  simp only [bltS, Option.bind_eq_some_iff, Option.map_eq_some_iff] at e
  obtain ⟨xs, e1, k, e2, rfl⟩ := e
  cases rv with
  | cons r1 r2 =>
    obtain ⟨y, rfl, ry⟩ := r2.one_inv
    obtain ⟨a, ys, rfl, sq, rys⟩ := lst_arg hr r1 e1
    unfold indexEq at e2
    split at e2
    · rename_i da dbs ea eb
      split at e2
      · rename_i hd
        have qa := snap_ok hr ry ea
        have qb := snapDs_ok (snapN_ok hr 6) xs dbs ys rys eb
        obtain ⟨z, h1, h2, h3⟩ := findIdx_pds da dbs k e2
        exact ⟨a, y, pd da, pds dbs, k, z, rfl, rfl, .lst sq qb.dp, qa.dp,
          shaped_of qb.lay (by show PyData.depthAll (pds dbs) + 1 ≤ 61; rw [← qb.dep]; omega), shaped_of qa.lay (by rw [← qa.dep]; omega), h1, h2, h3, PV.here q hr (.int _)⟩
      · cases e2
    · cases e2
theorem mt_setdM (hu : X.A.units + 80 < PySem.cLine) : L2.MtR X "dict.setdefault" (liftM X .setdefault) := by
  intro pins s σ H v vs v' us Q I rv' rvs' h
  obtain ⟨ρ, hp, ds, r, hr, rv, e, q⟩ := h
  rcases ds with _ | ⟨d, _ | ⟨d2, _ | ⟨d3, _ | ⟨d4, ds⟩⟩⟩⟩ <;> try (simp [bltS] at e; done)
  cases d <;> try (simp [bltS] at e; done)
  simp only [bltS, Option.bind_eq_some_iff] at e
  obtain ⟨kvs, e1, e2⟩ := e
  split at e2
  case isFalse => cases e2
  rename_i hk
  cases rv with
  | cons r1 r2 =>
    obtain ⟨y, z, rfl, ry, rz⟩ := r2.two_inv
    obtain ⟨a, rfl, ha⟩ := r1.ref_inv
    have hx := getK_at e1
    have hc := hr.ok _ a _ ha hx
    cases rv'
    obtain ⟨u1, u2, rfl, s1, s2⟩ := rvs'.two
    refine d_setdef (A := X.A) (E := X.xe) (by omega) I hc hk.1 ry s1 rz s2 hk.2 (fun x hx' vv w' s' I' rr rw' => ?_) fun hn w' s' o' I' rw' c' => ?_
    · rw [hx'] at e2
      cases e2
      exact ⟨vv, H, I', rw', PV.here q hr rr⟩
    · rw [hn] at e2
      cases e2
      obtain ⟨mu, u0, eu, cu⟩ := cell_mut hc
      have t : TK H (L2.upd H a o') := TK.put eu cu
      exact ⟨_, _, I', rw', q ρ _ _ (List.prefix_refl _) t (hr.put ha hx (fun _ z => nomatch z) eu cu (fun _ z => nomatch z) c') (rz.mono (List.prefix_refl _) t)⟩
theorem mt_getM (hu : X.A.units + 80 < PySem.cLine) : L2.MtR X "dict.get" (liftM X .get2) := by
  intro pins s σ H v vs v' us Q I rv' rvs' h
  obtain ⟨ρ, hp, ds, r, hr, rv, e, q⟩ := h
  rcases ds with _ | ⟨d, _ | ⟨d2, _ | ⟨d3, _ | ⟨d4, ds⟩⟩⟩⟩ <;> try (simp [bltS] at e; done)
  cases d <;> try (simp [bltS] at e; done)
  simp only [bltS, Option.bind_eq_some_iff] at e
  obtain ⟨kvs, e1, e2⟩ := e
  split at e2
  case isFalse => cases e2
  rename_i hk
  cases e2
  cases rv with
  | cons r1 r2 =>
    obtain ⟨y, z, rfl, ry, rz⟩ := r2.two_inv
    obtain ⟨a, rfl, ha⟩ := r1.ref_inv
    have hx := getK_at e1
    have hc := hr.ok _ a _ ha hx
    cases rv'
    obtain ⟨u1, u2, rfl, s1, s2⟩ := rvs'.two
    refine d_get2M (A := X.A) (E := X.xe) (by omega) I hc hk ry s1 rz s2 fun vv w' s' I' rr rw' => ?_
    exact ⟨vv, H, I', rw', PV.here q hr rr⟩

/-! ### o.m(..) -/
def isDM : Blt → Bool
  | .setdefault => true
  | .get2 => true
  | _ => false
theorem recv_ty {pins : List (Addr × Obj)} {s : PySem.Shared} {σ : L2.St} {H : LHp} {ρ : List Addr} {hp : Hm} (I : L2.Inv X pins σ H s) (hr : HRX X ρ hp H) {b : Blt} {d : D} {v : LV} {u : Value} (rx : RV X.K ρ H d v) (ru : L2.RelV v u) (h : recvOK b d hp = true) :
    s.TypeIs u (if isDM b = true then "dict" else "list") ∧ ∀ a, u = .ref a → ∃ ob, s.heap.get? a = some ob ∧ ob.dict = none := by
  have hl : ∀ i, d = .ref i → (getL hp i).isSome = true → s.TypeIs u "list" ∧ ∀ a, u = .ref a → ∃ ob, s.heap.get? a = some ob ∧ ob.dict = none := fun i hi hh => by
    subst hi
    obtain ⟨ds, hds⟩ := Option.isSome_iff_exists.mp hh
    obtain ⟨a, rfl, ha⟩ := rx.ref_inv
    obtain ⟨a', xs, ha', sq, _⟩ := hr.getL hds
    obtain rfl := ref_eq ha ha'
    exact L2.tyV_is I ru (.inl ⟨rfl, xs, sq⟩)
  have hd : ∀ i, d = .ref i → (getK hp i).isSome = true → s.TypeIs u "dict" ∧ ∀ a, u = .ref a → ∃ ob, s.heap.get? a = some ob ∧ ob.dict = none := fun i hi hh => by
    subst hi
    obtain ⟨ds, hds⟩ := Option.isSome_iff_exists.mp hh
    obtain ⟨a, rfl, ha⟩ := rx.ref_inv
    have hc := hr.ok _ a _ ha (getK_at hds)
    cases ru
    rcases hc with ⟨kvs', e1, r1, z⟩ | ⟨hs, o, e1, xs, es, ep, h1, h2, h3, h4, h5, h6, h7⟩
    · exact L2.tyV_is I (v := .ref a) (x := .ref a) rfl (.inr (.inr (.inl ⟨rfl, .inl ⟨_, e1⟩⟩)))
    · obtain ⟨q, _, _⟩ := I.hok a _ e1
      exact ⟨⟨o, q, h1.1⟩, fun b e => by cases e; exact ⟨o, q, h1.2.1⟩⟩
  cases d with
  | ref i => cases b <;> first | exact hl i rfl h | exact hd i rfl h | exact Bool.noConfusion h
  | _ => cases b <;> exact Bool.noConfusion h
theorem pe_methM {F : FnS} (hF : FMono F) {E : XP} {o : Expr} {es : List Expr} {c : CE} {cs : List CE} {name : Str} {apos cpos : PySem.Pos} {T id : String} {b : Blt} (hT : T = if isDM b = true then "dict" else "list")
    (pa : PySem.PlainAttrs T) (slot : PySem.Slot T name id) (hty : PySem.typeOf (.builtin id) = pure (.type "method_descriptor")) (hm : L2.MtR X id (liftM X b)) (ho : L2.PE X o (rE X (wpE F E c))) (ha : L2.PA X es (rA X (wpEs F E cs)))
    (hb : baseE o = true) (hl : (apos.endLine == cpos.line) = true) (hp : es.all plainE = true) (hn : es.length < 30) (hz : es = [] → cs = []) : L2.PE X (.Call (.Attribute o name apos) es [] cpos) (rE X (wpE F E (.meth b c cs))) := by
  refine ⟨fun pins s σ H Q I h => ?_⟩
  obtain ⟨ρ, env, hp0, hr, he, h⟩ := h
  unfold wpE at h
  refine PySem.wpAny_Call_method_late (base_of hb) ?_ hl rfl (L2.thn (ho.run pins s σ H (fun x H1 => ∃ ρ1 h1 d, HRX X ρ1 h1 H1 ∧ EnvR X.K ρ1 H1 env σ ∧ RV X.K ρ1 H1 d x ∧ recvOK b d h1 = true ∧ wpEs F E cs env h1 (fun ds h2 => ws (bltS b (d :: ds) h2) fun r => PVX X ρ1 H1 Q r.1 r.2)) I
    ⟨ρ, env, hp0, hr, he, wpE_mono hF c E env hp0 _ _ h fun d h1 q ρ1 H1 v p1 t1 hr1 rv1 => ⟨ρ1, h1, d, hr1, he.mono p1 t1, rv1, q.1, wpEs_mono hF cs E env h1 _ _ q.2 fun ds h2 q => ws_mono q fun r q => PV.weak p1 t1 q⟩⟩) ?_)
  · rw [all_plain hp]
    show (true && true && decide (es.length + 0 + 0 < 30)) = true
    simp [hn]
  · intro v s1 ⟨x, H1, I1, r1, ρ1, h1, d, hr1, he1, rd, ok, q⟩
    obtain ⟨ty1, ty2⟩ := recv_ty I1 hr1 rd r1 ok
    rw [← hT] at ty1
    have hA := ha.run cpos pins s1 σ H1 (fun vs H2 => liftM X b x vs H2 Q) I1 ⟨ρ1, env, h1, hr1, he1, wpEs_mono hF cs E env h1 _ _ q fun ds h2 q ρ2 H2 vs p2 t2 hr2 rv2 => by
      obtain ⟨r, e, q⟩ := ws_iff.mp q
      exact ⟨ρ2, h2, d :: ds, r, hr2, .cons (rd.mono p2 t2) rv2, e, PV.weak p2 t2 q⟩⟩
    refine ⟨T, id, pa, slot, hty, ty1, ty2, ?_⟩
    refine PySem.Calls.callWith_builtin (any_plain hp) ?_
    cases es with
    | nil =>
      refine PySem.evalArgs_none ?_
      obtain rfl := hz rfl
      unfold wpEs at q
      obtain ⟨r, e, q⟩ := ws_iff.mp q
      exact hm pins s1 σ H1 x [] v [] Q I1 r1 .nil ⟨ρ1, h1, [d], r, hr1, .cons rd .nil, e, q⟩
    | cons e es =>
      rw [List.all_cons, Bool.and_eq_true] at hp
      rw [star_plain hp.1] at hA ⊢
      exact PySem.Calls.evalArgs_plain (L2.thn hA fun us s2 ⟨vs, H2, I2, r2, q2⟩ => hm pins s2 σ H2 x vs v us Q I2 r1 r2 q2)
end
end M

end
section
set_option Elab.async false
set_option linter.all false
set_option autoImplicit false
set_option maxRecDepth 100000
set_option maxHeartbeats 4000000
/-! dict(..) of a list of pairs -/
namespace M
open PySem (Addr Obj Value Str PyData Heap NestedKey NestedIs Expr)
section
variable {X : L2.Cx} {K : PySem.W.Frag} {ρ : List Addr} {H : LHp}
theorem keyIn_leaf {kvs : List (D × D)} {k : D} (h : keyIn kvs k = true) (ht : isTup k = false) : ∃ kk, leafKey k = some kk := by
  unfold keyIn at h
  have := (Bool.and_eq_true_iff.mp h).1
  cases k <;> first | exact ⟨_, rfl⟩ | exact Bool.noConfusion this | exact Bool.noConfusion ht
theorem leaf_rvK {k : D} {kk : L2.Key} {kv : LV} (h : leafKey k = some kk) (r : RV K ρ H k kv) : kv = L2.kV kk := by
  cases k <;> simp only [leafKey] at h <;> first | (cases h; done) | skip
  · cases h; exact r.int_inv
  · cases h; exact r.str_inv.1
/-- the pairs of a list, in the layer's words -/
theorem pairs_inv : ∀ {ds : List D} {prs : List (D × D)} {vs : List LV}, pairsOf ds = some prs → RVs K ρ H ds vs → (∀ p ∈ prs, ∃ kk, leafKey p.1 = some kk) →
    ∃ (as : List Addr) (kvs : List (L2.Key × LV)), vs = as.map L2.V.ref ∧ PySem.Paired (fun p kv => L2.SqT K H p [L2.kV kv.1, kv.2]) as kvs ∧ LK K ρ H prs kvs
  | [], prs, vs, h, r, _ => by
    cases h
    cases r
    exact ⟨[], [], rfl, .nil, .nil⟩
  | .tup [k, v] :: ds, prs, vs, h, r, hl => by
    simp only [pairsOf, Option.map_eq_some_iff] at h
    obtain ⟨prs', h1, rfl⟩ := h
    cases r with
    | cons r1 r2 =>
      obtain ⟨as, kvs, rfl, q1, q2⟩ := pairs_inv h1 r2 fun p hp => hl p (List.mem_cons_of_mem _ hp)
      obtain ⟨a, xs, rfl, sq, rx⟩ := r1.tup_inv
      obtain ⟨x, y, rfl, rk, rv⟩ := rx.two_inv
      obtain ⟨kk, hk⟩ := hl (k, v) List.mem_cons_self
      obtain rfl := leaf_rvK hk rk
      exact ⟨a :: as, (kk, y) :: kvs, rfl, .cons sq q1, .cons hk rk rv q2⟩
  | .tup [] :: _, _, _, h, _, _ => by simp [pairsOf] at h
  | .tup [_] :: _, _, _, h, _, _ => by simp [pairsOf] at h
  | .tup (_ :: _ :: _ :: _) :: _, _, _, h, _, _ => by simp [pairsOf] at h
  | .non :: _, _, _, h, _, _ => by simp [pairsOf] at h
  | .bl _ :: _, _, _, h, _, _ => by simp [pairsOf] at h
  | .int _ :: _, _, _, h, _, _ => by simp [pairsOf] at h
  | .str _ :: _, _, _, h, _, _ => by simp [pairsOf] at h
  | .lst _ :: _, _, _, h, _, _ => by simp [pairsOf] at h
  | .ref _ :: _, _, _, h, _, _ => by simp [pairsOf] at h
theorem merge_inv : ∀ {prs kvs kvs2 : List (D × D)} {ps kvs' : List (L2.Key × LV)}, mergeK kvs prs = some kvs2 → LK K ρ H prs ps → LK K ρ H kvs kvs' → LK K ρ H kvs2 (L2.mergeK kvs' ps) ∧ kvs2.length ≤ kvs.length + prs.length
  | [], kvs, kvs2, ps, kvs', h, r, q => by
    simp only [mergeK] at h
    cases h
    cases r
    exact ⟨q, by simp⟩
  | (k, v) :: prs, kvs, kvs2, ps, kvs', h, r, q => by
    simp only [mergeK] at h
    split at h
    · cases r with
      | cons hk rk rv r2 =>
        obtain ⟨a, b⟩ := merge_inv h r2 (q.put hk rk rv)
        refine ⟨a, ?_⟩
        have := dput_length kvs k v
        rw [List.length_cons]
        omega
    · cases h
theorem call_dictLeaf (hcalm : X.calm = true) {pins : List (Addr × Obj)} {s : PySem.Shared} {σ : L2.St} {us : List Value} {H : LHp} {Q : L2.VK} {hp : Hm} {d : D} {v : LV} {xs : List D} {prs kvs : List (D × D)} (I : L2.Inv X pins σ H s) (rx : L2.Vals [v] us) (hr : HRX X ρ hp H) (r1 : RV X.K ρ H d v) (e1 : lstOf hp d = some xs) (e2 : pairsOf xs = some prs) (hall : (prs.all fun p => leafB p.1) = true) (hlen : prs.length ≤ LIM) (e4 : mergeK [] prs = some kvs) (q : PVX X ρ H Q (.ref hp.length) (hp ++ [.dct kvs])) :
    PySem.wpAny (PySem.model X.prog X.w) X.A (PySem.call (.type "dict") us) (L2.EP X pins σ Q) X.xe s := by
  obtain ⟨a, ys, rfl, sq, rys⟩ := lst_arg hr r1 e1
  have hleaf : ∀ p ∈ prs, ∃ kk, leafKey p.1 = some kk := fun p hp => by
    have := List.all_eq_true.mp hall p hp
    unfold leafB at this
    cases hk : p.1 <;> rw [hk] at this <;> first | exact ⟨_, rfl⟩ | exact Bool.noConfusion this
  obtain ⟨as, kvs', rfl, q1, q2⟩ := pairs_inv e2 rys hleaf
  obtain ⟨m1, m2⟩ := merge_inv e4 q2 .nil
  refine L2.call_dictP hcalm pins s σ H _ us Q I rx ⟨a, as, kvs', rfl, sq, q1, fun p hp' => ?_⟩
  have t : TK H (L2.upd H p (.dK (L2.mergeK [] kvs'))) := TK.new hp'
  have c : CellOk X.prog X.w X.K (ρ ++ [p]) (L2.upd H p (.dK (L2.mergeK [] kvs'))) p (.dct kvs) := .inl ⟨_, L2.upd_same, m1.mono (pre_snoc _ _) t, by simp at m2; omega⟩
  have hr' := hr.alloc hp' c fun _ z => nomatch z
  exact q (ρ ++ [p]) _ _ (pre_snoc _ _) t hr' (.ref (by rw [← hr.len]; simp))
/-! ### keys that are tuples -/
/-- a pair of the list: its tuple, its key, the key's tuple, its value -/
def PairT (X : L2.Cx) (ρ : List Addr) (H : LHp) (s : PySem.Shared) (p : D × D) (t : Addr × NestedKey × Addr × Value) : Prop :=
  ∃ ks vv, p.1 = .tup ks ∧ t.2.1 = nkey (.tup ks) ∧ keyOK (.tup ks) = true ∧ RV X.K ρ H (.tup ks) (.ref t.2.2.1) ∧ RV X.K ρ H p.2 vv ∧ L2.RelV vv t.2.2.2 ∧ s.heap.IsTuple t.1 #[.ref t.2.2.1, t.2.2.2]
inductive PairsT (X : L2.Cx) (ρ : List Addr) (H : LHp) (s : PySem.Shared) : List (D × D) → List (Addr × NestedKey × Addr × Value) → Prop
  | nil : PairsT X ρ H s [] []
  | cons {p : D × D} {t : Addr × NestedKey × Addr × Value} {ps : List (D × D)} {ts : List (Addr × NestedKey × Addr × Value)} : PairT X ρ H s p t → PairsT X ρ H s ps ts → PairsT X ρ H s (p :: ps) (t :: ts)
theorem PairsT.length {s : PySem.Shared} : ∀ {ps : List (D × D)} {ts : List (Addr × NestedKey × Addr × Value)}, PairsT X ρ H s ps ts → ts.length = ps.length
  | _, _, .nil => rfl
  | _, _, .cons _ r => congrArg (· + 1) r.length
theorem PairsT.mem {s : PySem.Shared} : ∀ {ps : List (D × D)} {ts : List (Addr × NestedKey × Addr × Value)}, PairsT X ρ H s ps ts → ∀ t ∈ ts, ∃ p, PairT X ρ H s p t
  | _, _, .nil, _, h => nomatch h
  | _, _, .cons a r, t, h => by
    rcases List.mem_cons.mp h with rfl | h
    · exact ⟨_, a⟩
    · exact r.mem t h
theorem pairsT {pins : List (Addr × Obj)} {s : PySem.Shared} {σ : L2.St} (I : L2.Inv X pins σ H s) : ∀ {ds : List D} {prs : List (D × D)} {vs : List LV} {us : List Value}, pairsOf ds = some prs → RVs X.K ρ H ds vs → L2.Vals vs us → (∀ p ∈ prs, isTup p.1 = true ∧ keyOK p.1 = true) →
    ∃ ts : List (Addr × NestedKey × Addr × Value), us = ts.map (fun t => Value.ref t.1) ∧ PairsT X ρ H s prs ts
  | [], prs, vs, us, h, r, ru, _ => by
    cases h
    cases r
    cases ru
    exact ⟨[], rfl, .nil⟩
  | .tup [k, v] :: ds, prs, vs, us, h, r, ru, hl => by
    simp only [pairsOf, Option.map_eq_some_iff] at h
    obtain ⟨prs', h1, rfl⟩ := h
    cases r with
    | cons r1 r2 =>
      cases ru with
      | cons u1 u2 =>
        obtain ⟨ts, rfl, q1⟩ := pairsT I h1 r2 u2 fun p hp => hl p (List.mem_cons_of_mem _ hp)
        obtain ⟨a, xs, rfl, sq, rx⟩ := r1.tup_inv
        obtain ⟨x, y, rfl, rk, rv⟩ := rx.two_inv
        cases u1
        obtain ⟨hk1, hk2⟩ := hl (k, v) List.mem_cons_self
        cases k <;> simp only [isTup] at hk1 <;> first | exact Bool.noConfusion hk1 | skip
        rename_i ks
        obtain ⟨b, ys, rfl, _, _⟩ := id rk.tup_inv
        obtain ⟨its, ri, pl, hz⟩ := I.tuple sq
        cases ri with
        | cons i1 i2 =>
          cases i2 with
          | cons i3 i4 =>
            cases i4
            cases i1
            exact ⟨(a, nkey (.tup ks), b, _) :: ts, rfl, .cons ⟨ks, y, rfl, rfl, hk2, rk, rv, i3, pl⟩ q1⟩
  | .tup [] :: _, _, _, _, h, _, _, _ => by simp [pairsOf] at h
  | .tup [_] :: _, _, _, _, h, _, _, _ => by simp [pairsOf] at h
  | .tup (_ :: _ :: _ :: _) :: _, _, _, _, h, _, _, _ => by simp [pairsOf] at h
  | .non :: _, _, _, _, h, _, _, _ => by simp [pairsOf] at h
  | .bl _ :: _, _, _, _, h, _, _, _ => by simp [pairsOf] at h
  | .int _ :: _, _, _, _, h, _, _, _ => by simp [pairsOf] at h
  | .str _ :: _, _, _, _, h, _, _, _ => by simp [pairsOf] at h
  | .lst _ :: _, _, _, _, h, _, _, _ => by simp [pairsOf] at h
  | .ref _ :: _, _, _, _, h, _, _, _ => by simp [pairsOf] at h
theorem merge_keyOK : ∀ {prs kvs r : List (D × D)}, mergeK kvs prs = some r → ∀ p ∈ prs, keyOK p.1 = true
  | [], _, _, _, _, hp => nomatch hp
  | (k, v) :: prs, kvs, r, h, p, hp => by
    simp only [mergeK] at h
    split at h
    · rename_i hk
      rcases List.mem_cons.mp hp with rfl | hp
      · unfold keyIn at hk; exact (Bool.and_eq_true_iff.mp hk).1
      · exact merge_keyOK h p hp
    · cases h
theorem merge_ne : ∀ {prs kvs r : List (D × D)}, mergeK kvs prs = some r → kvs ≠ [] ∨ prs ≠ [] → r ≠ []
  | [], kvs, r, h, q => by
    simp only [mergeK] at h
    cases h
    exact q.resolve_right (fun z => z rfl)
  | (k, v) :: prs, kvs, r, h, _ => by
    simp only [mergeK] at h
    split at h
    · exact merge_ne h (.inl dput_ne)
    · cases h
theorem merge_len : ∀ {prs kvs r : List (D × D)}, mergeK kvs prs = some r → r.length ≤ kvs.length + prs.length
  | [], kvs, r, h => by simp only [mergeK] at h; cases h; simp
  | (k, v) :: prs, kvs, r, h => by
    simp only [mergeK] at h
    split at h
    · have := merge_len h
      have := dput_length kvs k v
      rw [List.length_cons]
      omega
    · cases h
theorem merge_T {s : PySem.Shared} : ∀ {prs kvs r : List (D × D)} {ts : List (Addr × NestedKey × Addr × Value)} {xs : List (NestedKey × Addr × Value)}, mergeK kvs prs = some r → PairsT X ρ H s prs ts → TKs X.K ρ H kvs xs → TKs X.K ρ H r (PySem.storedAllH xs (ts.map (·.2)))
  | [], kvs, r, ts, xs, h, p, q => by
    simp only [mergeK] at h
    cases h
    cases p
    exact q
  | (k, v) :: prs, kvs, r, ts, xs, h, p, q => by
    simp only [mergeK] at h
    split at h
    · rename_i hk
      cases p with
      | cons p1 p2 =>
        obtain ⟨ks, vv, e1, e2, e3, e4, e5, e6, e7⟩ := p1
        rename_i t _
        obtain ⟨a, nk, b, u⟩ := t
        have e5 : RV X.K ρ H v vv := e5
        have e6 : L2.RelV vv u := e6
        have e4 : RV X.K ρ H (.tup ks) (.ref b) := e4
        have e1 : k = .tup ks := e1
        have e2 : nk = nkey (.tup ks) := e2
        subst e1
        subst e2
        exact merge_T (xs := PySem.storedH xs (nkey (.tup ks)) b u) h p2 (q.put e3 e4 e5 e6)
    · cases h
theorem call_dictM (hcalm : X.calm = true) (hu : X.A.units + 12 < PySem.cLine) : L2.CallR X (.type "dict") (liftA X (bltS .dict)) := by
  intro pins s σ H vs us Q I rx h
  obtain ⟨ρ, hp, ds, r, hr, rv, e, q⟩ := h
  rcases ds with _ | ⟨d, _ | ⟨d2, ds⟩⟩ <;> try (simp [bltS] at e; done)
  simp only [bltS, Option.bind_eq_some_iff] at e
  obtain ⟨prs, ⟨xs, e1, e2⟩, e3⟩ := e
  split at e3
  case isFalse => cases e3
  rename_i hc
  obtain ⟨kvs, e4, e5⟩ := Option.bind_eq_some_iff.mp e3
  have e6 := newC_inv e5
  subst e6
  obtain ⟨v, rfl, r1⟩ := rv.one_inv
  by_cases hl : (prs.all fun p => leafB p.1) = true
  · exact call_dictLeaf hcalm I rx hr r1 e1 e2 hl hc.2 e4 q
  have ht := hc.1.resolve_left hl
  have hne : prs ≠ [] := fun z => hl (by rw [z]; rfl)
  obtain ⟨a, ys, rfl, sq, rys⟩ := lst_arg hr r1 e1
  obtain ⟨u, rfl, ru⟩ := L2.vals1 rx
  cases ru
  obtain ⟨its, rv', pl, hz⟩ := I.list sq
  obtain ⟨o, n, ho, ho1, ho2, ho3⟩ := pl
  have hkk := merge_keyOK e4
  obtain ⟨ts, rfl, PT⟩ := pairsT I e2 rys rv' fun p hp => ⟨List.all_eq_true.mp ht p hp, hkk p hp⟩
  have hlen : ts.length = prs.length := PT.length
  have key : ∀ t ∈ ts, (PySem.nestedKind X.prog X.w).is s.heap t.2.1 t.2.2.1 := fun t ht => by
    obtain ⟨p, ks, vv, e1, e2, e3, e4, _⟩ := PT.mem t ht
    rw [e2]
    exact key_at I e3 e4
  have at_ : ∀ (j : Nat) (t : Addr × NestedKey × Addr × Value), ts[j]? = some t → s.heap.IsTuple t.1 #[.ref t.2.2.1, t.2.2.2] := fun j t hj => by
    obtain ⟨p, ks, vv, _, _, _, _, _, _, e7⟩ := PT.mem t (List.mem_of_getElem? hj)
    exact e7
  have inv : ∀ (j : Nat) (k v : Value), (ts.map fun t => (Value.ref t.2.2.1, t.2.2.2))[j]? = some (k, v) → ∃ t, ts[j]? = some t ∧ k = .ref t.2.2.1 ∧ v = t.2.2.2 := fun j k v h => by
    rw [List.getElem?_map, Option.map_eq_some_iff] at h
    obtain ⟨t, h1, h2⟩ := h
    cases h2
    exact ⟨t, h1, rfl, rfl⟩
  refine PySem.call_dict_pairsH (knd := PySem.nestedKind X.prog X.w) (ps := ts.map (·.2))
    (PySem.PairArg.list (prog := X.prog) (w := X.w) a (ts.map fun t => Value.ref t.1).toArray (fun j => ((ts[j]?).map (·.1)).getD 0) (ts.map fun t => (Value.ref t.2.2.1, t.2.2.2)))
    (I.ok.hd hcalm) (show X.A.in1.in1.units + 8 < PySem.cLine from by show X.A.units + 1 + 1 + 8 < PySem.cLine; omega) ⟨⟨o, n, ho, ho1, ho2, ho3⟩, by simp, fun j k v hj => ?_⟩ ⟨by simp, fun j k v hj => ?_⟩ (fun h' hk x hx => ?_) (by rw [List.length_map, hlen, lim_eq]; exact hc.2) fun h' tk hd' hk => ?_
  · obtain ⟨t, h1, rfl, rfl⟩ := inv j k v hj
    exact ⟨by simp [h1], .inl (by simp only [h1, Option.map_some, Option.getD_some]; exact at_ j t h1)⟩
  · obtain ⟨t, h1, rfl, rfl⟩ := inv j k v hj
    exact ⟨t.2.1, t.2.2.1, by simp [h1], rfl⟩
  · obtain ⟨t, ht, rfl⟩ := List.mem_map.mp hx
    have := key t ht
    exact ⟨NestedIs.at (fun b ob ws n hb _ => hk b ob (Nat.ne_of_lt (Heap.lt_size hb)) (by simp) hb) _ _ this.1, this.2⟩
  · obtain ⟨o', es, ep, q1, q2, q3, q4, q5, q6⟩ := hd'
    have hm : (s.heap.objs.size == PySem.sysModules) = false := beq_eq_false_iff_ne.mpr (Nat.ne_of_gt I.big)
    have hn := I.hok.fresh (Nat.le_refl _)
    have t : TK H (L2.upd H s.heap.objs.size (.ext fun h => h.get? s.heap.objs.size = some o')) := TK.new hn
    have hT := (merge_T e4 PT .nil).mono (pre_snoc ρ s.heap.objs.size) t
    have hlr := merge_len e4
    have c : CellOk X.prog X.w X.K (ρ ++ [s.heap.objs.size]) (L2.upd H s.heap.objs.size (.ext fun h => h.get? s.heap.objs.size = some o')) s.heap.objs.size (.dct kvs) :=
      .inr ⟨hm, o', L2.upd_same, _, es, ep, q2, q3, q4, q6, hT, merge_ne e4 (.inr hne), by have := hc.2; rw [List.length_nil] at hlr; omega⟩
    have hr' := hr.alloc hn c fun _ z => nomatch z
    exact ⟨.ref s.heap.objs.size, _, I.laid (o := .ext fun h => h.get? s.heap.objs.size = some o') (t' := tk) (fun b ob e => hk b ob (by simp) e) (Nat.le_refl _) ⟨q1, ⟨o', q1⟩, fun h1 h2 p k => k _ p⟩, rfl, q (ρ ++ [s.heap.objs.size]) _ _ (pre_snoc _ _) t hr' (.ref (by rw [← hr.len]; simp))⟩
end
end M

end
section
set_option Elab.async false
set_option linter.all false
set_option autoImplicit false
set_option maxRecDepth 100000
set_option maxHeartbeats 4000000
/-! x[::-1] of a tuple, at the model's level -/
namespace M
theorem fmc {α β : Type} {f g : α → Option β} : ∀ {l : List α}, (∀ x ∈ l, f x = g x) → l.filterMap f = l.filterMap g
  | [], _ => rfl
  | x :: l, h => by
    rw [List.filterMap_cons, List.filterMap_cons, h x List.mem_cons_self, fmc fun y hy => h y (List.mem_cons_of_mem _ hy)]
section
open PySem PySem.Spec PyProof.Rows HT
variable {prog : Program} {w : World} {A : Around} {E : Value → Shared → Prop} {s : Shared}
theorem places_rev (n : Nat) : Builtin.Slice.slicePlaces ((n : Int) - 1) (-1) (-1) = n := by
  unfold Builtin.Slice.slicePlaces
  rw [if_neg (by decide)]
  by_cases h : (n : Int) - 1 > -1
  · rw [if_pos h, show (- -1 : Int) = 1 from by decide, Int.ediv_one]
    omega
  · rw [if_neg h]
    omega
theorem sliceApplied_rev {sl : Addr} {vl vu vs : Value} {n : Nat} {Q : Int × Int × Nat → Shared → Prop} (hs : s.heap.IsSliceOf sl vl vu vs) (pl : IsPart vl none) (pu : IsPart vu none) (ps : IsPart vs (some (-1)))
    (h : Q ((n : Int) - 1, -1, n) s) : wpAny (model prog w) A (Builtin.Slice.sliceApplied (.ref sl) (pure (n : Int))) Q E s := by
  obtain ⟨os, hos, hcs, hds⟩ := id hs
  unfold Builtin.Slice.sliceApplied Builtin.Slice.sliceFields
  refine wpAny_bind (wpAny_bind (wpAny_field hos hds (x := vl) rfl (wpAny_bind (wpAny_field hos hds (x := vu) rfl (wpAny_bind (wpAny_field hos hds (x := vs) rfl (wpAny_pure ?_)))))))
  refine wpAny_bind (slicePart_ ps ?_)
  show wpAny _ _ (if ((-1 : Int) == 0) = true then _ else _) _ _ s
  rw [if_neg (by decide)]
  refine wpAny_bind (slicePart_ pl (wpAny_bind (slicePart_ pu (wpAny_bind (wpAny_pure ?_)))))
  show wpAny _ _ (match Builtin.Slice.sliceAdjust none none (-1) (n : Int) with | (lo, hi) => pure (lo, (-1 : Int), Builtin.Slice.slicePlaces lo hi (-1))) _ _ s
  have e : Builtin.Slice.sliceAdjust none none (-1) (n : Int) = ((n : Int) - 1, -1) := by
    unfold Builtin.Slice.sliceAdjust
    simp
  rw [e]
  show wpAny _ _ (pure (((n : Int) - 1), (-1 : Int), Builtin.Slice.slicePlaces ((n : Int) - 1) (-1) (-1))) _ _ s
  rw [places_rev]
  exact wpAny_pure h
theorem pick_rev (xs : Array Value) : ((List.range xs.size).filterMap fun (m : Nat) => xs[(((xs.size : Int) - 1) + (m : Int) * (-1)).toNat]?).toArray = xs.toList.reverse.toArray := by
  have e : ((List.range xs.size).filterMap fun (m : Nat) => xs[(((xs.size : Int) - 1) + (m : Int) * (-1)).toNat]?) = ((List.range xs.size).map fun k => xs.size - 1 - k).filterMap (xs[·]?) := by
    rw [List.filterMap_map]
    refine M.fmc fun m hm => ?_
    have := List.mem_range.mp hm
    show xs[(((xs.size : Int) - 1) + (m : Int) * (-1)).toNat]? = xs[xs.size - 1 - m]?
    congr 1
    omega
  rw [e, PySem.W.krv_range, List.filterMap_reverse, PySem.W.krv_all]
theorem getItem_tuple_rev {t sl : Addr} {items : Array Value} {vl vu vs : Value} {Q : Value → Shared → Prop} (ht : IsTup s.heap t items) (hs : s.heap.IsSliceOf sl vl vu vs) (pl : IsPart vl none) (pu : IsPart vu none) (ps : IsPart vs (some (-1)))
    (h : Q (.ref s.heap.objs.size) { s with heap := s.heap.push { cls := .type "tuple", data := .seq items.toList.reverse.toArray } })
    (hsz : items.size ≤ sizeLine) : wpAny (model prog w) A (getItem (.ref t) (.ref sl)) Q E s := by
  have htake : sizeOk (.seq items.toList.reverse.toArray) := by
    show items.toList.reverse.toArray.size ≤ sizeLine
    rw [List.size_toArray, List.length_reverse, Array.length_toList]
    exact hsz
  obtain ⟨os, hos, hcs, hds⟩ := id hs
  have hTs : s.TypeIs (.ref sl) "slice" := ⟨os, hos, hcs⟩
  unfold getItem
  try with_reducible refine wpAny_holding ?_
  first | refine wpAny_bind (wpAny_pure ?_) | skip
  refine wpAny_bind (wpAny_sequenceKey ht.typeIs (by decide) ?_)
  refine wpAny_bind (wpAny_callSpecial?_slot (name := Str.ofString "__getitem__") ht.typeIs PyProof.Rows.slot_tuple_getitem
    (wpAny_call_entry PyProof.Rows.slot_tuple_getitem ht.typeIs entry_tuple_getitem ?_ (args_tuple_getitem _ _)))
  show wpAny _ _ (Builtin.Tuple.tupleItemsOf (.ref t) >>= _) _ _ s
  refine wpAny_bind (tupleItemsOf_ ht ?_)
  refine wpAny_bind (wpAny_typeOf hTs ?_)
  rw [if_pos (by decide)]
  refine wpAny_bind (sliceApplied_rev hs pl pu ps ?_)
  have hno : ¬ ((((items.size : Int) - 1) == 0 && (-1 : Int) == 1 && items.size == items.size) = true) := by
    intro q
    rw [Bool.and_eq_true, Bool.and_eq_true] at q
    exact absurd q.1.2 (by decide)
  show wpAny _ _ (if (((items.size : Int) - 1) == 0 && (-1 : Int) == 1 && items.size == items.size) = true then _ else _) _ _ s
  rw [if_neg hno, pick_rev]
  first
    | exact wpAny_bind (m := Builtin.Tuple.tupleExact _) (wpAny_newObj_type (wpAny_pure ⟨_, rfl, wpAny_pure h⟩) htake)
    | exact wpAny_bind (m := Builtin.Tuple.tupleExact _) (wpAny_newObj_type (wpAny_bind (wpAny_pure (wpAny_pure ⟨_, rfl, wpAny_pure h⟩))) htake)
    | exact wpAny_bind (wpAny_bind (m := Builtin.Tuple.tupleExact _) (wpAny_newObj_type (wpAny_pure (wpAny_pure ⟨_, rfl, wpAny_pure h⟩)) htake))
    | exact wpAny_bind (wpAny_bind (m := Builtin.Tuple.tupleExact _) (wpAny_newObj_type (wpAny_pure ⟨_, rfl, wpAny_pure h⟩) htake))
end
end M

end
section
set_option Elab.async false
set_option linter.all false
set_option autoImplicit false
set_option maxRecDepth 100000
set_option maxHeartbeats 4000000
/-! expressions -/
namespace M
open PySem (Addr Obj Value Str PyData Heap NestedKey Expr)
abbrev WA (X : L2.Cx) {α : Type} (t : PySem.Sem α) (Q : α → PySem.Shared → Prop) (s : PySem.Shared) : Prop := PySem.wpAny (PySem.model X.prog X.w) X.A t Q X.xe s
structure Now (X : L2.Cx) (pins : List (Addr × Obj)) (σ : L2.St) (env : Env) (ρ : List Addr) (hp : Hm) (H : LHp) (s : PySem.Shared) : Prop where
  I : L2.Inv X pins σ H s
  hr : HRX X ρ hp H
  he : EnvR X.K ρ H env σ
section
variable {X : L2.Cx} {F : FnS} (hF : FMono F) {E : XP} {pins : List (Addr × Obj)} {σ : L2.St} {env : Env} {ρ : List Addr} {hp : Hm} {H : LHp} {s : PySem.Shared}
/-- an expression's meaning as a reading -/
abbrev RE (X : L2.Cx) (F : FnS) (E : XP) (c : CE) : L2.TE := rE X (wpE F E c)
abbrev RT (X : L2.Cx) (F : FnS) (E : XP) (c : CE) : L2.TT := rdT X.prog X.w X.K (wpE F E c)
abbrev RA (X : L2.Cx) (F : FnS) (E : XP) (cs : List CE) : L2.TA := rA X (wpEs F E cs)
include hF
theorem ev {e : Expr} {c : CE} (h : L2.PE X e (RE X F E c)) (N : Now X pins σ env ρ hp H s) {Q' : VQ} (w : wpE F E c env hp Q') {Q : Value → PySem.Shared → Prop}
    (k : ∀ v s' d x ρ' hp' H', Now X pins σ env ρ' hp' H' s' → ρ <+: ρ' → TK H H' → RV X.K ρ' H' d x → L2.RelV x v → Q' d hp' → Q v s') : WA X (PySem.eval e X.env) Q s := by
  refine L2.thn (h.run pins s σ H (fun x H' => ∃ ρ' hp' d, ρ <+: ρ' ∧ TK H H' ∧ HRX X ρ' hp' H' ∧ RV X.K ρ' H' d x ∧ Q' d hp') N.I ⟨ρ, env, hp, N.hr, N.he, wpE_mono hF c E env hp _ _ w fun d h1 q ρ' H' v p t hr rv => ⟨ρ', h1, d, p, t, hr, rv, q⟩⟩) ?_
  intro v s' ⟨x, H', I', ru, ρ', hp', d, p, t, hr, rv, q⟩
  exact k v s' d x ρ' hp' H' ⟨I', hr, N.he.mono p t⟩ p t rv ru q
theorem evT {e : Expr} {c : CE} (h : L2.PT X e (RT X F E c)) (N : Now X pins σ env ρ hp H s) {R : Bool → Hm → Prop} (w : wpE F E c env hp fun d h1 => ws (truth h1 d) fun k => R k h1) {Q : Bool → PySem.Shared → Prop}
    (k : ∀ b s' ρ' hp' H', Now X pins σ env ρ' hp' H' s' → ρ <+: ρ' → TK H H' → R b hp' → Q b s') : WA X (PySem.isTrue e X.env (PySem.eval e X.env)) Q s := by
  refine L2.thn (h.run pins s σ H (fun b H' => ∃ ρ' hp', ρ <+: ρ' ∧ TK H H' ∧ HRX X ρ' hp' H' ∧ R b hp') N.I ⟨ρ, env, hp, N.hr, N.he, wpE_mono hF c E env hp _ _ w fun d h1 q => ws_mono q fun b q ρ' H' p t hr => ⟨ρ', h1, p, t, hr, q⟩⟩) ?_
  intro b s' ⟨H', I', ρ', hp', p, t, hr, q⟩
  exact k b s' ρ' hp' H' ⟨I', hr, N.he.mono p t⟩ p t q
theorem evA {es : List Expr} {cs : List CE} (h : L2.PA X es (RA X F E cs)) (N : Now X pins σ env ρ hp H s) {Q' : List D → Hm → Prop} (w : wpEs F E cs env hp Q') {Q : List Value → PySem.Shared → Prop} {pos : PySem.Pos}
    (k : ∀ us s' ds xs ρ' hp' H', Now X pins σ env ρ' hp' H' s' → ρ <+: ρ' → TK H H' → RVs X.K ρ' H' ds xs → L2.Vals xs us → Q' ds hp' → Q us s') : WA X (PySem.spliced (PySem.backTo pos (PySem.starEach es X.env))) Q s := by
  refine L2.thn (h.run pos pins s σ H (fun xs H' => ∃ ρ' hp' ds, ρ <+: ρ' ∧ TK H H' ∧ HRX X ρ' hp' H' ∧ RVs X.K ρ' H' ds xs ∧ Q' ds hp') N.I ⟨ρ, env, hp, N.hr, N.he, wpEs_mono hF cs E env hp _ _ w fun d h1 q ρ' H' v p t hr rv => ⟨ρ', h1, d, p, t, hr, rv, q⟩⟩) ?_
  intro v s' ⟨x, H', I', ru, ρ', hp', d, p, t, hr, rv, q⟩
  exact k v s' d x ρ' hp' H' ⟨I', hr, N.he.mono p t⟩ p t rv ru q
omit hF in
/-- a reading from its start -/
theorem peI {e : Expr} {c : CE} (h : ∀ pins s σ H Q ρ env hp, Now X pins σ env ρ hp H s → wpE F E c env hp (PVX X ρ H Q) → WA X (PySem.eval e X.env) (L2.EP X pins σ Q) s) : L2.PE X e (RE X F E c) :=
  ⟨fun pins s σ H Q I ⟨ρ, env, hp, hr, he, w⟩ => h pins s σ H Q ρ env hp ⟨I, hr, he⟩ w⟩
omit hF in
theorem ptI {e : Expr} {c : CE} (h : ∀ pins s σ H Q ρ env hp, Now X pins σ env ρ hp H s → wpE F E c env hp (PB X.prog X.w X.K ρ H Q) → WA X (PySem.isTrue e X.env (PySem.eval e X.env)) (L2.TP X pins σ Q) s) : L2.PT X e (RT X F E c) :=
  ⟨fun pins s σ H Q I ⟨ρ, env, hp, hr, he, w⟩ => h pins s σ H Q ρ env hp ⟨I, hr, he⟩ w⟩
omit hF in
theorem Now.fin {Q : L2.VK} {v : Value} {ρ' : List Addr} {hp' : Hm} {H' : LHp} {s' : PySem.Shared} {d : D} {x : LV} (N : Now X pins σ env ρ' hp' H' s') (p : ρ <+: ρ') (t : TK H H') (rv : RV X.K ρ' H' d x) (ru : L2.RelV x v) (q : PVX X ρ H Q d hp') : L2.EP X pins σ Q v s' :=
  ⟨x, H', N.I, ru, q ρ' H' x p t N.hr rv⟩
omit hF in
theorem Now.finB {Q : Bool → LHp → Prop} {ρ' : List Addr} {hp' : Hm} {H' : LHp} {s' : PySem.Shared} {b : Bool} (N : Now X pins σ env ρ' hp' H' s') (p : ρ <+: ρ') (t : TK H H') (q : ∀ (ρ' : List Addr) (H' : LHp), ρ <+: ρ' → TK H H' → HR X.prog X.w X.K ρ' hp' H' → Q b H') : L2.TP X pins σ Q b s' :=
  ⟨H', N.I, q ρ' H' p t N.hr⟩

theorem wpEs_len : ∀ (cs : List CE) (env : Env) (h : Hm) (Q : List D → Hm → Prop), wpEs F E cs env h Q → wpEs F E cs env h fun ds h1 => ds.length = cs.length ∧ Q ds h1
  | [], env, h, Q, a => by unfold wpEs at a ⊢; exact ⟨rfl, a⟩
  | c :: cs, env, h, Q, a => by
    unfold wpEs at a ⊢
    exact wpE_mono hF c E env h _ _ a fun d h1 q => wpEs_mono hF cs E env h1 _ _ (wpEs_len cs env h1 _ q) fun ds h2 q => ⟨by rw [List.length_cons, List.length_cons, q.1], q.2⟩
/-! ### displays -/
theorem pe_tupM {es : List Expr} {cs : List CE} {x1 : Nat} {pos : PySem.Pos} (h : L2.PA X es (RA X F E cs)) (hn : cs.length ≤ LIM) : L2.PE X (.Tuple es x1 pos) (RE X F E (.tup cs)) :=
  PE.imp (L2.pe_tup h) fun σ H Q ⟨ρ, env, hp, hr, he, w⟩ => by
    unfold wpE at w
    refine ⟨ρ, env, hp, hr, he, wpEs_mono hF cs E env hp _ _ (wpEs_len hF cs env hp _ w) fun ds h1 q ρ1 H1 vs p1 t1 hr1 rv1 => ⟨by rw [← rv1.length, q.1, lim_eq]; exact hn, fun p hp' => ?_⟩⟩
    exact PV.newT (PV.weak p1 t1 q.2) hr1 rv1 hp'
theorem pe_lstM {es : List Expr} {cs : List CE} {pos : PySem.Pos} (h : L2.PA X es (RA X F E cs)) (hn : cs.length ≤ LIM) : L2.PE X (.List es pos) (RE X F E (.lst cs)) :=
  PE.imp (L2.pe_lst h) fun σ H Q ⟨ρ, env, hp, hr, he, w⟩ => by
    unfold wpE at w
    refine ⟨ρ, env, hp, hr, he, wpEs_mono hF cs E env hp _ _ (wpEs_len hF cs env hp _ w) fun ds h1 q ρ1 H1 vs p1 t1 hr1 rv1 => ⟨by rw [← rv1.length, q.1, lim_eq]; exact hn, fun p hp' => ?_⟩⟩
    exact PV.newL (PV.weak p1 t1 q.2) hr1 rv1 hp'
omit hF in
theorem pe_dnewM {pos : PySem.Pos} : L2.PE X (.Dict [] [] pos) (RE X F E (.dct [])) :=
  PE.imp L2.pe_dnewK fun σ H Q ⟨ρ, env, hp, hr, he, w⟩ => by
    unfold wpE wpEs at w
    intro p hp'
    have c : CellOk X.prog X.w X.K (ρ ++ [p]) (L2.upd H p (.dK [])) p (.dct []) := .inl ⟨[], L2.upd_same, .nil, Nat.zero_le _⟩
    have hr' := hr.alloc hp' c fun _ z => nomatch z
    exact w (ρ ++ [p]) _ _ (pre_snoc _ _) (TK.new hp') hr' (.ref (by rw [← hr.len]; simp))

/-! ### operators -/
theorem pe_binM {a b : Expr} {ca cb : CE} {op : PySem.Operator} {o : Bop} {pos : PySem.Pos} (ho : L2.OpR X (PySem.binaryOp op) (liftR X (binS o))) (ha : L2.PE X a (RE X F E ca)) (hb : L2.PE X b (RE X F E cb)) : L2.PE X (.BinOp a op b pos) (RE X F E (.bin o ca cb)) :=
  PE.imp (L2.pe_op ho ha hb) fun σ H Q h => rd_bin hF (S := binS o) (by
    obtain ⟨ρ, env, hp, hr, he, w⟩ := h
    unfold wpE at w
    exact ⟨ρ, env, hp, hr, he, w⟩)
theorem pe_negM {a : Expr} {ca : CE} {pos : PySem.Pos} (ha : L2.PE X a (RE X F E ca)) : L2.PE X (.UnaryOp .USub a pos) (RE X F E (.neg ca)) :=
  PE.imp (L2.pe_un L2.un_neg ha) fun σ H Q ⟨ρ, env, hp, hr, he, w⟩ => by
    unfold wpE at w
    refine ⟨ρ, env, hp, hr, he, wpE_mono hF ca E env hp _ _ w fun d h1 q ρ1 H1 v p1 t1 hr1 rv1 => ?_⟩
    cases d <;> first | exact False.elim q | skip
    obtain rfl := rv1.int_inv
    exact ⟨_, rfl, q ρ1 H1 _ p1 t1 hr1 (.int _)⟩
theorem pe_notM {a : Expr} {ca : CE} {pos : PySem.Pos} (ha : L2.PE X a (RE X F E ca)) : L2.PE X (.UnaryOp .Not a pos) (RE X F E (.not ca)) := peI fun pins s σ H Q ρ env hp N w => by
  unfold wpE at w
  refine PyProof.Rows.UnaryOp_ (ev hF ha N w fun v s1 d x ρ1 hp1 H1 N1 p1 t1 rv ru q => ?_)
  obtain ⟨k, e, q⟩ := ws_iff.mp q
  refine PyProof.Rows.not_of (L2.thn (tru_M (Q := fun b H2 => b = k ∧ H2 = H1) N1.I N1.hr rv ru e ⟨rfl, rfl⟩) fun b s2 ⟨H2, I2, e1, e2⟩ => ?_)
  subst e1 e2
  exact ⟨.bl (!b), H2, I2, rfl, q ρ1 H2 _ p1 t1 N1.hr (.bl _)⟩
theorem pe_andM {a b : Expr} {rest : List Expr} {ca cb : CE} {pos : PySem.Pos} (ha : L2.PE X a (RE X F E ca)) (hb : L2.PE X (.BoolOp .And (b :: rest) pos) (RE X F E cb)) : L2.PE X (.BoolOp .And (a :: b :: rest) pos) (RE X F E (.and ca cb)) := peI fun pins s σ H Q ρ env hp N w => by
  unfold wpE at w
  refine PyProof.Rows.BoolOp_and (ev hF ha N w fun v s1 d x ρ1 hp1 H1 N1 p1 t1 rv ru q => ?_)
  obtain ⟨k, e, q⟩ := ws_iff.mp q
  refine L2.thn (tru_M (Q := fun b H2 => b = k ∧ H2 = H1) N1.I N1.hr rv ru e ⟨rfl, rfl⟩) fun b s2 ⟨H2, I2, e1, e2⟩ => ?_
  subst e1 e2
  cases b with
  | true => exact hb.run pins s2 σ H2 Q I2 ⟨ρ1, env, hp1, N1.hr, N1.he, wpE_mono hF cb E env hp1 _ _ q fun d h q => PV.weak p1 t1 q⟩
  | false => exact ⟨x, H2, I2, ru, q ρ1 H2 x p1 t1 N1.hr rv⟩
theorem pe_orM {a b : Expr} {rest : List Expr} {ca cb : CE} {pos : PySem.Pos} (ha : L2.PE X a (RE X F E ca)) (hb : L2.PE X (.BoolOp .Or (b :: rest) pos) (RE X F E cb)) : L2.PE X (.BoolOp .Or (a :: b :: rest) pos) (RE X F E (.or ca cb)) := peI fun pins s σ H Q ρ env hp N w => by
  unfold wpE at w
  refine PyProof.Rows.BoolOp_or (ev hF ha N w fun v s1 d x ρ1 hp1 H1 N1 p1 t1 rv ru q => ?_)
  obtain ⟨k, e, q⟩ := ws_iff.mp q
  refine L2.thn (tru_M (Q := fun b H2 => b = k ∧ H2 = H1) N1.I N1.hr rv ru e ⟨rfl, rfl⟩) fun b s2 ⟨H2, I2, e1, e2⟩ => ?_
  subst e1 e2
  cases b with
  | false => exact hb.run pins s2 σ H2 Q I2 ⟨ρ1, env, hp1, N1.hr, N1.he, wpE_mono hF cb E env hp1 _ _ q fun d h q => PV.weak p1 t1 q⟩
  | true => exact ⟨x, H2, I2, ru, q ρ1 H2 x p1 t1 N1.hr rv⟩
theorem pe_ifM {c a b : Expr} {cc ca cb : CE} {pos : PySem.Pos} (hc : L2.PT X c (RT X F E cc)) (ha : L2.PE X a (RE X F E ca)) (hb : L2.PE X b (RE X F E cb)) : L2.PE X (.IfExp c a b pos) (RE X F E (.ife cc ca cb)) := peI fun pins s σ H Q ρ env hp N w => by
  unfold wpE at w
  refine PySem.wpAny_IfExp (evT hF hc N (R := fun k h1 => if k = true then wpE F E ca env h1 (PVX X ρ H Q) else wpE F E cb env h1 (PVX X ρ H Q)) w fun k s1 ρ1 hp1 H1 N1 p1 t1 q => ?_)
  cases k with
  | true => exact ha.run pins s1 σ H1 Q N1.I ⟨ρ1, env, hp1, N1.hr, N1.he, wpE_mono hF ca E env hp1 _ _ q fun d h q => PV.weak p1 t1 q⟩
  | false => exact hb.run pins s1 σ H1 Q N1.I ⟨ρ1, env, hp1, N1.hr, N1.he, wpE_mono hF cb E env hp1 _ _ q fun d h q => PV.weak p1 t1 q⟩
end
end M

end
section
set_option Elab.async false
set_option linter.all false
set_option autoImplicit false
set_option maxRecDepth 100000
set_option maxHeartbeats 4000000
/-! comparisons, tests, indexing, slices, calls of built-ins -/
namespace M
open PySem (Addr Obj Value Str PyData Heap NestedKey Expr)
section
variable {X : L2.Cx} {F : FnS} (hF : FMono F) {E : XP}
include hF
/-! ### comparisons -/
theorem pe_cmpM {a b : Expr} {ca cb : CE} {op : PySem.CmpOp} {o : Cop} {pos : PySem.Pos} (ho : L2.OpR X (PySem.compareOp op) (liftC X fun x y h => cmpS o x y h)) (hm : PySem.behindInMarks op b = false) (ha : L2.PE X a (RE X F E ca)) (hb : L2.PE X b (RE X F E cb)) : L2.PE X (.Compare a [op] [b] pos) (RE X F E (.cmp o ca cb)) :=
  PE.imp (L2.pe_cmpR ho ha hb hm) fun σ H Q h => rd_bin hF (S := fun x y h => (cmpS o x y h).map fun k => (.bl k, h)) (by
    obtain ⟨ρ, env, hp, hr, he, w⟩ := h
    unfold wpE at w
    refine ⟨ρ, env, hp, hr, he, wpE_mono hF ca E env hp _ _ w fun x h1 q => wpE_mono hF cb E env h1 _ _ q fun y h2 q => ?_⟩
    obtain ⟨k, e, q⟩ := ws_iff.mp q
    rw [e]
    exact q)
/-- a value that is a bool, as a test -/
theorem pt_of_bl {a b : Expr} {c : CE} {t : L2.TE} {e : Expr} (hp : L2.PT X e (L2.tTest t)) (h : ∀ σ H Q, RE X F E c σ H Q → t σ H Q) (hb : ∀ env hp Q, wpE F E c env hp Q → wpE F E c env hp fun d h1 => (∃ k, d = .bl k) ∧ Q d h1) : L2.PT X e (RT X F E c) :=
  PT.imp hp fun σ H Q ⟨ρ, env, hp, hr, he, w⟩ => h σ H _ ⟨ρ, env, hp, hr, he, wpE_mono hF c E env hp _ _ (hb env hp _ w) fun d h1 ⟨⟨k, e⟩, q⟩ ρ1 H1 v p1 t1 hr1 rv => by
    subst e
    cases rv
    exact ⟨k, rfl, q ρ1 H1 p1 t1 hr1⟩⟩
theorem pt_cmpM {a b : Expr} {ca cb : CE} {op : PySem.CmpOp} {o : Cop} {pos : PySem.Pos} (ho : L2.OpR X (PySem.compareOp op) (liftC X fun x y h => cmpS o x y h)) (hm : PySem.behindInMarks op b = false) (ha : L2.PE X a (RE X F E ca)) (hb : L2.PE X b (RE X F E cb)) : L2.PT X (.Compare a [op] [b] pos) (RT X F E (.cmp o ca cb)) :=
  pt_of_bl hF (a := a) (b := b) (L2.pt_cmpR ho ha hb hm) (fun σ H Q h => rd_bin hF (S := fun x y h => (cmpS o x y h).map fun k => (.bl k, h)) (by
    obtain ⟨ρ, env, hp, hr, he, w⟩ := h
    unfold wpE at w
    refine ⟨ρ, env, hp, hr, he, wpE_mono hF ca E env hp _ _ w fun x h1 q => wpE_mono hF cb E env h1 _ _ q fun y h2 q => ?_⟩
    obtain ⟨k, e, q⟩ := ws_iff.mp q
    rw [e]
    exact q)) fun env hp Q w => by
      unfold wpE at w ⊢
      exact wpE_mono hF ca E env hp _ _ w fun x h1 q => wpE_mono hF cb E env h1 _ _ q fun y h2 q => ws_mono q fun k q => ⟨⟨k, rfl⟩, q⟩
/-! ### chains -/
theorem rd_chain {o o' : Cop} {ca cb cc : CE} {σ : L2.St} {H : LHp} {Q : L2.VK} (h : RE X F E (.chn o o' ca cb cc) σ H Q) :
    L2.tChain (liftC X fun x y h => cmpS o x y h) (liftC X fun x y h => cmpS o' x y h) (RE X F E ca) (RE X F E cb) (RE X F E cc) σ H Q := by
  obtain ⟨ρ, env, hp, hr, he, w⟩ := h
  unfold wpE at w
  refine ⟨ρ, env, hp, hr, he, wpE_mono hF ca E env hp _ _ w fun x h1 q ρ1 H1 v p1 t1 hr1 rv1 => ?_⟩
  refine ⟨ρ1, env, h1, hr1, he.mono p1 t1, wpE_mono hF cb E env h1 _ _ q fun y h2 q ρ2 H2 u p2 t2 hr2 rv2 => ?_⟩
  obtain ⟨k, e, q⟩ := ws_iff.mp q
  refine ⟨ρ2, h2, x, y, (.bl k, h2), hr2, rv1.mono p2 t2, rv2, by show Option.map _ (cmpS o x y h2) = _; rw [e]; rfl, fun ρ3 H3 z p3 t3 hr3 rv3 => ?_⟩
  cases rv3
  refine ⟨k, rfl, ?_⟩
  cases k with
  | false => exact q ρ3 H3 _ (p1.trans (p2.trans p3)) (t1.trans (t2.trans t3)) hr3 (.bl _)
  | true =>
    refine ⟨ρ3, env, h2, hr3, he.mono (p1.trans (p2.trans p3)) (t1.trans (t2.trans t3)), wpE_mono hF cc E env h2 _ _ q fun z h3 q ρ4 H4 v4 p4 t4 hr4 rv4 => ?_⟩
    obtain ⟨k', e', q⟩ := ws_iff.mp q
    exact ⟨ρ4, h3, y, z, (.bl k', h3), hr4, rv2.mono (p3.trans p4) (t3.trans t4), rv4, by show Option.map _ (cmpS o' y z h3) = _; rw [e']; rfl, PV.weak (p1.trans (p2.trans (p3.trans p4))) (t1.trans (t2.trans (t3.trans t4))) q⟩
theorem pe_chnM {a b c : Expr} {ca cb cc : CE} {op op' : PySem.CmpOp} {o o' : Cop} {pos : PySem.Pos} (ho : L2.OpR X (PySem.compareOp op) (liftC X fun x y h => cmpS o x y h)) (ho' : L2.OpR X (PySem.compareOp op') (liftC X fun x y h => cmpS o' x y h)) (hm : PySem.lastMarks [op, op'] [b, c] = false)
    (ha : L2.PE X a (RE X F E ca)) (hb : L2.PE X b (RE X F E cb)) (hc : L2.PE X c (RE X F E cc)) : L2.PE X (.Compare a [op, op'] [b, c] pos) (RE X F E (.chn o o' ca cb cc)) :=
  PE.imp (L2.pe_chain ho ho' ha hb hc hm) fun σ H Q h => rd_chain hF h
theorem pt_chnM {a b c : Expr} {ca cb cc : CE} {op op' : PySem.CmpOp} {o o' : Cop} {pos : PySem.Pos} (ho : L2.OpR X (PySem.compareOp op) (liftC X fun x y h => cmpS o x y h)) (ho' : L2.OpR X (PySem.compareOp op') (liftC X fun x y h => cmpS o' x y h)) (hm : PySem.lastMarks [op, op'] [b, c] = false)
    (ha : L2.PE X a (RE X F E ca)) (hb : L2.PE X b (RE X F E cb)) (hc : L2.PE X c (RE X F E cc)) : L2.PT X (.Compare a [op, op'] [b, c] pos) (RT X F E (.chn o o' ca cb cc)) :=
  pt_of_bl hF (a := a) (b := b) (L2.pt_chain ho ho' ha hb hc hm) (fun σ H Q h => rd_chain hF h) fun env hp Q w => by
    unfold wpE at w ⊢
    exact wpE_mono hF ca E env hp _ _ w fun x h1 q => wpE_mono hF cb E env h1 _ _ q fun y h2 q => ws_mono q fun k q => by
      cases k with
      | false => exact ⟨⟨false, rfl⟩, q⟩
      | true => exact wpE_mono hF cc E env h2 _ _ q fun z h3 q => ws_mono q fun k' q => ⟨⟨k', rfl⟩, q⟩
/-! ### tests -/
theorem pt_valM {e : Expr} {c : CE} (h : L2.PE X e (RE X F E c)) (he : ∀ whole, PySem.isTrue e X.env whole = (do let v ← whole; PySem.standAt e.pos; PySem.holding [v] (PySem.truthy v))) : L2.PT X e (RT X F E c) := ptI fun pins s σ H Q ρ env hp N w => by
  refine PyProof.Rows.isTrue_plain (ev hF h N w fun v s1 d x ρ1 hp1 H1 N1 p1 t1 rv ru q => ?_) (he _)
  obtain ⟨k, e, q⟩ := ws_iff.mp q
  exact tru_M N1.I N1.hr rv ru e (q ρ1 H1 p1 t1 N1.hr)
theorem pt_notM {a : Expr} {ca : CE} {pos : PySem.Pos} (ha : L2.PT X a (RT X F E ca)) : L2.PT X (.UnaryOp .Not a pos) (RT X F E (.not ca)) :=
  PT.imp (L2.pt_not ha) fun σ H Q ⟨ρ, env, hp, hr, he, w⟩ => by
    unfold wpE at w
    exact ⟨ρ, env, hp, hr, he, wpE_mono hF ca E env hp _ _ w fun d h1 q => ws_mono q fun k q => q⟩
theorem pt_ifM {c a b : Expr} {cc ca cb : CE} {pos : PySem.Pos} (hc : L2.PT X c (RT X F E cc)) (ha : L2.PT X a (RT X F E ca)) (hb : L2.PT X b (RT X F E cb)) : L2.PT X (.IfExp c a b pos) (RT X F E (.ife cc ca cb)) := ptI fun pins s σ H Q ρ env hp N w => by
  unfold wpE at w
  show PySem.wpAny _ _ (do if ← PySem.isTrue c X.env (PySem.eval c X.env) then PySem.isTrue a X.env (PySem.eval a X.env) else PySem.isTrue b X.env (PySem.eval b X.env)) _ _ s
  refine PySem.wpAny_bind (evT hF hc N (R := fun k h1 => if k = true then wpE F E ca env h1 (PB X.prog X.w X.K ρ H Q) else wpE F E cb env h1 (PB X.prog X.w X.K ρ H Q)) w fun k s1 ρ1 hp1 H1 N1 p1 t1 q => ?_)
  have weak : ∀ d h, PB X.prog X.w X.K ρ H Q d h → PB X.prog X.w X.K ρ1 H1 Q d h := fun d h q => ws_mono q fun b q ρ2 H2 p2 t2 hr2 => q ρ2 H2 (p1.trans p2) (t1.trans t2) hr2
  cases k with
  | true => exact ha.run pins s1 σ H1 Q N1.I ⟨ρ1, env, hp1, N1.hr, N1.he, wpE_mono hF ca E env hp1 _ _ q weak⟩
  | false => exact hb.run pins s1 σ H1 Q N1.I ⟨ρ1, env, hp1, N1.hr, N1.he, wpE_mono hF cb E env hp1 _ _ q weak⟩
abbrev PWM (X : L2.Cx) (F : FnS) (E : XP) (e : Expr) (c : CE) : Prop := L2.PW X e (RT X F E c)
omit hF in
theorem PW.imp {e : Expr} {t t' : L2.TT} (h : L2.PW X e t) (k : ∀ σ H Q, t' σ H Q → t σ H Q) : L2.PW X e t' := ⟨fun wh pins s σ H Q I q => h.run wh pins s σ H Q I (k σ H Q q)⟩
theorem pw_andM {a b : Expr} {rest : List Expr} {ca cb : CE} {pos : PySem.Pos} (ha : L2.PT X a (RT X F E ca)) (hb : PWM X F E (.BoolOp .And (b :: rest) pos) cb) : PWM X F E (.BoolOp .And (a :: b :: rest) pos) (.and ca cb) :=
  PW.imp (L2.pw_and ha hb) fun σ H Q ⟨ρ, env, hp, hr, he, w⟩ => by
    unfold wpE at w
    refine ⟨ρ, env, hp, hr, he, wpE_mono hF ca E env hp _ _ w fun d h1 q => ?_⟩
    obtain ⟨k, e, q⟩ := ws_iff.mp q
    unfold PB
    rw [e]
    intro ρ1 H1 p1 t1 hr1
    cases k with
    | true => exact ⟨ρ1, env, h1, hr1, he.mono p1 t1, wpE_mono hF cb E env h1 _ _ q fun d h2 q => ws_mono q fun b q ρ2 H2 p2 t2 hr2 => q ρ2 H2 (p1.trans p2) (t1.trans t2) hr2⟩
    | false =>
      simp only [Bool.false_eq_true, if_false] at q
      unfold PB at q
      rw [e] at q
      exact q ρ1 H1 p1 t1 hr1
theorem pw_orM {a b : Expr} {rest : List Expr} {ca cb : CE} {pos : PySem.Pos} (ha : L2.PT X a (RT X F E ca)) (hb : PWM X F E (.BoolOp .Or (b :: rest) pos) cb) : PWM X F E (.BoolOp .Or (a :: b :: rest) pos) (.or ca cb) :=
  PW.imp (L2.pw_or ha hb) fun σ H Q ⟨ρ, env, hp, hr, he, w⟩ => by
    unfold wpE at w
    refine ⟨ρ, env, hp, hr, he, wpE_mono hF ca E env hp _ _ w fun d h1 q => ?_⟩
    obtain ⟨k, e, q⟩ := ws_iff.mp q
    unfold PB
    rw [e]
    intro ρ1 H1 p1 t1 hr1
    cases k with
    | false => exact ⟨ρ1, env, h1, hr1, he.mono p1 t1, wpE_mono hF cb E env h1 _ _ q fun d h2 q => ws_mono q fun b q ρ2 H2 p2 t2 hr2 => q ρ2 H2 (p1.trans p2) (t1.trans t2) hr2⟩
    | true =>
      simp only [if_true] at q
      unfold PB at q
      rw [e] at q
      exact q ρ1 H1 p1 t1 hr1
omit hF in
theorem pw_and1M {a : Expr} {ca : CE} {pos : PySem.Pos} (ha : L2.PT X a (RT X F E ca)) : PWM X F E (.BoolOp .And [a] pos) ca := L2.pw_and1 ha
omit hF in
theorem pw_or1M {a : Expr} {ca : CE} {pos : PySem.Pos} (ha : L2.PT X a (RT X F E ca)) : PWM X F E (.BoolOp .Or [a] pos) ca := L2.pw_or1 ha

/-! ### indexing -/
theorem pe_idxM (hu : X.A.units + 80 < PySem.cLine) {a b : Expr} {ca cb : CE} {pos : PySem.Pos} (hs : L2.PlainIx b) (ha : L2.PE X a (RE X F E ca)) (hb : L2.PE X b (RE X F E cb)) : L2.PE X (.Subscript a b pos) (RE X F E (.idx ca cb)) :=
  PE.imp (L2.pe_ix (ix_M hu) ha hb hs) fun σ H Q h => rd_idx hF (S := fun x y h => idxS x y h) (by
    obtain ⟨ρ, env, hp, hr, he, w⟩ := h
    unfold wpE at w
    exact ⟨ρ, env, hp, hr, he, w⟩)
/-- a slice's bound -/
abbrev TPo : Type := Option Expr
def PoM (X : L2.Cx) (F : FnS) (E : XP) (e : Option Expr) (c : CE) : Prop :=
  (e = none ∧ c = .lit .non) ∨ ∃ x, e = some x ∧ L2.PE X x (RE X F E c)
theorem evPo {e : Option Expr} {c : CE} (h : PoM X F E e c) {pins : List (Addr × Obj)} {σ : L2.St} {env : Env} {ρ : List Addr} {hp : Hm} {H : LHp} {s : PySem.Shared} (N : Now X pins σ env ρ hp H s) {Q' : Option Int → Hm → Prop} (w : wpE F E c env hp fun d h1 => ws (optI d) fun o => Q' o h1) {Q : Value → PySem.Shared → Prop}
    (k : ∀ v s' o ρ' hp' H', Now X pins σ env ρ' hp' H' s' → ρ <+: ρ' → TK H H' → PySem.IsPart v o → Q' o hp' → Q v s') : WA X (PySem.evalPart e X.env) Q s := by
  rcases h with ⟨rfl, rfl⟩ | ⟨x, rfl, h⟩
  · rw [PySem.evalPart_none]
    unfold wpE at w
    exact PySem.wpAny_pure (k _ s none ρ hp H N (List.prefix_refl _) (TK.refl _) .none w)
  · rw [PySem.evalPart_some]
    refine ev hF h N w fun v s1 d x ρ1 hp1 H1 N1 p1 t1 rv ru q => ?_
    obtain ⟨o, e, q⟩ := ws_iff.mp q
    cases d <;> simp only [optI] at e <;> first | (cases e; done) | skip
    · cases e
      cases rv
      cases ru
      exact k _ s1 none ρ1 hp1 H1 N1 p1 t1 .none q
    · cases e
      obtain rfl := rv.int_inv
      obtain ⟨t, rfl⟩ := ru
      exact k _ s1 _ ρ1 hp1 H1 N1 p1 t1 (.int _ t) q
theorem pe_slcM {a : Expr} {lo hi : Option Expr} {ca cl ch : CE} {p2 pos : PySem.Pos} (ha : L2.PE X a (RE X F E ca)) (hl : PoM X F E lo cl) (hh : PoM X F E hi ch) : L2.PE X (.Subscript a (.Slice lo hi none p2) pos) (RE X F E (.slc ca cl ch)) := peI fun pins s σ H Q ρ env hp N w => by
  unfold wpE at w
  refine PyProof.Rows.Subscript_ (ev hF ha N w fun v s1 d x ρ1 hp1 H1 N1 p1 t1 rv ru q => ?_)
  refine PySem.wpAny_Slice (evPo hF hl N1 (Q' := fun o h2 => wpE F E ch env h2 fun z h3 => ws (optI z) fun o' => ws (slcS d o o' h3) fun r => PVX X ρ H Q r.1 r.2) q fun vl s2 o ρ2 hp2 H2 N2 p2' t2 pl q2 => ?_)
  refine evPo hF hh N2 (Q' := fun o' h3 => ws (slcS d o o' h3) fun r => PVX X ρ H Q r.1 r.2) q2 fun vu s3 o' ρ3 hp3 H3 N3 p3 t3 pu q3 => ?_
  rw [PySem.evalPart_none]
  refine PySem.wpAny_pure ?_
  have I4 : L2.Inv X pins σ H3 { s3 with heap := s3.heap.push { cls := .type "slice", data := .fields #[vl, vu, .none] } } := N3.I.kept (t' := s3.toks) fun b ob q => PySem.Heap.get?_push_of_some _ q
  obtain ⟨r, e, q⟩ := ws_iff.mp q3
  obtain ⟨T, id, hT, ht, hg⟩ := sl_M pins { s3 with heap := s3.heap.push { cls := .type "slice", data := .fields #[vl, vu, .none] } } σ H3 x v vl vu o o' s3.heap.objs.size Q I4 ru (PySem.Heap.IsSliceOf.new ..) pl pu
    ⟨ρ3, hp3, d, r, N3.hr, rv.mono (p2'.trans p3) (t2.trans t3), by cases d <;> exact e, PV.weak (p1.trans (p2'.trans p3)) (t1.trans (t2.trans t3)) q⟩
  show PySem.wpAny (PySem.model X.prog X.w) X.A (PyProof.Rows.subscriptTail a (.Slice lo hi none p2) v (.ref s3.heap.objs.size)) (L2.EP X pins σ Q) X.xe { s3 with heap := s3.heap.push { cls := .type "slice", data := .fields #[vl, vu, .none] } }
  exact PyProof.Rows.tail_any (ops := [.ref s3.heap.objs.size, v]) ht hT hg (by with_unfolding_all rfl)
end
end M

end
section
set_option Elab.async false
set_option linter.all false
set_option autoImplicit false
set_option maxRecDepth 100000
set_option maxHeartbeats 4000000
/-! calls of built-ins, is -/
namespace M
open PySem (Addr Obj Value Str PyData Heap NestedKey Expr)
section
variable {X : L2.Cx} {F : FnS} (hF : FMono F) {E : XP}
include hF
/-- a built-in function, a built-in type -/
theorem pe_bltM {x : Str} {u : Value} {b : Blt} {e : Expr} {es : List Expr} {cs : List CE} {p pos : PySem.Pos} (hu : (∃ id, u = .builtin id) ∨ ∃ T, u = .type T) (hc : L2.CallR X u (liftA X (bltS b))) (hg : L2.Gl X x) (hm : X.mg x = none) (hv : PySem.bootBuiltins x = some u)
    (hn : x ≠ PySem.Str.ofString "__name__") (hdb : (x == PySem.Str.ofString "__debug__") = false) (ha : L2.PA X (e :: es) (RA X F E cs)) (hp : (e :: es).all plainE = true) : L2.PE X (.Call (.Name x p) (e :: es) [] pos) (RE X F E (.blt b cs)) := by
  have h1 : plainE e = true ∧ es.all plainE = true := by rw [List.all_cons, Bool.and_eq_true] at hp; exact hp
  have k : ∀ σ H Q, RE X F E (.blt b cs) σ H Q → L2.tCB (liftA X (bltS b)) (RA X F E cs) σ H Q := fun σ H Q h => rd_blt hF (S := bltS b) (by
    obtain ⟨ρ, env, hp, hr, he, w⟩ := h
    unfold wpE at w
    exact ⟨ρ, env, hp, hr, he, w⟩)
  rcases hu with ⟨id, rfl⟩ | ⟨T, rfl⟩
  · exact PE.imp (L2.pe_callB hc hg hm hv ha hn hdb (star_plain h1.1) (any_plain h1.2)) k
  · exact PE.imp (L2.pe_callTy hc hg hm hv ha hn hdb (star_plain h1.1) (any_plain h1.2)) k
/-- isinstance(e, T) -/
theorem pe_isiM {t : Ty} {e : Expr} {c : CE} {p p2 pos : PySem.Pos} {x : Str} (hx : x = PySem.Str.ofString "isinstance") {y : Str} (hg : L2.Gl X x) (hm : X.mg x = none) (hv : PySem.bootBuiltins x = some (.builtin "isinstance")) (hg2 : L2.Gl X y) (hm2 : X.mg y = none) (hv2 : PySem.bootBuiltins y = some (.type (tyName t)))
    (hn : y ≠ PySem.Str.ofString "__name__") (hdb : (y == PySem.Str.ofString "__debug__") = false) (he : L2.PE X e (RE X F E c)) (hp : plainE e = true) : L2.PE X (.Call (.Name x p) [e, .Name y p2] [] pos) (RE X F E (.blt (.isi t) [c])) := by
  subst hx
  have hc : L2.CallR X (.builtin "isinstance") (fun vs H Q => ∃ v, vs = [v, .ty (tyName t)] ∧ liftA X (bltS (.isi t)) [v] H Q) := by
    intro pins s σ H xs us Q I rx ⟨v, e1, ρ, hp0, ds, r, hr, rv, e2, q⟩
    subst e1
    cases rx with
    | cons r1 r2 =>
      cases r2 with
      | cons r2 r3 =>
        cases r3
        rcases ds with _ | ⟨d, _ | ⟨d2, ds⟩⟩ <;> try (cases rv; done)
        · obtain ⟨v', ev', rd⟩ := rv.one_inv
          cases ev'
          simp only [bltS, Option.map_eq_some_iff] at e2
          obtain ⟨k, e2, rfl⟩ := e2
          exact isi_run I hr rd r1 r2 e2 (PV.here q hr (.bl k))
        · cases rv with | cons a b => cases b
  refine PE.imp (L2.pe_callB (p := p) (pos := pos) hc hg hm hv (L2.pa_cons he (L2.pa_cons (L2.pe_bltn (v := .ty (tyName t)) (pos := p2) hg2 hm2 hv2 rfl hn hdb) L2.pa_nil (by rfl)) (star_plain hp)) (by decide) (by decide) (star_plain hp) (by rfl)) fun σ H Q ⟨ρ, env, hp0, hr, he0, w⟩ => ?_
  unfold wpE wpEs wpEs at w
  refine ⟨ρ, env, hp0, hr, he0, wpE_mono hF c E env hp0 _ _ w fun d h1 q ρ1 H1 v p1 t1 hr1 rv1 => ⟨v, rfl, ?_⟩⟩
  obtain ⟨r, e, q⟩ := ws_iff.mp q
  exact ⟨ρ1, h1, [d], r, hr1, .cons rv1 .nil, e, PV.weak p1 t1 q⟩
omit hF in
theorem op_isM : L2.OpR X (PySem.compareOp .Is) (liftC X fun x y h => cmpS .is x y h) ∧ L2.OpR X (PySem.compareOp .IsNot) (liftC X fun x y h => cmpS .isnt x y h) := by
  have key : ∀ {ρ : List Addr} {H : LHp} {x y : D} {v u : LV} {v' u' : Value} {k : Bool}, RV X.K ρ H x v → RV X.K ρ H y u → L2.RelV v v' → L2.RelV u u' → isS x y = some k → ((∀ z, v' ≠ .builtin z) ∧ (u' = .none ∨ ∃ b, u' = .bool b)) ∧ (v' == u') = k := by
    intro ρ H x y v u v' u' k rx ry rv ru e
    have nb : ∀ z, v' ≠ .builtin z := fun z h => by
      subst h
      cases rx <;> first | (cases rv; done) | (obtain ⟨t, e⟩ := rv; cases e; done)
    cases y <;> simp only [isS] at e <;> first | (cases e; done) | skip
    · cases ry; cases ru; cases e
      refine ⟨⟨nb, .inl rfl⟩, ?_⟩
      cases rx <;> first | (cases rv; rfl) | (obtain ⟨t, rfl⟩ := rv; rfl)
    · cases ry; cases ru; cases e
      refine ⟨⟨nb, .inr ⟨_, rfl⟩⟩, ?_⟩
      rename_i b
      cases rx <;> first | (cases rv; rfl) | (obtain ⟨t, rfl⟩ := rv; rfl) | skip
      cases rv
      rename_i c
      show (Value.bool c == Value.bool b) = (b == c)
      cases b <;> cases c <;> rfl
  have run : ∀ {s : PySem.Shared} {v' u' : Value} {Q : Value → PySem.Shared → Prop}, ((∀ z, v' ≠ .builtin z) ∧ (u' = .none ∨ ∃ b, u' = .bool b)) → (Q (.bool (v' == u')) s → PySem.wpAny (PySem.model X.prog X.w) X.A (PySem.compareOp .Is v' u') Q X.xe s) ∧ (Q (.bool !(v' == u')) s → PySem.wpAny (PySem.model X.prog X.w) X.A (PySem.compareOp .IsNot v' u') Q X.xe s) := by
    intro s v' u' Q ⟨nb, hu⟩
    rcases hu with rfl | ⟨b, rfl⟩
    · exact ⟨fun q => by cases v' <;> exact PySem.wpAny_pure q, fun q => by cases v' <;> exact PySem.wpAny_pure q⟩
    · exact ⟨fun q => by cases v' <;> first | exact PySem.wpAny_pure q | exact absurd rfl (nb _), fun q => by cases v' <;> first | exact PySem.wpAny_pure q | exact absurd rfl (nb _)⟩
  refine ⟨?_, ?_⟩
  · intro pins s σ H v u v' u' Q I rv ru ⟨ρ, hp, x, y, r, hr, rx, ry, e, q⟩
    obtain ⟨k, e2, rfl⟩ := Option.map_eq_some_iff.mp e
    obtain ⟨h1, h2⟩ := key rx ry rv ru e2
    exact (run h1).1 ⟨.bl k, H, I, congrArg Value.bool h2, PV.here q hr (.bl k)⟩
  · intro pins s σ H v u v' u' Q I rv ru ⟨ρ, hp, x, y, r, hr, rx, ry, e, q⟩
    obtain ⟨k, e2, rfl⟩ := Option.map_eq_some_iff.mp e
    have e3 : (isS x y).map not = some k := e2
    obtain ⟨k', e4, hk⟩ := Option.map_eq_some_iff.mp e3
    subst hk
    obtain ⟨h1, h2⟩ := key rx ry rv ru e4
    exact (run h1).2 ⟨.bl (!k'), H, I, congrArg (fun z => Value.bool !z) h2, PV.here q hr (.bl _)⟩
end
end M

end
section
set_option Elab.async false
set_option linter.all false
set_option autoImplicit false
set_option maxRecDepth 100000
set_option maxHeartbeats 4000000
/-! walks, targets -/
namespace M
open PySem (Addr Obj Value Str PyData Heap NestedKey Expr)
/-! ### targets -/
/-- all but these slots stay -/
def SetsOnly (is : List Nat) (σ σ' : L2.St) : Prop := σ'.length = σ.length ∧ ∀ i, i ∉ is → σ'[i]? = σ[i]?
theorem SetsOnly.refl {is : List Nat} (σ : L2.St) : SetsOnly is σ σ := ⟨rfl, fun _ _ => rfl⟩
theorem SetsOnly.trans {is js : List Nat} {σ σ1 σ2 : L2.St} (a : SetsOnly is σ σ1) (b : SetsOnly js σ1 σ2) : SetsOnly (is ++ js) σ σ2 :=
  ⟨b.1.trans a.1, fun i h => by
    rw [List.mem_append, not_or] at h
    exact (b.2 i h.2).trans (a.2 i h.1)⟩
theorem wipe_get (σ : L2.St) : ∀ (vs : List Nat) (i : Nat), (L2.wipe σ vs)[i]? = if i ∈ vs ∧ i < σ.length then some none else σ[i]?
  | [], i => by simp [L2.wipe]
  | v :: vs, i => by
    unfold L2.wipe
    by_cases h : v = i
    · subst h
      by_cases hl : v < σ.length
      · rw [List.getElem?_set_self (by rw [L2.wipe_length]; exact hl), if_pos ⟨List.mem_cons_self, hl⟩]
      · rw [List.getElem?_eq_none (by rw [List.length_set, L2.wipe_length]; omega), if_neg (fun z => hl z.2), List.getElem?_eq_none (by omega)]
    · rw [List.getElem?_set_ne h, wipe_get σ vs i]
      by_cases hm : i ∈ vs ∧ i < σ.length
      · rw [if_pos hm, if_pos ⟨List.mem_cons_of_mem _ hm.1, hm.2⟩]
      · rw [if_neg hm, if_neg (fun z => hm ⟨(List.mem_cons.mp z.1).resolve_left (fun e => h e.symm), z.2⟩)]
theorem SetsOnly.wipe {is vs : List Nat} {σ σ' : L2.St} (a : SetsOnly is σ σ') (h : ∀ i ∈ is, i ∈ vs) : L2.wipe σ' vs = L2.wipe σ vs := by
  refine List.ext_getElem? fun i => ?_
  rw [wipe_get, wipe_get, a.1]
  by_cases hm : i ∈ vs ∧ i < σ.length
  · rw [if_pos hm, if_pos hm]
  · rw [if_neg hm, if_neg hm]
    by_cases hi : i ∈ vs
    · have hl : ¬ i < σ.length := fun z => hm ⟨hi, z⟩
      rw [List.getElem?_eq_none (by rw [a.1]; omega), List.getElem?_eq_none (by omega)]
    · exact a.2 i fun z => hi (h i z)
theorem wipe_wipe (σ : L2.St) (vs : List Nat) : L2.wipe (L2.wipe σ vs) vs = L2.wipe σ vs := by
  refine List.ext_getElem? fun i => ?_
  rw [wipe_get, wipe_get, L2.wipe_length]
  by_cases hm : i ∈ vs ∧ i < σ.length
  · rw [if_pos hm, if_pos hm]
  · rw [if_neg hm]
section
variable {X : L2.Cx}
/-- a target's reading -/
def gM (X : L2.Cx) (p : Pat) : L2.TG := fun v σ H Q => ∃ ρ env d, EnvR X.K ρ H env σ ∧ RV X.K ρ H d v ∧ wpP p d env fun e2 => ∀ σ2, EnvR X.K ρ H e2 σ2 → SetsOnly (slotsP p) σ σ2 → Q σ2 H
def gsM (X : L2.Cx) (ps : List Pat) : L2.TGs := fun vs σ H Q => ∃ ρ env ds, EnvR X.K ρ H env σ ∧ RVs X.K ρ H ds vs ∧ wpPs ps ds env fun e2 => ∀ σ2, EnvR X.K ρ H e2 σ2 → SetsOnly (slotsPs ps) σ σ2 → Q σ2 H
theorem PG.imp {e : Expr} {t t' : L2.TG} (h : L2.PG X e t) (k : ∀ v σ H Q, t' v σ H Q → t v σ H Q) : L2.PG X e t' := ⟨fun pins s σ H v u Q I r q => h.run pins s σ H v u Q I r (k v σ H Q q)⟩
theorem PGs.imp {e : List Expr} {t t' : L2.TGs} (h : L2.PGs X e t) (k : ∀ v σ H Q, t' v σ H Q → t v σ H Q) : L2.PGs X e t' := ⟨fun pins s σ H v u Q I r q => h.run pins s σ H v u Q I r (k v σ H Q q)⟩
theorem pg_slotM {i : Nat} {x : Str} {pos : PySem.Pos} (hN : X.N.Nodup) (hi : X.N[i]? = some x) (hx : L2.Loc X.env.scope x) (hf : X.fn x = true ∨ X.env.scope.names.lookup x = some .local) : L2.PG X (.Name x pos) (gM X (.slot i)) :=
  PG.imp (L2.pg_name hN hi hx hf) fun v σ H Q ⟨ρ, env, d, he, rv, w⟩ => by
    unfold wpP at w
    exact w.2 _ (he.set rv) ⟨by simp, fun j hj => by
      have : i ≠ j := fun e => hj (by rw [e]; simp [slotsP])
      exact List.getElem?_set_ne this⟩
theorem pgs_nilM : L2.PGs X [] (gsM X []) := PGs.imp L2.pgs_nil fun v σ H Q ⟨ρ, env, ds, he, rv, w⟩ => by
  cases ds with
  | nil =>
    unfold wpPs at w
    cases rv
    exact ⟨rfl, w σ he (SetsOnly.refl _)⟩
  | cons d ds => unfold wpPs at w; exact w.elim
theorem each_plain {e : Expr} {es : List Expr} {env : PySem.Env} (h : plainE e = true) : PySem.assignEach (e :: es) env = (false, PySem.assign e env) :: PySem.assignEach es env := by
  cases e <;> first | rfl | exact Bool.noConfusion h
theorem pgs_consM {e : Expr} {es : List Expr} {p : Pat} {ps : List Pat} (h1 : L2.PG X e (gM X p)) (h2 : L2.PGs X es (gsM X ps)) (hp : plainE e = true) : L2.PGs X (e :: es) (gsM X (p :: ps)) :=
  PGs.imp (L2.pgs_cons h1 h2 (by rw [each_plain hp]; rfl)) fun v σ H Q ⟨ρ, env, ds, he, rv, w⟩ => by
    cases rv with
    | nil => unfold wpPs at w; exact w.elim
    | cons r1 r2 =>
      unfold wpPs at w
      refine ⟨_, _, rfl, ρ, env, _, he, r1, wpP_mono _ _ _ _ _ w fun e1 w σ1 he1 s1 => ⟨ρ, e1, _, he1, r2, wpPs_mono _ _ _ _ _ w fun e2 w σ2 he2 s2 => w σ2 he2 (by
        unfold slotsPs
        exact s1.trans s2)⟩⟩
theorem each_len {es : List Expr} {env : PySem.Env} (h : es.all plainE = true) : PySem.assignEach es env = es.map fun e => (false, PySem.assign e env) := by
  induction es with
  | nil => rfl
  | cons e es ih =>
    rw [List.all_cons, Bool.and_eq_true] at h
    rw [each_plain h.1, ih h.2, List.map_cons]
theorem wpPs_len : ∀ (ps : List Pat) (ds : List D) (env : Env) (Q : Env → Prop), wpPs ps ds env Q → ds.length = ps.length
  | [], [], _, _, _ => rfl
  | [], _ :: _, _, _, h => by unfold wpPs at h; exact h.elim
  | _ :: _, [], _, _, h => by unfold wpPs at h; exact h.elim
  | p :: ps, d :: ds, env, Q, h => by
    unfold wpPs at h
    have key : ∀ (p : Pat) (v : D) (env : Env) (Q : Env → Prop), wpP p v env Q → ∃ e, Q e := fun p v env Q => wpP_some p v env Q
    obtain ⟨e, h⟩ := key _ _ _ _ h
    rw [List.length_cons, List.length_cons, wpPs_len ps ds e Q h]
where
  wpP_some : ∀ (p : Pat) (v : D) (env : Env) (Q : Env → Prop), wpP p v env Q → ∃ e, Q e
  | .slot i, v, env, Q, h => by unfold wpP at h; exact ⟨_, h.2⟩
  | .tup ps, v, env, Q, h => by
    unfold wpP at h
    cases v with
    | tup xs => exact wpPs_some ps xs env Q h
    | _ => exact h.elim
  wpPs_some : ∀ (ps : List Pat) (v : List D) (env : Env) (Q : Env → Prop), wpPs ps v env Q → ∃ e, Q e
  | [], [], env, Q, h => by unfold wpPs at h; exact ⟨_, h⟩
  | [], _ :: _, _, _, h => by unfold wpPs at h; exact h.elim
  | _ :: _, [], _, _, h => by unfold wpPs at h; exact h.elim
  | p :: ps, d :: ds, env, Q, h => by
    unfold wpPs at h
    obtain ⟨e, h⟩ := wpP_some p d env _ h
    exact wpPs_some ps ds e Q h
theorem pg_tupM {es : List Expr} {k : Nat} {pos : PySem.Pos} {ps : List Pat} (hc : X.calm = true) (h : L2.PGs X es (gsM X ps)) (hp : es.all plainE = true) (hl : es.length = ps.length) : L2.PG X (.Tuple es k pos) (gM X (.tup ps)) :=
  PG.imp (L2.pg_tup (n := ps.length) hc h (by rw [each_len hp, List.length_map, hl]) (by
    rw [each_len hp]
    induction es with
    | nil => rfl
    | cons e es ih => simp)) fun v σ H Q ⟨ρ, env, d, he, rv, w⟩ => by
    unfold wpP at w
    cases d <;> first | exact w.elim | skip
    rename_i xs
    obtain ⟨a, ys, rfl, sq, r⟩ := rv.tup_inv
    have hlen := wpPs_len ps xs env _ w
    exact ⟨a, ys, rfl, sq, by rw [← r.length, hlen], ρ, env, xs, he, r, by unfold slotsP at w; exact w⟩
end
end M

end
section
set_option Elab.async false
set_option linter.all false
set_option autoImplicit false
set_option maxRecDepth 100000
set_option maxHeartbeats 4000000
/-! zip of lists and tuples, mixed -/
namespace M
open PySem (Addr Obj Value Str Heap Expr)
def IsIt (k : Bool) (h : Heap) (it a : Addr) (i : Nat) : Prop := if k = true then h.IsListIter it a i else h.IsTupleIter it a i
def IsSq (k : Bool) (h : Heap) (a : Addr) (xs : Array Value) : Prop := if k = true then h.IsList a xs else h.IsTuple a xs
def itN (k : Bool) : String := if k = true then "list_iterator" else "tuple_iterator"
theorem IsSq.keep {k : Bool} {h h' : Heap} {a : Addr} {xs : Array Value} (s : IsSq k h a xs) (kp : ∀ o, h.get? a = some o → h'.get? a = some o) : IsSq k h' a xs := by
  cases k
  · obtain ⟨o, e, r⟩ := s
    exact ⟨o, kp o e, r⟩
  · exact PySem.Heap.IsList.at (show h.IsList a xs from s) kp
theorem IsIt.keep {k : Bool} {h h' : Heap} {it a : Addr} {i : Nat} (s : IsIt k h it a i) (kp : ∀ o, h.get? it = some o → h'.get? it = some o) : IsIt k h' it a i := by
  cases k
  · exact PySem.Heap.IsTupleIter.at (show h.IsTupleIter it a i from s) kp
  · exact PySem.Heap.IsListIter.at (show h.IsListIter it a i from s) kp
theorem draws_sq {prog : PySem.Program} {w : PySem.World} {A : PySem.Around} (k : Bool) (hh : A.handled = none) (it l : Addr) (hne : l ≠ it) (items : Array Value) :
    PySem.Draws prog w A it [it, l] items.size (fun i v => items[i]? = some v) (fun i h => IsIt k h it l i ∧ IsSq k h l items) where
  live := fun _ _ st => by
    cases k
    · obtain ⟨o, ho, _⟩ := (show Heap.IsTupleIter _ it l _ from st.1); exact ⟨o, ho⟩
    · obtain ⟨o, ho, _⟩ := (show Heap.IsListIter _ it l _ from st.1); exact ⟨o, ho⟩
  frame := fun _ _ _ st hk => ⟨st.1.keep fun o e => hk it (by simp) o e, st.2.keep fun o e => hk l (by simp) o e⟩
  item := fun i s Q E hi st hQ => by
    cases k
    · refine RZ.nextOf_tuple_item (show s.heap.IsTupleIter it l i from st.1) (show s.heap.IsTuple l items from st.2) (x := items[i]) (by simp [hi]) fun h' hit' hs' => ?_
      exact hQ _ h' s.toks (by simp [hi]) ⟨hit', st.2.keep fun o e => (hs'.2 l hne).trans e⟩ hs'
    · refine PySem.wpAny_nextOf_list_item (show s.heap.IsListIter it l i from st.1) (show s.heap.IsList l items from st.2) (x := items[i]) (by simp [hi]) fun h' hit' hs' => ?_
      exact hQ _ h' s.toks (by simp [hi]) ⟨hit', st.2.keep fun o e => (hs'.2 l hne).trans e⟩ hs'
  done := fun s Q E st hE => by
    cases k
    · exact RZ.nextOf_tuple_end hh (show s.heap.IsTupleIter it l _ from st.1) (show s.heap.IsTuple l items from st.2) (by simp) hE
    · exact PySem.wpAny_nextOf_list_end hh (show s.heap.IsListIter it l _ from st.1) (show s.heap.IsList l items from st.2) (by simp) hE
abbrev zH1 (k : Bool) (h : Heap) (l1 : Addr) : Heap := h.push { cls := .type (itN k), data := .fields #[.ref l1, .int 0 0] }
abbrev zH2 (k k' : Bool) (h : Heap) (l1 l2 : Addr) : Heap := (zH1 k h l1).push { cls := .type (itN k'), data := .fields #[.ref l2, .int 0 0] }
abbrev zH3 (k k' : Bool) (h : Heap) (l1 l2 : Addr) : Heap := (zH2 k k' h l1 l2).push { cls := .type "tuple", data := .seq #[.ref h.objs.size, .ref (zH1 k h l1).objs.size] }
abbrev zH4 (k k' : Bool) (h : Heap) (l1 l2 : Addr) : Heap := (zH3 k k' h l1 l2).push { cls := .type "tuple", data := .seq #[.none, .none] }
abbrev zH5 (k k' : Bool) (h : Heap) (l1 l2 : Addr) : Heap := (zH4 k k' h l1 l2).push { cls := .type "zip", data := .fields #[.none, .bool false, .bool false, .ref (zH2 k k' h l1 l2).objs.size, .ref (zH3 k k' h l1 l2).objs.size] }
end M
namespace PySem
open M
open Sem (wp)
theorem meets_zipM_new (k k' : Bool) (l1 l2 : Addr) (xs ys : Array Value) :
    Meets (Builtin.«zip.__new__» ⟨[.type "zip", .ref l1, .ref l2], []⟩) (fun _ R s => IsSq k s.heap l1 xs ∧ IsSq k' s.heap l2 ys ∧
      R (.ok (.ret (.ref (zH4 k k' s.heap l1 l2).objs.size))) { s with heap := zH5 k k' s.heap l1 l2 }) :=
  .of_wp fun prog w A R s h => by
    obtain ⟨hp, g, d, tk, os⟩ := s; obtain ⟨hl1, hl2, h⟩ := h
    have hsub := sub_zip
    cases k <;> cases k'
    · have hL1 : Heap.IsTuple (Shared.heap ⟨hp, g, d, tk, os⟩) l1 xs := hl1
      have hL2 : Heap.IsTuple (Shared.heap ⟨hp.push { cls := .type "tuple_iterator", data := .fields #[.ref l1, .int 0 0] }, g, d, tk, os⟩) l2 ys := Heap.IsTuple.push hl2 _
      wp_walk using wpAny_pyIter_tuple hL1, wpAny_pyIter_tuple hL2
      exact ⟨_, rfl, h⟩
    · have hL1 : Heap.IsTuple (Shared.heap ⟨hp, g, d, tk, os⟩) l1 xs := hl1
      have hL2 : Heap.IsList (Shared.heap ⟨hp.push { cls := .type "tuple_iterator", data := .fields #[.ref l1, .int 0 0] }, g, d, tk, os⟩) l2 ys := Heap.IsList.at (show hp.IsList l2 ys from hl2) fun o e => Heap.get?_push_of_some _ e
      wp_walk using wpAny_pyIter_tuple hL1, wpAny_pyIter_list hL2
      exact ⟨_, rfl, h⟩
    · have hL1 : Heap.IsList (Shared.heap ⟨hp, g, d, tk, os⟩) l1 xs := hl1
      have hL2 : Heap.IsTuple (Shared.heap ⟨hp.push { cls := .type "list_iterator", data := .fields #[.ref l1, .int 0 0] }, g, d, tk, os⟩) l2 ys := Heap.IsTuple.push hl2 _
      wp_walk using wpAny_pyIter_list hL1, wpAny_pyIter_tuple hL2
      exact ⟨_, rfl, h⟩
    · have hL1 : Heap.IsList (Shared.heap ⟨hp, g, d, tk, os⟩) l1 xs := hl1
      have hL2 : Heap.IsList (Shared.heap ⟨hp.push { cls := .type "list_iterator", data := .fields #[.ref l1, .int 0 0] }, g, d, tk, os⟩) l2 ys := Heap.IsList.at (show hp.IsList l2 ys from hl2) fun o e => Heap.get?_push_of_some _ e
      wp_walk using wpAny_pyIter_list hL1, wpAny_pyIter_list hL2
      exact ⟨_, rfl, h⟩
end PySem
namespace M
open PySem (Addr Obj Value Str Heap Expr)
section
variable {prog : PySem.Program} {w : PySem.World} {A : PySem.Around} {E : Value → PySem.Shared → Prop} {s : PySem.Shared}
theorem call_zipM (k k' : Bool) {l1 l2 : Addr} {xs ys : Array Value} {Q : Value → PySem.Shared → Prop} (hl1 : IsSq k s.heap l1 xs) (hl2 : IsSq k' s.heap l2 ys)
    (h : ∀ h', PySem.IsZip h' (s.heap.objs.size + 4) (s.heap.objs.size + 2) (s.heap.objs.size + 3) .none → PySem.IsTupOf2 h' (s.heap.objs.size + 2) (.ref s.heap.objs.size) (.ref (s.heap.objs.size + 1)) →
      PySem.IsTupOf2 h' (s.heap.objs.size + 3) .none .none → IsIt k h' s.heap.objs.size l1 0 → IsIt k' h' (s.heap.objs.size + 1) l2 0 →
      (∀ c o, s.heap.get? c = some o → h'.get? c = some o) → Q (.ref (s.heap.objs.size + 4)) { s with heap := h' }) :
    PySem.wpAny (PySem.model prog w) A (PySem.call (.type "zip") [.ref l1, .ref l2]) Q E s := by
  refine PySem.callType_new PySem.F.called_zip (by decide) (PySem.F.typeCall_zip_2 _ _) (PySem.F.newCall_zip_2 _ _) (fun obj => PySem.F.args_object_init_3 obj _ _) PySem.F.entry_zip_new
    (PySem.meets_zipM_new k k' l1 l2 xs ys) ⟨hl1, hl2, ?_⟩
  have z1 : (zH1 k s.heap l1).objs.size = s.heap.objs.size + 1 := PySem.Heap.size_push ..
  have z2 : (zH2 k k' s.heap l1 l2).objs.size = s.heap.objs.size + 2 := by rw [PySem.Heap.size_push, z1]
  have z3 : (zH3 k k' s.heap l1 l2).objs.size = s.heap.objs.size + 3 := by rw [PySem.Heap.size_push, z2]
  have z4 : (zH4 k k' s.heap l1 l2).objs.size = s.heap.objs.size + 4 := by rw [PySem.Heap.size_push, z3]
  have g5 : (zH5 k k' s.heap l1 l2).get? (zH4 k k' s.heap l1 l2).objs.size = some _ := PySem.Heap.get?_push_size _ rfl
  have g4 : (zH5 k k' s.heap l1 l2).get? (zH3 k k' s.heap l1 l2).objs.size = some _ := PySem.Heap.get?_push_of_some _ (PySem.Heap.get?_push_size _ rfl)
  have g3 : (zH5 k k' s.heap l1 l2).get? (zH2 k k' s.heap l1 l2).objs.size = some _ := PySem.Heap.get?_push_of_some _ (PySem.Heap.get?_push_of_some _ (PySem.Heap.get?_push_size _ rfl))
  have g2 : (zH5 k k' s.heap l1 l2).get? (zH1 k s.heap l1).objs.size = some _ := PySem.Heap.get?_push_of_some _ (PySem.Heap.get?_push_of_some _ (PySem.Heap.get?_push_of_some _ (PySem.Heap.get?_push_size _ rfl)))
  have g1 : (zH5 k k' s.heap l1 l2).get? s.heap.objs.size = some _ := PySem.Heap.get?_push_of_some _ (PySem.Heap.get?_push_of_some _ (PySem.Heap.get?_push_of_some _ (PySem.Heap.get?_push_of_some _ (PySem.Heap.get?_push_size _ rfl))))
  show _ ∧ _
  rw [z2, z3, z4] at g5
  rw [z1, z2] at g3
  rw [z3] at g4
  rw [z1] at g2
  rw [z4]
  refine ⟨⟨_, g5, rfl⟩, h _ g5 g3 g4 ?_ ?_ fun c o x =>
    PySem.Heap.get?_push_of_some _ (PySem.Heap.get?_push_of_some _ (PySem.Heap.get?_push_of_some _ (PySem.Heap.get?_push_of_some _ (PySem.Heap.get?_push_of_some _ x))))⟩
  · cases k <;> exact ⟨_, g1, rfl, rfl⟩
  · cases k' <;> exact ⟨_, g2, rfl, rfl⟩
end
/-- a list or a tuple, in the layer's words -/
def SqK (k : Bool) (K : PySem.W.Frag) (H : LHp) (a : Addr) (xs : List LV) : Prop := if k = true then L2.SqL K H a xs else L2.SqT K H a xs
theorem SqK.at {X : L2.Cx} {pins : List (Addr × Obj)} {σ : L2.St} {H : LHp} {s : PySem.Shared} (I : L2.Inv X pins σ H s) {k : Bool} {a : Addr} {xs : List LV} (h : SqK k X.K H a xs) : ∃ its : List Value, L2.Vals xs its ∧ IsSq k s.heap a its.toArray := by
  cases k
  · obtain ⟨its, rv, p, _⟩ := I.tuple (show L2.SqT X.K H a xs from h)
    exact ⟨its, rv, (show s.heap.IsTuple a its.toArray from p)⟩
  · obtain ⟨its, rv, p, _⟩ := I.list (show L2.SqL X.K H a xs from h)
    exact ⟨its, rv, p.isList⟩
theorem SqK.inj {X : L2.Cx} {pins : List (Addr × Obj)} {σ : L2.St} {H : LHp} {s : PySem.Shared} (I : L2.Inv X pins σ H s) {k : Bool} {a : Addr} {xs ys : List LV} (h : SqK k X.K H a xs) (h' : SqK k X.K H a ys) : xs = ys := by
  cases k
  · exact I.tuple_inj (show L2.SqT X.K H a xs from h) h'
  · exact I.list_inj (show L2.SqL X.K H a xs from h) h'
def Itm (k k' : Bool) (K : PySem.W.Frag) (a b : Addr) : L2.It :=
  ⟨fun i H => ∃ (xs ys : List LV) (x y : LV), SqK k K H a xs ∧ SqK k' K H b ys ∧ xs[i]? = some x ∧ ys[i]? = some y,
    fun i H v H' => ∃ T x y, v = .ref T ∧ H T = none ∧ H' = L2.upd H T (.tup [x, y]) ∧ (∀ xs, SqK k K H a xs → xs[i]? = some x) ∧ ∀ ys, SqK k' K H b ys → ys[i]? = some y,
    fun i H => ∃ xs ys : List LV, SqK k K H a xs ∧ SqK k' K H b ys ∧ i ≤ xs.length ∧ i ≤ ys.length ∧ (i = xs.length ∨ i = ys.length)⟩
theorem turn_zipM {P : PySem.Program} {w : PySem.World} {K : PySem.W.Frag} (k k' : Bool) {elts : List Expr} {kk : Nat} {tpos : PySem.Pos} {a b z TI TO i1 i2 : Addr} (D : PySem.ZipSep2 z TI TO i1 i2 [i1, a] [i2, b]) (hai : a ≠ i1) (hbi : b ≠ i2) :
    L2.Turn P w K (.Tuple elts kk tpos) (Itm k k' K a b) [z, TI, TO, i1, i2] z (fun i h => PySem.IsZip h z TI TO .none ∧ PySem.IsTupOf2 h TI (.ref i1) (.ref i2) ∧ (∃ x y, PySem.IsTupOf2 h TO x y) ∧ IsIt k h i1 a i ∧ IsIt k' h i2 b i) where
  mem := by simp
  obj := fun i h st c hc => by
    obtain ⟨hz, hTI, ⟨x, y, hTO⟩, h1, h2⟩ := st
    have e' : c = z ∨ c = TI ∨ c = TO ∨ c = i1 ∨ c = i2 := by simpa using hc
    rcases e' with q | q | q | q | q
    · rw [q]; exact ⟨_, hz, fun v q => nomatch q⟩
    · rw [q]; exact ⟨_, hTI, fun v q => nomatch q⟩
    · rw [q]; exact ⟨_, hTO, fun v q => nomatch q⟩
    · rw [q]
      cases k
      · obtain ⟨o, e, _, d⟩ := (show h.IsTupleIter i1 a i from h1); exact ⟨o, e, fun v q => by rw [d] at q; cases q⟩
      · obtain ⟨o, e, _, d⟩ := (show h.IsListIter i1 a i from h1); exact ⟨o, e, fun v q => by rw [d] at q; cases q⟩
    · rw [q]
      cases k'
      · obtain ⟨o, e, _, d⟩ := (show h.IsTupleIter i2 b i from h2); exact ⟨o, e, fun v q => by rw [d] at q; cases q⟩
      · obtain ⟨o, e, _, d⟩ := (show h.IsListIter i2 b i from h2); exact ⟨o, e, fun v q => by rw [d] at q; cases q⟩
  keep := fun i h h' st kp => by
    obtain ⟨hz, hTI, ⟨x, y, hTO⟩, h1, h2⟩ := st
    exact ⟨kp z (by simp) _ hz, kp TI (by simp) _ hTI, ⟨x, y, kp TO (by simp) _ hTO⟩, h1.keep fun o q => kp i1 (by simp) o q, h2.keep fun o q => kp i2 (by simp) o q⟩
  item := by
    intro X hP hw hK hc i pins s σ H E I hf st hg
    subst hP hw hK
    obtain ⟨hz, hTI, ⟨x0, y0, hTO⟩, h1, h2⟩ := st
    obtain ⟨xs, ys, x, y, hqx, hqy, hx, hy⟩ := hg
    obtain ⟨its, rv, p⟩ := SqK.at I hqx
    obtain ⟨its2, rv2, p2⟩ := SqK.at I hqy
    obtain ⟨u, hu, ru⟩ := rv.get hx
    obtain ⟨u2, hu2, ru2⟩ := rv2.get hy
    have hzl : z < s.heap.objs.size := PySem.Heap.lt_size hz
    have l1 : i < its.toArray.size := by have := (List.getElem?_eq_some_iff.mp hu).1; simpa using this
    have l2 : i < its2.toArray.size := by have := (List.getElem?_eq_some_iff.mp hu2).1; simpa using this
    refine PySem.wpAny_pyNext_zipD2_item D (draws_sq k (A := X.A.in1) (I.ok.hd hc) i1 a hai its.toArray) (draws_sq k' (A := X.A.in1) (I.ok.hd hc) i2 b hbi its2.toArray) hz hTI hTO ⟨h1, p⟩ ⟨h2, p2⟩ l1 l2 fun v1 v2 h' tk e1 e2 z' TO' h1' h2' hT hsz hk => ?_
    have q1 : v1 = u := by
      have : its[i]? = some v1 := by simpa using e1
      rw [hu] at this; exact (Option.some.inj this).symm
    have q2 : v2 = u2 := by
      have : its2[i]? = some v2 := by simpa using e2
      rw [hu2] at this; exact (Option.some.inj this).symm
    subst q1 q2
    refine ⟨_, rfl, PySem.wpAny_letOwnedTupleGo_zip (s := { s with heap := h', toks := tk }) z' fun h'' z'' sb => ?_⟩
    have hT2 : h''.get? s.heap.objs.size = some { cls := .type "tuple", data := .seq #[v1, v2] } := (sb.2 _ (Nat.ne_of_gt hzl)).trans hT
    have new : L2.ObjOk X.prog X.w (L2.upd H s.heap.objs.size (.tup [x, y])) h'' s.heap.objs.size (.tup [x, y]) :=
      ⟨by show 2 ≤ PySem.sizeLine; decide, [v1, v2], .cons ru (.cons ru2 .nil), ⟨_, hT2, rfl, _, rfl⟩⟩
    have I1 : L2.Inv X pins σ (L2.upd H s.heap.objs.size (.tup [x, y])) { s with heap := h'', toks := tk } :=
      I.turnedNew (t' := tk) (ch := [z, TI, TO, i1, i2]) (fun c o hb q => (sb.2 c (fun q' => hb (by simp [q']))).trans (hk c o (fun q' => hb (by simp [q'])) (fun q' => hb (by simp [q'])) (fun q' => hb (by simp [q'])) (fun q' => hb (by simp [q'])) q)) hf (Nat.le_refl _) new
    refine ⟨.ref s.heap.objs.size, _, I1, rfl, ⟨_, x, y, rfl, I.hok.fresh (Nat.le_refl _), rfl, fun l hl => by rw [SqK.inj I hl hqx]; exact hx, fun l hl => by rw [SqK.inj I hl hqy]; exact hy⟩, ⟨z'', ?_, ⟨v1, v2, ?_⟩, ?_, ?_⟩, fun c hcm => ?_⟩
    · exact (sb.2 _ D.TIz).trans (hk _ _ D.TIz D.TITO D.TIi1 D.TIi2 hTI)
    · exact (sb.2 _ D.TOz).trans TO'
    · exact h1'.1.keep fun o q => (sb.2 _ D.zi1.symm).trans q
    · exact h2'.1.keep fun o q => (sb.2 _ D.zi2.symm).trans q
    · have hlt : c < s.heap.objs.size := by
        have e' : c = z ∨ c = TI ∨ c = TO ∨ c = i1 ∨ c = i2 := by simpa using hcm
        rcases e' with q | q | q | q | q
        · rw [q]; exact hzl
        · rw [q]; exact PySem.Heap.lt_size hTI
        · rw [q]; exact PySem.Heap.lt_size hTO
        · rw [q]
          cases k
          · obtain ⟨_, e, _⟩ := (show s.heap.IsTupleIter i1 a i from h1); exact PySem.Heap.lt_size e
          · obtain ⟨_, e, _⟩ := (show s.heap.IsListIter i1 a i from h1); exact PySem.Heap.lt_size e
        · rw [q]
          cases k'
          · obtain ⟨_, e, _⟩ := (show s.heap.IsTupleIter i2 b i from h2); exact PySem.Heap.lt_size e
          · obtain ⟨_, e, _⟩ := (show s.heap.IsListIter i2 b i from h2); exact PySem.Heap.lt_size e
      rw [L2.upd_ne (Nat.ne_of_lt hlt)]
      exact (hf c hcm).1
  done := by
    intro X hP hw hK hc i pins s σ H E I hf st hg
    subst hP hw hK
    obtain ⟨hz, hTI, ⟨x0, y0, hTO⟩, h1, h2⟩ := st
    obtain ⟨xs, ys, hqx, hqy, le1, le2, hend⟩ := hg
    obtain ⟨its, rv, p⟩ := SqK.at I hqx
    obtain ⟨its2, rv2, p2⟩ := SqK.at I hqy
    have l1 := rv.length
    have l2 := rv2.length
    refine PySem.wpAny_pyNext_zipD2_end D (draws_sq k (A := X.A.in1) (I.ok.hd hc) i1 a hai its.toArray) (draws_sq k' (A := X.A.in1) (I.ok.hd hc) i2 b hbi its2.toArray) hz hTI hTO ⟨h1, p⟩ ⟨h2, p2⟩ (by simp; omega) (by simp; omega) (by simp; omega) fun h' tk hk => ⟨rfl, ?_⟩
    exact I.turnedL (t' := tk) (ch := [z, TI, TO, i1, i2]) (fun c o hb q => hk c o (fun q' => hb (by simp [q'])) (fun q' => hb (by simp [q'])) (fun q' => hb (by simp [q'])) (fun q' => hb (by simp [q'])) q) hf
  self := fun A i s Q E st h => PySem.wpAny_pyIter_zip st.1 h
theorem sep_of (n a b : Nat) (la : a < n) (lb : b < n) : PySem.ZipSep2 (n + 4) (n + 2) (n + 3) n (n + 1) [n, a] [n + 1, b] := by
  have f : ∀ (x y u : Nat), x ≠ y → x ≠ u → x ∉ ([y, u] : List Nat) := fun x y u h1 h2 h => by
    rcases List.mem_cons.mp h with e | e
    · exact h1 e
    · exact h2 (List.mem_singleton.mp e)
  have e1 : n + 2 ≠ n + 4 := by omega
  have e2 : n + 3 ≠ n + 4 := by omega
  have e3 : n + 2 ≠ n + 3 := by omega
  have e4 : n + 2 ≠ n := by omega
  have e5 : n + 2 ≠ n + 1 := by omega
  exact ⟨e1, e2, e3, e4, List.mem_cons_self, f _ _ _ (by omega) (by omega), f _ _ _ (by omega) (by omega), e5, List.mem_cons_self, f _ _ _ (by omega) (by omega), f _ _ _ (by omega) (by omega), f _ _ _ (by omega) (by omega), f _ _ _ (by omega) (by omega)⟩
theorem five_le (n c : Nat) (h : c = n + 4 ∨ c = n + 2 ∨ c = n + 3 ∨ c = n ∨ c = n + 1) : n ≤ c := by omega
theorem ne_one (n b : Nat) (h : b < n) : b ≠ n + 1 := by omega
def iZipM (K : PySem.W.Frag) (ta : L2.TA) : L2.TI := fun σ H R => ta σ H fun vs H1 => ∃ k k' a b xs ys, vs = [.ref a, .ref b] ∧ SqK k K H1 a xs ∧ SqK k' K H1 b ys ∧ R (Itm k k' K a b) H1
theorem pi_zipMx {X : L2.Cx} {e e2 : Expr} {ta : L2.TA} {p pos tpos : PySem.Pos} {elts : List Expr} {kk : Nat} (hg : L2.Gl X (PySem.Str.ofString "zip")) (hm : X.mg (PySem.Str.ofString "zip") = none) (ha : L2.PA X [e, e2] ta)
    (hs : PySem.starEach [e, e2] X.env = (false, PySem.eval e X.env) :: PySem.starEach [e2] X.env) (hpl : (PySem.backTo pos (PySem.starEach [e2] X.env)).any (·.1) = false) :
    L2.PI X (.Tuple elts kk tpos) (.Call (.Name (PySem.Str.ofString "zip") p) [e, e2] [] pos) (iZipM X.K ta) := by
  refine ⟨fun pins s σ H R I h => ?_⟩
  refine PyProof.Rows.Call_ (L2.ld_blt I hg hm PyProof.Rows.boot_zip (PyProof.Rows.callWith_type1 (L2.thn (ha.run pos pins s σ H _ I h) fun us s1 ⟨vs, H1, I1, r1, q1⟩ => ?_) hs hpl))
  obtain ⟨k, k', a, b, xs, ys, ex, hqx, hqy, q⟩ := q1
  subst ex
  cases r1 with
  | cons r rr =>
    cases rr with
    | cons r' rr =>
      cases rr
      cases r
      cases r'
      obtain ⟨its, rv, p1⟩ := SqK.at I1 hqx
      obtain ⟨its2, rv2, p2⟩ := SqK.at I1 hqy
      have lt : ∀ {k : Bool} {a : Addr} {xs : Array Value}, IsSq k s1.heap a xs → a < s1.heap.objs.size := fun {k a xs} h => by
        cases k
        · obtain ⟨o, e, _⟩ := (show s1.heap.IsTuple a xs from h); exact PySem.Heap.lt_size e
        · obtain ⟨o, e, _⟩ := (show s1.heap.IsList a xs from h); exact PySem.Heap.lt_size e
      have la := lt p1
      have lb := lt p2
      refine call_zipM k k' p1 p2 fun h' hz hTI hTO h1 h2 hk => PySem.wpAny_pyIter_zip hz ?_
      have I2 : L2.Inv X pins σ H1 { s1 with heap := h' } := I1.kept (t' := s1.toks) hk
      refine ⟨s1.heap.objs.size + 4, [s1.heap.objs.size + 4, s1.heap.objs.size + 2, s1.heap.objs.size + 3, s1.heap.objs.size, s1.heap.objs.size + 1], _, _, H1, rfl, I2, turn_zipM k k' (TI := s1.heap.objs.size + 2) (TO := s1.heap.objs.size + 3) (i1 := s1.heap.objs.size) (i2 := s1.heap.objs.size + 1) (sep_of _ _ _ la lb) (Nat.ne_of_lt la) (ne_one _ _ lb), ⟨hz, hTI, ⟨_, _, hTO⟩, h1, h2⟩, fun c hcm => ?_, q⟩
      · have e' : c = s1.heap.objs.size + 4 ∨ c = s1.heap.objs.size + 2 ∨ c = s1.heap.objs.size + 3 ∨ c = s1.heap.objs.size ∨ c = s1.heap.objs.size + 1 := by simpa using hcm
        have hle : s1.heap.objs.size ≤ c := five_le _ _ e'
        exact I1.fpOk hle (I1.hok.fresh hle)
end M

/-! enumerate of a list or a tuple -/
namespace PySem
open M
open Sem (wp)
set_option maxHeartbeats 4000000 in
theorem meets_enumB {v : Value} {o : Obj} {H : Heap → Prop} (B : Begins v o H) :
    Meets (Builtin.«enumerate.__new__» ⟨[.type "enumerate", v], []⟩) (fun _ R s => H s.heap ∧
      R (.ok (.ret (.ref (s.heap.push o).objs.size))) { s with heap := (s.heap.push o).push { cls := .type "enumerate", data := .fields #[.none, .bool false, .ref s.heap.objs.size, rawInt 0, .none, .none] } }) :=
  .of_wp fun prog w A R s h => by
    obtain ⟨hp, g, d, tk, os⟩ := s; obtain ⟨h1, h⟩ := h
    have hsub := sub_enumerate
    have q1 : ∀ {A' : Around} {E : Value → Shared → Prop} {Q : Value → Shared → Prop}, Q (.ref hp.objs.size) ⟨hp.push o, g, d, tk, os⟩ → wpAny (model prog w) A' (pyIter v) Q E ⟨hp, g, d, tk, os⟩ :=
      fun q => B.iter prog w _ _ ⟨hp, g, d, tk, os⟩ _ h1 q
    wp_walk using q1
    refine wpAny_stack_any fun st => wpAny_pure ?_
    split
    · rename_i c _ _ _ _ _
      cases (c == Value.type "enumerate")
      · wp_walk using q1
        exact ⟨_, rfl, h⟩
      · wp_walk using q1
        exact ⟨_, rfl, h⟩
    · wp_walk using q1
      exact ⟨_, rfl, h⟩
section
variable {prog : Program} {w : World} {A : Around} {E : Value → Shared → Prop} {s : Shared}
theorem call_enumB {v : Value} {o : Obj} {H : Heap → Prop} {Q : Value → Shared → Prop} (B : Begins v o H) (h1 : H s.heap)
    (h : ∀ h', IsEnum h' (s.heap.objs.size + 1) s.heap.objs.size 0 .none → h'.get? s.heap.objs.size = some o → h'.objs.size = s.heap.objs.size + 2 →
      (∀ b o, s.heap.get? b = some o → h'.get? b = some o) → Q (.ref (s.heap.objs.size + 1)) { s with heap := h' }) :
    wpAny (model prog w) A (call (.type "enumerate") [v]) Q E s := by
  refine callType_new F.called_enumerate (by decide) (F.typeCall_enumerate_1 _) (F.newCall_enumerate_1 _) (fun obj => F.args_object_init_2 obj _) F.entry_enumerate_new
    (meets_enumB B) ⟨h1, ?_⟩
  have hz : (s.heap.push o).objs.size = s.heap.objs.size + 1 := Heap.size_push ..
  show _ ∧ _
  rw [hz]
  have he : IsEnum ((s.heap.push o).push { cls := .type "enumerate", data := .fields #[.none, .bool false, .ref s.heap.objs.size, rawInt 0, .none, .none] }) (s.heap.objs.size + 1) s.heap.objs.size 0 .none := by
    have := Heap.get?_push_size (s.heap.push o) (o := { cls := .type "enumerate", data := .fields #[.none, .bool false, .ref s.heap.objs.size, rawInt 0, .none, .none] }) rfl
    rw [hz] at this; exact this
  refine ⟨⟨_, he, rfl⟩, h _ he (Heap.get?_push_of_some _ (Heap.get?_push_size _ B.free)) (by rw [Heap.size_push, hz]) fun b o x => Heap.get?_push_of_some _ (Heap.get?_push_of_some _ x)⟩
end
end PySem
namespace M
open PySem (Addr Obj Value Str Heap Expr)
theorem begins_sq (k : Bool) (a : Addr) (xs : Array Value) : PySem.Begins (.ref a) { cls := .type (itN k), data := .fields #[.ref a, .int 0 0] } fun h => IsSq k h a xs := by
  cases k
  · exact PySem.begins_tuple a xs
  · exact PySem.begins_list a xs
theorem IsIt.lt {k : Bool} {h : Heap} {it a : Addr} {i : Nat} (s : IsIt k h it a i) : it < h.objs.size := by
  cases k
  · obtain ⟨_, e, _⟩ := (show h.IsTupleIter it a i from s); exact PySem.Heap.lt_size e
  · obtain ⟨_, e, _⟩ := (show h.IsListIter it a i from s); exact PySem.Heap.lt_size e
theorem IsIt.new {k : Bool} {h : Heap} {it a : Addr} (e : h.get? it = some { cls := .type (itN k), data := .fields #[.ref a, .int 0 0] }) : IsIt k h it a 0 := by
  cases k
  · exact ⟨_, e, rfl, rfl⟩
  · exact ⟨_, e, rfl, rfl⟩
theorem IsSq.lt {k : Bool} {h : Heap} {a : Addr} {xs : Array Value} (s : IsSq k h a xs) : a < h.objs.size := by
  cases k
  · obtain ⟨o, e, _⟩ := (show h.IsTuple a xs from s); exact PySem.Heap.lt_size e
  · obtain ⟨o, e, _⟩ := (show h.IsList a xs from s); exact PySem.Heap.lt_size e
def IteM (k : Bool) (K : PySem.W.Frag) (a : Addr) : L2.It :=
  ⟨fun i H => ∃ (xs : List LV) (x : LV), SqK k K H a xs ∧ xs[i]? = some x,
    fun i H v H' => ∃ T x, v = .ref T ∧ H T = none ∧ H' = L2.upd H T (.tup [.int (i : Nat), x]) ∧ ∀ xs, SqK k K H a xs → xs[i]? = some x,
    fun i H => ∃ xs : List LV, SqK k K H a xs ∧ xs.length = i⟩
theorem turn_enumM {P : PySem.Program} {w : PySem.World} {K : PySem.W.Frag} (k : Bool) {elts : List Expr} {kk : Nat} {tpos : PySem.Pos} {a e it : Addr} (hai : a ≠ it) (hei : e ≠ it) (hea : e ≠ a) :
    L2.Turn P w K (.Tuple elts kk tpos) (IteM k K a) [e, it] e (fun i h => (∃ old, PySem.IsEnum h e it ((i : Nat) : Int) old) ∧ IsIt k h it a i) where
  mem := by simp
  obj := fun i h st b hb => by
    obtain ⟨⟨old, he⟩, h1⟩ := st
    have e' : b = e ∨ b = it := by simpa using hb
    rcases e' with z | z
    · rw [z]; exact ⟨_, he, fun v q => nomatch q⟩
    · rw [z]
      cases k
      · obtain ⟨o, e, _, d⟩ := (show h.IsTupleIter it a i from h1); exact ⟨o, e, fun v q => by rw [d] at q; cases q⟩
      · obtain ⟨o, e, _, d⟩ := (show h.IsListIter it a i from h1); exact ⟨o, e, fun v q => by rw [d] at q; cases q⟩
  keep := fun i h h' st kp => by
    obtain ⟨⟨old, he⟩, h1⟩ := st
    exact ⟨⟨old, kp e (by simp) _ he⟩, h1.keep fun o q => kp it (by simp) o q⟩
  item := by
    intro X hP hw hK hc i pins s σ H E I hf st hg
    subst hP hw hK
    obtain ⟨⟨old, he⟩, hit⟩ := st
    obtain ⟨xs, x, hq, hx⟩ := hg
    obtain ⟨its, rv, p⟩ := SqK.at I hq
    obtain ⟨u, hu, ru⟩ := rv.get hx
    have hel : e < s.heap.objs.size := PySem.Heap.lt_size he
    have hil : it < s.heap.objs.size := hit.lt
    have l1 : i < its.toArray.size := by have := (List.getElem?_eq_some_iff.mp hu).1; simpa using this
    refine PySem.wpAny_pyNext_enum_itemD (draws_sq k (A := X.A.in1) (I.ok.hd hc) it a hai its.toArray) he ⟨hit, p⟩ l1 hei (by simp [hei, hea]) fun v1 h' tk e1 ho hst hT hsz hk => ?_
    have q1 : v1 = u := by
      have : its[i]? = some v1 := by simpa using e1
      rw [hu] at this; exact (Option.some.inj this).symm
    subst q1
    refine ⟨_, rfl, PySem.wpAny_letOwnedTupleGo_enum (s := { s with heap := h', toks := tk + 1 }) ho fun h'' he' sb => ?_⟩
    have hT2 : h''.get? s.heap.objs.size = some { cls := .type "tuple", data := .seq #[.int i tk, v1] } := (sb.2 _ (Nat.ne_of_gt hel)).trans hT
    have new : L2.ObjOk X.prog X.w (L2.upd H s.heap.objs.size (.tup [.int (i : Nat), x])) h'' s.heap.objs.size (.tup [.int (i : Nat), x]) :=
      ⟨by show 2 ≤ PySem.sizeLine; decide, [.int i tk, v1], .cons ⟨_, rfl⟩ (.cons ru .nil), ⟨_, hT2, rfl, _, rfl⟩⟩
    have I1 : L2.Inv X pins σ (L2.upd H s.heap.objs.size (.tup [.int (i : Nat), x])) { s with heap := h'', toks := tk + 1 } :=
      I.turnedNew (t' := tk + 1) (ch := [e, it]) (fun b ob hb q => (sb.2 b (fun z => hb (by simp [z]))).trans (hk b ob (fun z => hb (by simp [z])) (fun z => hb (by simp [z])) q)) hf (Nat.le_refl _) new
    refine ⟨.ref s.heap.objs.size, _, I1, rfl, ⟨_, x, rfl, I.hok.fresh (Nat.le_refl _), rfl, fun ys hy => by rw [SqK.inj I hy hq]; exact hx⟩, ⟨⟨v1, ?_⟩, hst.1.keep fun o q => (sb.2 it (Ne.symm hei)).trans q⟩, fun b hb => ?_⟩
    · have e1 : ((i + 1 : Nat) : Int) = (i : Int) + 1 := by omega
      rw [e1]; exact he'
    · have hb' : b < s.heap.objs.size := by
        have e' : b = e ∨ b = it := by simpa using hb
        rcases e' with z | z
        · rw [z]; exact hel
        · rw [z]; exact hil
      rw [L2.upd_ne (Nat.ne_of_lt hb')]
      exact (hf b hb).1
  done := by
    intro X hP hw hK hc i pins s σ H E I hf st hg
    subst hP hw hK
    obtain ⟨⟨old, he⟩, hit⟩ := st
    obtain ⟨xs, hq, hx⟩ := hg
    obtain ⟨its, rv, p⟩ := SqK.at I hq
    have hl := rv.length
    have hs : its.toArray.size = i := by simp; omega
    refine PySem.wpAny_pyNext_enum_endD (draws_sq k (A := X.A.in1) (I.ok.hd hc) it a hai its.toArray) he (by rw [hs]; exact ⟨hit, p⟩) fun h' eb => ⟨rfl, ?_⟩
    exact I.turnedL (t' := s.toks) (ch := [e, it]) (fun c o hb q => eb c o (fun z => hb (by simp [z])) q) hf
  self := fun A i s Q E st h => let ⟨⟨_, he⟩, _⟩ := st; PySem.wpAny_pyIter_enum he h
def iEnumM (K : PySem.W.Frag) (ta : L2.TA) : L2.TI := fun σ H R => ta σ H fun vs H1 => ∃ k a xs, vs = [.ref a] ∧ SqK k K H1 a xs ∧ R (IteM k K a) H1
theorem pi_enumMx {X : L2.Cx} {e : Expr} {ta : L2.TA} {p pos tpos : PySem.Pos} {elts : List Expr} {kk : Nat} (hg : L2.Gl X (PySem.Str.ofString "enumerate")) (hm : X.mg (PySem.Str.ofString "enumerate") = none) (ha : L2.PA X [e] ta)
    (hs : PySem.starEach [e] X.env = [(false, PySem.eval e X.env)]) :
    L2.PI X (.Tuple elts kk tpos) (.Call (.Name (PySem.Str.ofString "enumerate") p) [e] [] pos) (iEnumM X.K ta) := by
  refine ⟨fun pins s σ H R I h => ?_⟩
  refine PyProof.Rows.Call_ (L2.ld_blt I hg hm PyProof.Rows.boot_enumerate (PyProof.Rows.callWith_type1 (L2.thn (ha.run pos pins s σ H _ I h) fun us s1 ⟨vs, H1, I1, r1, q1⟩ => ?_) hs rfl))
  obtain ⟨k, a, xs, ex, hq, q⟩ := q1
  subst ex
  cases r1 with
  | cons r rr =>
    cases rr
    cases r
    obtain ⟨its, rv, p'⟩ := SqK.at I1 hq
    have la := p'.lt
    refine PySem.call_enumB (begins_sq k a its.toArray) p' fun h' he hit hsz hk => PySem.wpAny_pyIter_enum he ?_
    have I2 : L2.Inv X pins σ H1 { s1 with heap := h' } := I1.kept (t' := s1.toks) hk
    refine ⟨s1.heap.objs.size + 1, [s1.heap.objs.size + 1, s1.heap.objs.size], _, _, H1, rfl, I2, turn_enumM k (it := s1.heap.objs.size) (Nat.ne_of_lt la) (Nat.succ_ne_self _) (Nat.ne_of_gt (Nat.lt_succ_of_lt la)), ⟨⟨.none, he⟩, IsIt.new hit⟩, fun b hb => ?_, q⟩
    have e' : b = s1.heap.objs.size + 1 ∨ b = s1.heap.objs.size := by simpa using hb
    have hle : s1.heap.objs.size ≤ b := by
      rcases e' with z | z
      · rw [z]; exact Nat.le_add_right _ _
      · rw [z]; exact Nat.le_refl _
    exact I1.fpOk hle (I1.hok.fresh hle)
end M

end
section
set_option Elab.async false
set_option linter.all false
set_option autoImplicit false
set_option maxRecDepth 100000
set_option maxHeartbeats 4000000
/-! what a loop walks -/
namespace M
open PySem (Addr Obj Value Str PyData Heap NestedKey Expr)
/-- the iterator yields these items, as long as the cells stay -/
structure Walk (X : L2.Cx) (ρ0 : List Addr) (H0 : LHp) (J : L2.It) (xs : List D) (l : List (Nat × Cell)) : Prop where
  go : ∀ (ρ : List Addr) (hp : Hm) (H : LHp) (i : Nat) (d : D), ρ0 <+: ρ → TK H0 H → HRX X ρ hp H → still l hp → xs[i]? = some d → J.go i H ∧ ∀ x H', J.yld i H x H' → RV X.K ρ H' d x ∧ TK H H' ∧ HRX X ρ hp H'
  stop : ∀ (ρ : List Addr) (hp : Hm) (H : LHp) (i : Nat), ρ0 <+: ρ → TK H0 H → HRX X ρ hp H → still l hp → xs.length = i → J.stop i H
section
variable {X : L2.Cx} {F : FnS} (hF : FMono F) {E : XP}
/-- a source's reading -/
def iM (X : L2.Cx) (F : FnS) (E : XP) (k : IK) (it : List CE) : L2.TI := fun σ H R => ∃ ρ env hp, HRX X ρ hp H ∧ EnvR X.K ρ H env σ ∧
  wpEs F E it env hp fun ds h1 => ws (iterS k ds h1) fun I => ∀ ρ1 H1 J, ρ <+: ρ1 → TK H H1 → HRX X ρ1 h1 H1 → Walk X ρ1 H1 J I.1 I.2 → R J H1
theorem PI.imp {tg e : Expr} {t t' : L2.TI} (h : L2.PI X tg e t) (k : ∀ σ H R, t' σ H R → t σ H R) : L2.PI X tg e t' := ⟨fun pins s σ H R I q => h.run pins s σ H R I (k σ H R q)⟩
theorem get_pre {ρ0 ρ : List Addr} {i : Nat} {a : Addr} (p : ρ0 <+: ρ) (h : ρ0[i]? = some a) : ρ[i]? = some a := pre_get p h
theorem getL_of {hp : Hm} {i : Nat} {c : Cell} {ds : List D} (h : hp[i]? = some c) (e : c = .lst ds ∨ c = .ro ds) : getL hp i = some ds := by
  unfold getL
  rcases e with rfl | rfl <;> rw [h]
theorem getL_cell {hp : Hm} {i : Nat} {ds : List D} (h : getL hp i = some ds) : ∃ c, hp[i]? = some c ∧ (c = .lst ds ∨ c = .ro ds) := by
  unfold getL at h
  split at h
  · rename_i e; cases h; exact ⟨_, e, .inl rfl⟩
  · rename_i e; cases h; exact ⟨_, e, .inr rfl⟩
  · cases h
/-- the list at a cell, wherever it stays -/
theorem still_list {ρ0 ρ : List Addr} {hp0 hp : Hm} {H : LHp} {i : Nat} {a : Addr} {c : Cell} {ds : List D} (ha : ρ0[i]? = some a) (p : ρ0 <+: ρ) (hc : c = .lst ds ∨ c = .ro ds) (st : hp[i]? = some c) (hr : HRX X ρ hp H) : ∃ ys, L2.SqL X.K H a ys ∧ RVs X.K ρ H ds ys := by
  obtain ⟨a', ys, ha', sq, r⟩ := hr.getL (getL_of st hc)
  have := pre_get p ha
  rw [this] at ha'
  cases ha'
  exact ⟨ys, sq, r⟩
theorem walk_list {ρ0 : List Addr} {H0 : LHp} {i : Nat} {a : Addr} {c : Cell} {ds : List D} (ha : ρ0[i]? = some a) (hc : c = .lst ds ∨ c = .ro ds) : Walk X ρ0 H0 (L2.Itl X.K a) ds [(i, c)] where
  go ρ hp H k d p t hr st hk := by
    obtain ⟨ys, sq, r⟩ := still_list (hp0 := hp) ha p hc (st _ (List.mem_singleton_self _)) hr
    obtain ⟨v, hv, rv⟩ := r.get hk
    refine ⟨⟨ys, v, sq, hv⟩, fun x H' ⟨e, q⟩ => ?_⟩
    subst e
    have := q ys sq
    rw [hv] at this
    cases this
    exact ⟨rv, TK.refl _, hr⟩
  stop ρ hp H k p t hr st hk := by
    have hk := Nat.le_of_eq hk
    obtain ⟨ys, sq, r⟩ := still_list (hp0 := hp) ha p hc (st _ (List.mem_singleton_self _)) hr
    exact ⟨ys, sq, by rw [← r.length]; exact hk⟩
theorem walk_tup {ρ0 : List Addr} {H0 : LHp} {a : Addr} {ys : List LV} {ds : List D} (sq : L2.SqT X.K H0 a ys) (r : RVs X.K ρ0 H0 ds ys) : Walk X ρ0 H0 (L2.Itt X.K a) ds [] where
  go ρ hp H k d p t hr st hk := by
    have sq' := t.sqT sq
    obtain ⟨v, hv, rv⟩ := r.get hk
    refine ⟨⟨ys, v, sq', hv⟩, fun x H' ⟨e, q⟩ => ?_⟩
    subst e
    have := q ys sq'
    rw [hv] at this
    cases this
    exact ⟨rv.mono p t, TK.refl _, hr⟩
  stop ρ hp H k p t hr st hk := ⟨ys, t.sqT sq, by rw [← r.length]; exact Nat.le_of_eq hk⟩
theorem rng_get {lo : Int} {n i : Nat} {d : D} (h : (rngD lo n)[i]? = some d) : i < n ∧ d = .int (lo + i) := by
  unfold rngD at h
  rw [List.getElem?_map, Option.map_eq_some_iff] at h
  obtain ⟨j, h1, h2⟩ := h
  rw [List.getElem?_eq_some_iff] at h1
  obtain ⟨h1, h3⟩ := h1
  simp at h1 h3
  subst h3
  exact ⟨h1, h2.symm⟩
theorem walk_rng {ρ0 : List Addr} {H0 : LHp} (lo : Int) (n : Nat) : Walk X ρ0 H0 (L2.Itr lo n) (rngD lo n) [] where
  go ρ hp H k d p t hr st hk := by
    obtain ⟨h1, rfl⟩ := rng_get hk
    refine ⟨h1, fun x H' ⟨e, q⟩ => ?_⟩
    subst e q
    exact ⟨.int _, TK.refl _, hr⟩
  stop ρ hp H k p t hr st hk := by
    have hk := Nat.le_of_eq hk
    have : (rngD lo n).length = n := by simp [rngD]
    rw [this] at hk
    exact hk
include hF
/-- a list or a tuple -/
theorem pi_valM {tg e : Expr} {c : CE} (h : L2.PE X e (RE X F E c)) : L2.PI X tg e (iM X F E .val [c]) := by
  refine ⟨fun pins s σ H R I ⟨ρ, env, hp, hr, he, w⟩ => ?_⟩
  unfold wpEs at w
  refine ev hF h ⟨I, hr, he⟩ w fun v s1 d x ρ1 hp1 H1 N1 p1 t1 rv ru q => ?_
  unfold wpEs at q
  obtain ⟨J, e, q⟩ := ws_iff.mp q
  simp only [iterS, Option.bind_eq_some_iff, Option.map_eq_some_iff] at e
  obtain ⟨xs, e1, l, e2, rfl⟩ := e
  cases d <;> simp only [seqOf] at e1 <;> first | (cases e1; done) | skip
  · obtain ⟨a, ys, rfl, sq, r⟩ := rv.tup_inv
    cases e1
    simp only [leanOn] at e2
    cases e2
    cases ru
    obtain ⟨its, rv', pl, hz⟩ := N1.I.tuple sq
    refine PySem.wpAny_pyIter_tuple (show s1.heap.IsTuple a its.toArray from pl) ?_
    refine L2.pi_one (tk := s1.toks) N1.I _ (L2.turn_tuple a _) ⟨_, PySem.Heap.get?_push_size _ rfl, rfl, rfl⟩ (q ρ1 H1 _ p1 t1 N1.hr (walk_tup sq r))
  · obtain ⟨a, rfl, ha⟩ := rv.ref_inv
    cases ru
    obtain ⟨a', ys, ha', sq, r⟩ := N1.hr.getL e1
    obtain rfl := ref_eq ha ha'
    obtain ⟨c', hc', cc⟩ := getL_cell e1
    simp only [leanOn, hc', Option.map_some] at e2
    cases e2
    obtain ⟨its, rv', pl, hz⟩ := N1.I.list sq
    refine PySem.wpAny_pyIter_list pl.isList ?_
    exact L2.pi_one (tk := s1.toks) N1.I _ (L2.turn_list a _) ⟨_, PySem.Heap.get?_push_size _ rfl, rfl, rfl⟩ (q ρ1 H1 _ p1 t1 N1.hr (walk_list ha cc))

omit hF in
theorem one_plain {a : Expr} {env : PySem.Env} (h : plainE a = true) : PySem.starEach [a] env = [(false, PySem.eval a env)] := star_plain h
/-- range(a), range(a, b) -/
theorem pi_rng1M {tg a : Expr} {c : CE} {p pos : PySem.Pos} {x : Str} (hx : x = PySem.Str.ofString "range") (hg : L2.Gl X x) (hm : X.mg x = none) (ha : L2.PA X [a] (RA X F E [c])) (hp : plainE a = true) : L2.PI X tg (.Call (.Name x p) [a] [] pos) (iM X F E .range [c]) := by
  subst hx
  refine PI.imp (L2.pi_range1 hg hm ha (one_plain hp)) fun σ H R ⟨ρ, env, hp, hr, he, w⟩ => ⟨ρ, env, hp, hr, he, wpEs_mono hF [c] E env hp _ _ (wpEs_len hF [c] env hp _ w) fun ds h1 ⟨hl, q⟩ ρ1 H1 vs p1 t1 hr1 rv1 => ?_⟩
  obtain ⟨I, e, q⟩ := ws_iff.mp q
  rcases ds with _ | ⟨d, _ | ⟨d2, ds⟩⟩ <;> try (simp at hl; done)
  cases d <;> try (simp [iterS] at e; done)
  obtain ⟨v, rfl, rv⟩ := rv1.one_inv
  obtain rfl := rv.int_inv
  simp only [iterS] at e
  split at e
  · rename_i hs
    cases e
    have := small_le hs
    exact ⟨_, rfl, by omega, by omega, q ρ1 H1 _ p1 t1 hr1 (walk_rng 0 _)⟩
  · cases e
theorem pi_rng2M {tg a b : Expr} {c c' : CE} {p pos : PySem.Pos} {x : Str} (hx : x = PySem.Str.ofString "range") (hg : L2.Gl X x) (hm : X.mg x = none) (ha : L2.PA X [a, b] (RA X F E [c, c'])) (hp : plainE a = true) (hp' : plainE b = true) : L2.PI X tg (.Call (.Name x p) [a, b] [] pos) (iM X F E .range [c, c']) := by
  subst hx
  refine PI.imp (L2.pi_range2 hg hm ha (by rw [star_plain hp, one_plain hp']) (one_plain hp')) fun σ H R ⟨ρ, env, hp, hr, he, w⟩ => ⟨ρ, env, hp, hr, he, wpEs_mono hF [c, c'] E env hp _ _ (wpEs_len hF [c, c'] env hp _ w) fun ds h1 ⟨hl, q⟩ ρ1 H1 vs p1 t1 hr1 rv1 => ?_⟩
  obtain ⟨I, e, q⟩ := ws_iff.mp q
  rcases ds with _ | ⟨d, _ | ⟨d2, _ | ⟨d3, ds⟩⟩⟩ <;> try (simp at hl; done)
  cases d <;> cases d2 <;> try (simp [iterS] at e; done)
  obtain ⟨v, u, rfl, rv, ru⟩ := rv1.two_inv
  obtain rfl := rv.int_inv
  obtain rfl := ru.int_inv
  simp only [iterS] at e
  split at e
  · rename_i hs
    cases e
    rw [Bool.and_eq_true] at hs
    have := small_le hs.1
    have := small_le hs.2
    exact ⟨_, _, rfl, ⟨by omega, by omega, by omega, by omega⟩, q ρ1 H1 _ p1 t1 hr1 (walk_rng _ _)⟩
  · cases e
omit hF in
theorem zip_get {xs ys : List D} {i : Nat} {d : D} (h : (zipD xs ys)[i]? = some d) : ∃ x y, xs[i]? = some x ∧ ys[i]? = some y ∧ d = .tup [x, y] := by
  unfold zipD at h
  rw [List.getElem?_zipWith] at h
  split at h
  · rename_i x y h1 h2
    cases h
    exact ⟨x, y, h1, h2, rfl⟩
  · cases h
omit hF in
theorem zip_end {xs ys : List D} {i : Nat} (h : (zipD xs ys).length ≤ i) : xs.length ≤ i ∨ ys.length ≤ i := by
  unfold zipD at h
  rw [List.length_zipWith] at h
  omega
omit hF in
theorem new_pair {ρ : List Addr} {hp : Hm} {H : LHp} {T : Addr} {d e : D} {x y : LV} (hr : HRX X ρ hp H) (hn : H T = none) (r1 : RV X.K ρ H d x) (r2 : RV X.K ρ H e y) :
    RV X.K ρ (L2.upd H T (.tup [x, y])) (.tup [d, e]) (.ref T) ∧ TK H (L2.upd H T (.tup [x, y])) ∧ HRX X ρ hp (L2.upd H T (.tup [x, y])) := by
  have t : TK H (L2.upd H T (.tup [x, y])) := TK.new hn
  exact ⟨.tup (L2.SqT.of L2.upd_same) (.cons (r1.mono (List.prefix_refl _) t) (.cons (r2.mono (List.prefix_refl _) t) .nil)), t, hr.new hn⟩
omit hF in
/-- a list or a tuple that stays -/
theorem seq_stay {ρ0 : List Addr} {hp0 : Hm} {H0 : LHp} {d : D} {v : LV} {xs : List D} {l : List (Nat × Cell)} (hr0 : HRX X ρ0 hp0 H0) (rv : RV X.K ρ0 H0 d v) (e1 : seqOf hp0 d = some xs) (e2 : leanOn hp0 d = some l) :
    ∃ k a, v = .ref a ∧ (∃ ys, SqK k X.K H0 a ys) ∧ ∀ (ρ : List Addr) (hp : Hm) (H : LHp), ρ0 <+: ρ → TK H0 H → HRX X ρ hp H → still l hp → ∃ ys, SqK k X.K H a ys ∧ RVs X.K ρ H xs ys := by
  cases d <;> simp only [seqOf] at e1 <;> first | (cases e1; done) | skip
  · obtain ⟨a, ys, rfl, sq, r⟩ := rv.tup_inv
    cases e1
    exact ⟨false, a, rfl, ⟨ys, sq⟩, fun ρ hp H p t hr st => ⟨ys, t.sqT sq, r.mono p t⟩⟩
  · obtain ⟨a, rfl, ha⟩ := rv.ref_inv
    obtain ⟨c1, h1c, cc1⟩ := getL_cell e1
    simp only [leanOn, h1c, Option.map_some] at e2
    cases e2
    obtain ⟨a', zs, ha', sq, r⟩ := hr0.getL e1
    obtain rfl := ref_eq ha ha'
    exact ⟨true, a, rfl, ⟨zs, sq⟩, fun ρ hp H p t hr st => still_list (hp0 := hp) ha p cc1 (st _ (List.mem_singleton_self _)) hr⟩
theorem pi_zipM {a b : Expr} {elts : List Expr} {kk : Nat} {c c' : CE} {p pos tpos : PySem.Pos} {x : Str} (hx : x = PySem.Str.ofString "zip") (hg : L2.Gl X x) (hm : X.mg x = none) (ha : L2.PA X [a, b] (RA X F E [c, c'])) (hp : plainE a = true) (hp' : plainE b = true) : L2.PI X (.Tuple elts kk tpos) (.Call (.Name x p) [a, b] [] pos) (iM X F E .zip [c, c']) := by
  subst hx
  refine PI.imp (pi_zipMx hg hm ha (star_plain hp) (any_plain (by simp [hp']))) fun σ H R ⟨ρ, env, hp, hr, he, w⟩ => ⟨ρ, env, hp, hr, he, wpEs_mono hF [c, c'] E env hp _ _ (wpEs_len hF [c, c'] env hp _ w) fun ds h1 ⟨hl, q⟩ ρ1 H1 vs p1 t1 hr1 rv1 => ?_⟩
  obtain ⟨I, e, q⟩ := ws_iff.mp q
  rcases ds with _ | ⟨d, _ | ⟨d2, _ | ⟨d3, ds⟩⟩⟩ <;> try (simp at hl; done)
  obtain ⟨v, u, rfl, rv, ru⟩ := rv1.two_inv
  simp only [iterS, Option.bind_eq_some_iff, Option.map_eq_some_iff] at e
  obtain ⟨xs, e1, ys, e2, l, e3, m, e4, rfl⟩ := e
  obtain ⟨k, a1, rfl, ⟨q1, s1⟩, stay1⟩ := seq_stay hr1 rv e1 e3
  obtain ⟨k', b1, rfl, ⟨q2, s2⟩, stay2⟩ := seq_stay hr1 ru e2 e4
  refine ⟨k, k', a1, b1, q1, q2, rfl, s1, s2, q ρ1 H1 _ p1 t1 hr1 ⟨fun ρ hp H i d p t hr st hk => ?_, fun ρ hp H i p t hr st hk => ?_⟩⟩
  · obtain ⟨zs, sq, r⟩ := stay1 ρ hp H p t hr fun x hx => st x (List.mem_append_left _ hx)
    obtain ⟨ws, sq', r'⟩ := stay2 ρ hp H p t hr fun x hx => st x (List.mem_append_right _ hx)
    obtain ⟨x, y, h1, h2, rfl⟩ := zip_get hk
    obtain ⟨v, hv, rv⟩ := r.get h1
    obtain ⟨u, hu, ru⟩ := r'.get h2
    refine ⟨⟨zs, ws, v, u, sq, sq', hv, hu⟩, fun z H' ⟨T, x', y', e1, hn, e2, q1, q2⟩ => ?_⟩
    subst e1 e2
    have := q1 zs sq; rw [hv] at this; cases this
    have := q2 ws sq'; rw [hu] at this; cases this
    exact new_pair hr hn rv ru
  · obtain ⟨zs, sq, r⟩ := stay1 ρ hp H p t hr fun x hx => st x (List.mem_append_left _ hx)
    obtain ⟨ws, sq', r'⟩ := stay2 ρ hp H p t hr fun x hx => st x (List.mem_append_right _ hx)
    have l1 := r.length
    have l2 := r'.length
    have hz : (zipD xs ys).length = min xs.length ys.length := by unfold zipD; rw [List.length_zipWith]
    have hk : (zipD xs ys).length = i := hk
    exact ⟨zs, ws, sq, sq', by omega, by omega, by omega⟩
omit hF in
theorem enum_get {xs : List D} {i : Nat} {d : D} (h : (enumD xs)[i]? = some d) : ∃ x, xs[i]? = some x ∧ d = .tup [.int i, x] := by
  unfold enumD at h
  rw [List.getElem?_map, Option.map_eq_some_iff] at h
  obtain ⟨⟨x, j⟩, h1, h2⟩ := h
  rw [List.getElem?_zipIdx, Option.map_eq_some_iff] at h1
  obtain ⟨y, h3, h4⟩ := h1
  cases h4
  exact ⟨x, h3, by rw [← h2]; simp⟩
omit hF in
theorem enum_seq {d : D} {h : Hm} {xs : List D} {l : List (Nat × Cell)} (e : iterS .enum [d] h = some (xs, l)) : ∃ ys, seqOf h d = some ys ∧ leanOn h d = some l ∧ xs = enumD ys := by
  cases d <;> simp only [iterS] at e <;> first | (cases e; done) | skip
  · cases e
    exact ⟨_, rfl, rfl, rfl⟩
  · simp only [Option.bind_eq_some_iff, Option.map_eq_some_iff] at e
    obtain ⟨ys, e1, m, e2, e3⟩ := e
    cases e3
    exact ⟨ys, e1, e2, rfl⟩
theorem pi_enumM {a : Expr} {elts : List Expr} {kk : Nat} {c : CE} {p pos tpos : PySem.Pos} {x : Str} (hx : x = PySem.Str.ofString "enumerate") (hg : L2.Gl X x) (hm : X.mg x = none) (ha : L2.PA X [a] (RA X F E [c])) (hp : plainE a = true) : L2.PI X (.Tuple elts kk tpos) (.Call (.Name x p) [a] [] pos) (iM X F E .enum [c]) := by
  subst hx
  refine PI.imp (pi_enumMx hg hm ha (one_plain hp)) fun σ H R ⟨ρ, env, hp, hr, he, w⟩ => ⟨ρ, env, hp, hr, he, wpEs_mono hF [c] E env hp _ _ (wpEs_len hF [c] env hp _ w) fun ds h1 ⟨hl, q⟩ ρ1 H1 vs p1 t1 hr1 rv1 => ?_⟩
  obtain ⟨I, e, q⟩ := ws_iff.mp q
  rcases ds with _ | ⟨d, _ | ⟨d2, ds⟩⟩ <;> try (simp at hl; done)
  obtain ⟨v, rfl, rv⟩ := rv1.one_inv
  obtain ⟨xs, l⟩ := I
  obtain ⟨ys, e1, e2, rfl⟩ := enum_seq e
  obtain ⟨k, a1, rfl, ⟨q1, s1⟩, stay⟩ := seq_stay hr1 rv e1 e2
  refine ⟨k, a1, q1, rfl, s1, q ρ1 H1 _ p1 t1 hr1 ⟨fun ρ hp H i d p t hr st hk => ?_, fun ρ hp H i p t hr st hk => ?_⟩⟩
  · obtain ⟨zs, sq, r⟩ := stay ρ hp H p t hr st
    obtain ⟨x, h1, rfl⟩ := enum_get hk
    obtain ⟨v, hv, rv⟩ := r.get h1
    refine ⟨⟨zs, v, sq, hv⟩, fun z H' ⟨T, x', e1, hn, e2, q1⟩ => ?_⟩
    subst e1 e2
    have := q1 zs sq; rw [hv] at this; cases this
    exact new_pair hr hn (.int _) rv
  · obtain ⟨zs, sq, r⟩ := stay ρ hp H p t hr st
    have hk : (enumD ys).length = i := hk
    have l1 := r.length
    exact ⟨zs, sq, by rw [← l1, ← hk]; simp [enumD]⟩
end
end M

end
section
set_option Elab.async false
set_option linter.all false
set_option autoImplicit false
set_option maxRecDepth 100000
set_option maxHeartbeats 4000000
/-! dict comprehensions, keys of any kind -/
namespace M
open PySem (Addr Obj Value Str PyData Heap NestedKey Expr Shared wpAny model dictSet)
/-- what a turn's store at D asks: of whoever holds the invariant -/
def DSet (P : PySem.Program) (w : PySem.World) (K : PySem.W.Frag) (A : PySem.Around) (D : Addr) (y z : LV) (H : LHp) (Nx : LHp → Prop) : Prop :=
  ∀ (X : L2.Cx) (pins : List (Addr × Obj)) (σ : L2.St) (s : Shared) (u r : Value) (Q : Unit → Shared → Prop) (E : Value → Shared → Prop), X.prog = P → X.w = w → X.K = K → X.A = A → L2.Inv X pins σ H s → L2.RelV y u → L2.RelV z r →
    (∀ H' s', L2.Inv X pins σ H' s' → Nx H' → Q () s') → wpAny (model P w) A (dictSet D u r) Q E s
def tDX (X : L2.Cx) (wi : L2.TI) (g : L2.TG) (tt : L2.TT) (tk tv : L2.TE) (vs : List Nat) : L2.TE := fun σ H Q => wi σ H fun J H1 => ∀ D, H1 D = none → ∃ W : Nat → Nat → LHp → Prop, (∃ m, W 0 m (L2.upd H1 D (.dK []))) ∧ ∀ i m H, W i m H →
  (J.stop i H ∧ Q (.ref D) H) ∨ (J.go i H ∧ ∃ Nx : LHp → Prop, (∀ H', Nx H' → ∃ m', m' < m ∧ W (i + 1) m' H') ∧ ∀ x H', J.yld i H x H' → g x (L2.wipe σ vs) H' fun σ2 H2 => L2.wipe σ2 vs = L2.wipe σ vs ∧ tt σ2 H2 fun b H3 =>
    if b = true then tk σ2 H3 fun y H4 => tv σ2 H4 fun z H5 => DSet X.prog X.w X.K X.A D y z H5 Nx else Nx H3)
section
variable {X : L2.Cx}
open L2 PySem PySem.Spec PyProof.Rows in
theorem pe_dcX {kx vx tg iter : Expr} {ifs : List Expr} {scope : PySem.Scope} {own : List (Str × Nat)} {pos : PySem.Pos} {wi : L2.TI} {g : L2.TG} {tt : L2.TT} {tk tv : L2.TE} (hc : X.calm = true) (hN : X.N.Nodup) (hi : L2.PI X tg iter wi) (ok : L2.BlkOk X.N X.env.scope scope own)
    (hg : ∀ (s : Shared) (H : LHp) (C : Addr) (cl : List (Str × Addr)) (fp : List Addr), L2.PG (X.blk s H scope (PySem.compEnvC scope cl C X.env) fp) tg g) (ht : ∀ (s : Shared) (H : LHp) (C : Addr) (cl : List (Str × Addr)) (fp : List Addr), L2.PTs (X.blk s H scope (PySem.compEnvC scope cl C X.env) fp) ifs tt)
    (hk : ∀ (s : Shared) (H : LHp) (C : Addr) (cl : List (Str × Addr)) (fp : List Addr), L2.PE (X.blk s H scope (PySem.compEnvC scope cl C X.env) fp) kx tk)
    (he : ∀ (s : Shared) (H : LHp) (C : Addr) (cl : List (Str × Addr)) (fp : List Addr), L2.PE (X.blk s H scope (PySem.compEnvC scope cl C X.env) fp) vx tv) (hs : ∀ x, PySem.foldedSetIterable iter X.env x = pure x) :
    L2.PE X (.DictComp kx vx [⟨tg, iter, ifs, 0⟩] scope pos) (tDX X wi g tt tk tv (own.map (·.2))) := by
  refine ⟨fun pins s σ H Q I h => ?_⟩
  rw [arm_eval_DictComp]
  have hfree : ∀ y ∈ scope.names, y.2 = .free → ∃ c, X.env.cells.lookup y.1 = some c := fun y hy e => by
    rcases ok.free y hy e with k | k
    · exact I.ok.has _ (.inl k)
    · exact I.ok.has _ (.inr k)
  refine wpAny_comprehension_free (use := none) rfl hs (closure_ok hfree) ok.kind (fun y hy e => by rw [ok.uniq y hy, e])
    (thn (hi.run pins s σ H _ I h) fun xv s1 hx => thn hx fun itv s2 h2 => ?_)
  obtain ⟨it, fp, tn, J, H2, e, I2, T, st2, f2, q⟩ := h2
  subst e
  refine wpAny_newObj_type (newEnv_comp ?_)
  generalize hD : s2.heap.objs.size = D
  have hDn : H2 D = none := I2.hok.fresh (Nat.le_of_eq hD)
  obtain ⟨W, ⟨m0, w0⟩, turn⟩ := q D hDn
  generalize hs3 : ({ s2 with heap := s2.heap.push { cls := .type "dict", data := .dict #[] } } : Shared) = s3
  have I3 : Inv X pins σ (upd H2 D (.dK [])) s3 := by
    rw [← hs3]
    refine I2.laid (t' := s2.toks) (fun b o e => Heap.get?_push_of_some _ e) (Nat.le_of_eq hD) ?_
    rw [← hD]
    exact dk_empty s2.heap I2.big
  have h3 : s3.heap = s2.heap.push { cls := .type "dict", data := .dict #[] } := by rw [← hs3]
  have sz : ∀ b ∈ fp, b < s2.heap.objs.size := fun b hb => by
    obtain ⟨o, e, _⟩ := T.obj _ _ st2 b hb
    exact Heap.lt_size e
  have f3 : ∀ b ∈ fp, FpOk X pins (upd H2 D (.dK [])) b ∧ b < s3.heap.objs.size := fun b hb => by
    have hlt := sz b hb
    refine ⟨⟨?_, (f2 b hb).2⟩, by rw [h3, Heap.size_push]; exact Nat.lt_succ_of_lt hlt⟩
    rw [upd_ne (by rw [← hD]; exact Nat.ne_of_lt hlt)]
    exact (f2 b hb).1
  have st3 : tn 0 s3.heap := T.keep _ _ _ st2 fun b _ o e => by rw [h3]; exact Heap.get?_push_of_some _ e
  have I4 := block_start I3 ok hN f3
  have pg := hg s3 (upd H2 D (.dK [])) s3.heap.objs.size (cellsFrom (s3.heap.objs.size + 1) scope.names (cloFrom X.env.cells scope.names [])) fp
  have pt := ht s3 (upd H2 D (.dK [])) s3.heap.objs.size (cellsFrom (s3.heap.objs.size + 1) scope.names (cloFrom X.env.cells scope.names [])) fp
  have pk := hk s3 (upd H2 D (.dK [])) s3.heap.objs.size (cellsFrom (s3.heap.objs.size + 1) scope.names (cloFrom X.env.cells scope.names [])) fp
  have pe := he s3 (upd H2 D (.dK [])) s3.heap.objs.size (cellsFrom (s3.heap.objs.size + 1) scope.names (cloFrom X.env.cells scope.names [])) fp
  show codeAny _ _ (.compStart (.DictComp kx vx [⟨tg, iter, ifs, 0⟩] scope pos) 0 (.ref it) (.ref D) (compEnvC scope (cellsFrom (s3.heap.objs.size + 1) scope.names (cloFrom X.env.cells scope.names [])) s3.heap.objs.size X.env)) (compPost (model X.prog X.w) X.A X.xe none (EP X pins σ Q) (.ref D) s3.heap.objs.size) { s3 with heap := pushCells (s3.heap.push { cls := .type "dict", data := .dict #[] }) scope.names }
  have nfp : ∀ b ∈ fp, (upd H2 D (.dK [])) b = none := fun b hb => (f3 b hb).1.1
  generalize hce : compEnvC scope (cellsFrom (s3.heap.objs.size + 1) scope.names (cloFrom X.env.cells scope.names [])) s3.heap.objs.size X.env = ce at I4 pg pt pk pe ⊢
  have cL : ce.locals = s3.heap.objs.size := by subst hce; rfl
  generalize hH3 : upd H2 D (.dK []) = H3 at I3 I4 pg pt pk pe w0 nfp f3
  generalize hs4 : ({ s3 with heap := pushCells (s3.heap.push { cls := .type "dict", data := .dict #[] }) scope.names } : Shared) = s4 at I4 ⊢
  have st4 : tn 0 s4.heap := T.keep _ _ _ st3 fun b _ o e => by rw [← hs4]; exact pushCells_keeps _ _ _ _ (Heap.get?_push_of_some _ e)
  have stat : ∀ {σ' : L2.St} {H' : Hp} {s' : Shared}, Inv (X.blk s3 H3 scope ce fp) [] σ' H' s' → (∀ b ∈ fp, H' b = none) → ∀ b ∈ fp, FpOk (X.blk s3 H3 scope ce fp) [] H' b := fun {σ' H' s'} I' hn b hb =>
    ⟨hn b hb, (I'.ok.exf b hb).1, I'.ok.exfs b hb, .inl hb, fun x c e => (I'.ok.exf b hb).2 x c e, fun p hp => absurd (show p ∈ ([] : List (Addr × Obj)) ++ [] from hp) (by simp)⟩
  have loop : codeAny (model X.prog X.w) X.A (.compLoop (.DictComp kx vx [⟨tg, iter, ifs, 0⟩] scope pos) 0 (.ref it) (.ref D) ce) (compPost (model X.prog X.w) X.A X.xe none (EP X pins σ Q) (.ref D) s3.heap.objs.size) s4 := by
    refine compLoop_anyD (fun n s' => ∃ i H', Inv (X.blk s3 H3 scope ce fp) [] (wipe σ (own.map (·.2))) H' s' ∧ tn i s'.heap ∧ (∀ b ∈ fp, H' b = none) ∧ W i n H') ?_ m0 ⟨0, H3, I4, st4, nfp, w0⟩
    rintro n s5 ⟨i, H5, I5, st5, n5, w5⟩
    rcases turn i n H5 w5 with ⟨stop, qq⟩ | ⟨go, Nx, hNx, step⟩
    · have td := T.done (X.blk s3 H3 scope ce fp) rfl rfl rfl hc i [] s5 _ H5 (fun _ _ => False) I5 (stat I5 n5) st5 stop
      refine thnF td fun r s6 ⟨hr, I6⟩ => ?_
      subst hr
      have I7 : Inv X pins σ H5 s6 := I3.call' (ch := fp) I6.os I6.base I6.hok I6.bare fun b hb => ⟨(f3 b hb).1.2.2.2.1, (f3 b hb).1.2.1, (f3 b hb).1.2.2.2.2.1, (f3 b hb).1.2.2.2.2.2⟩
      have nC : H5 s3.heap.objs.size = none := by
        have z : H5 ce.locals = none := I6.free
        rw [cL] at z
        exact z
      obtain ⟨m, hn, _⟩ := I6.loc
      have hn : s6.heap.Ns ce.locals m := hn
      rw [cL] at hn
      have f := I3.fpOk (Nat.le_refl _) nC
      refine ⟨m, hn, fun h'' sb => ?_⟩
      obtain ⟨f0, f1, f2, f3, f4, f5⟩ := f
      exact ⟨.ref D, H5, I7.turned (t' := s6.toks) (fun b o hb e => (sb.2 b hb).trans e) f0 f1 f3 f4 f5, rfl, qq⟩
    · have ti := T.item (X.blk s3 H3 scope ce fp) rfl rfl rfl hc i [] s5 _ H5 (fun _ _ => False) I5 (stat I5 n5) st5 go
      refine thnF ti fun r s6 ⟨u, hr, h6⟩ => ?_
      subst hr
      refine thnF h6 fun _ s7 ⟨x, H7, I7, r7, y7, st7, n7⟩ => ?_
      have I7' := I7.pinned (stat I7 n7) (T.obj _ _ st7)
      refine thnF (pg.run _ s7 _ H7 x u _ I7' r7 (step x H7 y7)) fun _ s8 ⟨σ8, H8, I8, hw8, q8⟩ => ?_
      refine thnF (pt.run _ s8 σ8 H8 _ I8 q8) fun b s9 ⟨H9, I9, q9⟩ => ?_
      have fin : ∀ {s' : Shared} {H' : Hp}, Inv (X.blk s3 H3 scope ce fp) ([] ++ pinsAt fp s7.heap) σ8 H' s' → Nx H' → ∃ m, m < n ∧ ∃ i H', Inv (X.blk s3 H3 scope ce fp) [] (wipe σ (own.map (·.2))) H' s' ∧ tn i s'.heap ∧ (∀ b ∈ fp, H' b = none) ∧ W i m H' := fun {s' H'} I' nx => by
        obtain ⟨m', hm, w'⟩ := hNx H' nx
        have pin' : ∀ b ∈ fp, ∀ o, s7.heap.get? b = some o → s'.heap.get? b = some o ∧ H' b = none := fun b hb o e =>
          let z := I'.pin (b, o) (List.mem_append_right _ (List.mem_append_right _ (mem_pinsAt hb e)))
          ⟨z.1, z.2.1⟩
        have hl : (wipe σ (own.map (·.2))).length = σ8.length := by rw [← hw8, wipe_length]
        refine ⟨m', hm, i + 1, H', (I'.unpinned (pins := [])).weak hl (fun j v e => ?_), T.keep _ _ _ st7 fun b hb o e => (pin' b hb o e).1, fun b hb => ?_, w'⟩
        · rw [← hw8] at e
          exact (wipe_some e).1
        · obtain ⟨o, e, _⟩ := T.obj _ _ st7 b hb
          exact (pin' b hb o e).2
      cases b with
      | false =>
        simp only [Bool.false_eq_true, if_false] at q9 ⊢
        exact fin I9 q9
      | true =>
        simp only [if_true] at q9 ⊢
        refine thnF (pk.run _ s9 σ8 H9 _ I9 q9) fun z s10 ⟨yk, H10, I10, r10, q10⟩ => ?_
        refine thnF (pe.run _ s10 σ8 H10 _ I10 q10) fun z2 s11 ⟨yv, H11, I11, r11, ds⟩ => ?_
        exact ds (X.blk s3 H3 scope ce fp) _ σ8 s11 _ _ _ _ rfl rfl rfl rfl I11 r10 r11 fun H12 s12 I12 nx => fin I12 nx
  exact codeAny_compStart_dict loop (T.self X.A 0 _ _ _ st4 loop)
/-- the store of a comprehension's turn -/
theorem d_dset {pins : List (Addr × Obj)} {s : Shared} {σ : L2.St} {H : LHp} {ρ : List Addr} {E : Value → Shared → Prop} {a : Addr} {kvs : List (D × D)} (hu : X.A.units + 9 < PySem.cLine) (I : L2.Inv X pins σ H s) (hc : CellX X ρ H a (.dct kvs)) {k d : D} {kv dv : LV} {u r : Value} (hk : keyIn kvs k = true) (rk : RV X.K ρ H k kv) (ru : L2.RelV kv u) (rd : RV X.K ρ H d dv) (rr : L2.RelV dv r) (hl : kvs.length < LIM) {Q : Unit → Shared → Prop}
    (h : ∀ s' o' u', H a = some u' → Chg u' → L2.Inv X pins σ (L2.upd H a o') s' → CellX X ρ (L2.upd H a o') a (.dct (dput kvs k d)) → Q () s') : wpAny (model X.prog X.w) X.A (dictSet a u r) Q E s := by
  obtain ⟨_, u', hu', cu'⟩ := cell_mut hc
  rcases isTup_cases k with ht | ⟨ks, rfl⟩
  · obtain ⟨kvs', kk, e, rel, lk, z⟩ := leaf_of hc hk ht
    obtain rfl := leaf_rv lk rk
    have hl' : kvs'.length < PySem.sizeLine := by rw [lim_eq, ← rel.length]; exact hl
    refine L2.d_dictSet I e hl' ru rr fun s' I' => h s' _ u' hu' cu' I' (.inl ⟨_, L2.upd_same, (rel.put lk rk rd).mono (List.prefix_refl _) (TK.put e trivial), ?_⟩)
    have := dput_length kvs k d
    omega
  · obtain ⟨xs, hm, rel, hs, hz⟩ := keyed_of I hc hk
    have hk' : keyOK (.tup ks) = true := by unfold keyIn at hk; exact (Bool.and_eq_true_iff.mp hk).1
    obtain ⟨b, ys, rfl, _, _⟩ := rk.tup_inv
    cases ru
    have rm : (PySem.nestedKind X.prog X.w).room X.A := by
      show X.A.units + 8 < PySem.cLine
      omega
    refine PySem.wpAny_dictSet_heap (hsz := hz) rm (key_at I hk' rk) hm (fun h' dd sb => ?_)
    obtain ⟨o', I', c'⟩ := stored_cell I hc hk' rk rd rr rel hs hl dd sb
    exact h _ o' u' hu' cu' I' c'
end
end M

end
section
set_option Elab.async false
set_option linter.all false
set_option autoImplicit false
set_option maxRecDepth 100000
set_option maxHeartbeats 4000000
/-! comprehensions -/
namespace M
open PySem (Addr Obj Value Str PyData Heap NestedKey Expr)
section
variable {X : L2.Cx} {F : FnS} (hF : FMono F) {E : XP}
/-- a clause's tests -/
def tsM (X : L2.Cx) (F : FnS) (cs : List CE) : L2.TT := fun σ H Q => ∃ ρ env hp, HRX X ρ hp H ∧ EnvR X.K ρ H env σ ∧ wpCs F cs env hp fun b hp' => ∀ ρ' H', ρ <+: ρ' → TK H H' → HRX X ρ' hp' H' → Q b H'
theorem PTs.imp {es : List Expr} {t t' : L2.TT} (h : L2.PTs X es t) (k : ∀ σ H Q, t' σ H Q → t σ H Q) : L2.PTs X es t' := ⟨fun pins s σ H Q I q => h.run pins s σ H Q I (k σ H Q q)⟩
theorem pts_nilM : L2.PTs X [] (tsM X F []) := PTs.imp L2.pts_nil fun σ H Q ⟨ρ, env, hp, hr, he, w⟩ => by
  unfold wpCs at w
  exact w ρ H (List.prefix_refl _) (TK.refl _) hr
include hF in
theorem pts_oneM {e : Expr} {c : CE} (h : L2.PT X e (RT X F (fun _ _ _ => False) c)) : L2.PTs X [e] (tsM X F [c]) := PTs.imp (L2.pts_one h) fun σ H Q ⟨ρ, env, hp, hr, he, w⟩ => by
  unfold wpCs at w
  refine ⟨ρ, env, hp, hr, he, wpE_mono hF c _ env hp _ _ w fun d h1 q => ws_mono q fun b q ρ' H' p t hr' => ?_⟩
  cases b with
  | true => unfold wpCs at q; exact q ρ' H' p t hr'
  | false => exact q ρ' H' p t hr'
theorem EnvR.wiped {K : PySem.W.Frag} {ρ : List Addr} {H : LHp} {env : Env} {σ σ' : L2.St} {vs : List Nat} (h : EnvR K ρ H env σ) (e : L2.wipe σ' vs = L2.wipe σ vs) (hl : σ'.length = σ.length) : EnvR K ρ H (wipeE env vs) σ' := by
  have a := h.wipe vs
  rw [← e] at a
  refine ⟨by rw [← a.1, L2.wipe_length], fun i d hd => ?_⟩
  obtain ⟨v, h1, h2⟩ := a.2 i d hd
  exact ⟨v, (L2.wipe_some h1).1, h2⟩
theorem drop_cons {α : Type} {xs : List α} {i : Nat} {x : α} {r : List α} (h : xs.drop i = x :: r) : xs[i]? = some x ∧ xs.drop (i + 1) = r := by
  have h1 : i < xs.length := by
    apply Classical.byContradiction
    intro z
    rw [List.drop_eq_nil_of_le (by omega)] at h
    cases h
  rw [List.drop_eq_getElem_cons h1] at h
  injection h with h2 h3
  exact ⟨by rw [List.getElem?_eq_getElem h1, h2], h3⟩
theorem drop_nil {α : Type} {xs : List α} {i : Nat} (h : xs.drop i = []) : xs.length ≤ i := by simpa using h
theorem getM_of {hp : Hm} {i : Nat} {ds : List D} (h : hp[i]? = some (.lst ds)) : getM hp i = some ds := by
  unfold getM; rw [h]
include hF
/-- the turns of a list comprehension -/
theorem lc_turns {k : IK} {it cs : List CE} {p : Pat} {elt : CE} {own : List Nat} (hs : ∀ i ∈ slotsP p, i ∈ own) {σ : L2.St} {H : LHp} {Q : L2.VK} (h : RE X F E (.comp own p k it cs elt) σ H Q) :
    L2.tLc (iM X F E k it) (gM X p) (tsM X F cs) (RE X F (fun _ _ _ => False) elt) own σ H Q := by
  obtain ⟨ρ, env, hp, hr, he, w⟩ := h
  unfold wpE at w
  refine ⟨ρ, env, hp, hr, he, wpEs_mono hF it E env hp _ _ w fun ds h1 q => ws_mono q fun I q ρ1 H1 J p1 t1 hr1 W => ?_⟩
  intro A hA
  -- the new list
  have c0 : CellX X (ρ1 ++ [A]) (L2.upd H1 A (.lst [])) A (.lst []) := ⟨[], L2.upd_same, .nil⟩
  have hr0 := hr1.alloc hA c0 fun _ z => nomatch z
  have t0 : TK H1 (L2.upd H1 A (.lst [])) := TK.new hA
  have hAi : (ρ1 ++ [A])[h1.length]? = some A := by rw [← hr1.len]; simp
  have he1 := he.mono p1 t1
  refine ⟨fun i m H2 => m = I.1.length - i ∧ i ≤ I.1.length ∧ ∃ ρ2 hp2, ρ1 ++ [A] <+: ρ2 ∧ TK (L2.upd H1 A (.lst [])) H2 ∧ HRX X ρ2 hp2 H2 ∧ compL I.2 h1.length (fun x h2 R => wpP p x (wipeE env own) fun e2 => wpCs F cs e2 h2 fun k h3 => if k = true then wpE F (fun _ _ _ => False) elt e2 h3 fun y h4 => R (some y) h4 else R none h3) (fun h5 => PVX X ρ H Q (.ref h1.length) h5) (I.1.drop i) hp2,
    ⟨_, rfl, Nat.zero_le _, ρ1 ++ [A], h1 ++ [.lst []], List.prefix_refl _, TK.refl _, hr0, by rw [List.drop_zero]; exact q⟩, ?_⟩
  rintro i m H2 ⟨rfl, hi, ρ2, hp2, p2, t2, hr2, w2⟩
  have p12 : ρ1 <+: ρ2 := (pre_snoc _ _).trans p2
  have t12 : TK H1 H2 := t0.trans t2
  cases hd : I.1.drop i with
  | nil =>
    rw [hd] at w2
    refine .inl ⟨W.stop ρ2 hp2 H2 i p12 t12 hr2 w2.1 (Nat.le_antisymm (drop_nil hd) hi), ?_⟩
    exact w2.2 ρ2 H2 _ (p1.trans p12) (t1.trans t12) hr2 (.ref (pre_get p2 hAi))
  | cons x r =>
    rw [hd] at w2
    obtain ⟨hx, hr'⟩ := drop_cons hd
    have hlt : i < I.1.length := (List.getElem?_eq_some_iff.mp hx).1
    obtain ⟨go, yl⟩ := W.go ρ2 hp2 H2 i x p12 t12 hr2 w2.1 hx
    refine .inr ⟨go, fun H3 => ∃ ρ3 hp3, ρ1 ++ [A] <+: ρ3 ∧ TK (L2.upd H1 A (.lst [])) H3 ∧ HRX X ρ3 hp3 H3 ∧ compL I.2 h1.length (fun x h2 R => wpP p x (wipeE env own) fun e2 => wpCs F cs e2 h2 fun k h3 => if k = true then wpE F (fun _ _ _ => False) elt e2 h3 fun y h4 => R (some y) h4 else R none h3) (fun h5 => PVX X ρ H Q (.ref h1.length) h5) r hp3, ?_, ?_⟩
    · rintro H3 ⟨ρ3, hp3, q1, q2, q3, q4⟩
      exact ⟨I.1.length - (i + 1), by omega, rfl, hlt, ρ3, hp3, q1, q2, q3, by rw [hr']; exact q4⟩
    · intro y H3 hy
      obtain ⟨rv, t3, hr3⟩ := yl y H3 hy
      have he3 : EnvR X.K ρ2 H3 (wipeE env own) (L2.wipe σ own) := (he1.mono p12 (t12.trans t3)).wipe own
      refine ⟨ρ2, wipeE env own, x, he3, rv, wpP_mono _ _ _ _ _ w2.2 fun e2 w4 σ2 he2 so => ⟨?_, ?_⟩⟩
      · rw [so.wipe hs, wipe_wipe]
      refine ⟨ρ2, e2, hp2, hr3, he2, wpCs_mono hF cs e2 hp2 _ _ w4 fun b h5 w5 ρ5 H5 p5 t5 hr5 => ?_⟩
      cases b with
      | false => exact ⟨ρ5, h5, p2.trans p5, t2.trans (t3.trans t5), hr5, w5⟩
      | true =>
        refine ⟨ρ5, e2, h5, hr5, he2.mono p5 t5, wpE_mono hF elt _ e2 h5 _ _ w5 fun d h6 w6 ρ6 H6 v p6 t6 hr6 rv6 => ?_⟩
        obtain ⟨acc, ea, w7⟩ := ws_iff.mp w6
        obtain ⟨a', ys, ha', hc', h1', h2'⟩ := hr6.getM ea
        have hA6 := pre_get (p2.trans (p5.trans p6)) hAi
        rw [hA6] at ha'
        cases ha'
        refine ⟨ys, h1', by rw [lim_eq, ← h2'.length]; exact w7.1, ρ6, _, p2.trans (p5.trans p6), ?_, ?_, w7.2⟩
        · exact t2.trans (t3.trans (t5.trans (t6.trans (TK.put h1' trivial))))
        · have t7 : TK H6 (L2.upd H6 A (.lst (ys ++ [v]))) := TK.put h1' trivial
          exact hr6.put hA6 hc' (fun _ z => nomatch z) h1' trivial (fun _ z => nomatch z) ⟨_, L2.upd_same, (h2'.append (.cons rv6 .nil)).mono (List.prefix_refl _) t7⟩
theorem pe_compM {elt tg iter : Expr} {ifs : List Expr} {scope : PySem.Scope} {own : List (Str × Nat)} {pos : PySem.Pos} {k : IK} {it cs : List CE} {p : Pat} {ce : CE} (hs : ∀ i ∈ slotsP p, i ∈ own.map (·.2)) (hc : X.calm = true) (hN : X.N.Nodup) (hi : L2.PI X tg iter (iM X F E k it)) (ok : L2.BlkOk X.N X.env.scope scope own)
    (hg : ∀ (s : PySem.Shared) (H : LHp) (C : Addr) (cl : List (Str × Addr)) (fp : List Addr), L2.PG (X.blk s H scope (PySem.compEnvC scope cl C X.env) fp) tg (gM X p)) (ht : ∀ (s : PySem.Shared) (H : LHp) (C : Addr) (cl : List (Str × Addr)) (fp : List Addr), L2.PTs (X.blk s H scope (PySem.compEnvC scope cl C X.env) fp) ifs (tsM X F cs))
    (he : ∀ (s : PySem.Shared) (H : LHp) (C : Addr) (cl : List (Str × Addr)) (fp : List Addr), L2.PE (X.blk s H scope (PySem.compEnvC scope cl C X.env) fp) elt (RE X F (fun _ _ _ => False) ce)) (hsi : ∀ x, PySem.foldedSetIterable iter X.env x = pure x) :
    L2.PE X (.ListComp elt [⟨tg, iter, ifs, 0⟩] scope pos) (RE X F E (.comp (own.map (·.2)) p k it cs ce)) :=
  PE.imp (L2.pe_lc hc hN hi ok hg ht he hsi) fun σ H Q h => lc_turns hF hs h
theorem ps_compM {i : Nat} {y : Str} {py : PySem.Pos} {elt tg iter : Expr} {ifs : List Expr} {scope : PySem.Scope} {own : List (Str × Nat)} {pos spos : PySem.Pos} {k : IK} {it cs : List CE} {p : Pat} {ce : CE} (hs : ∀ i ∈ slotsP p, i ∈ own.map (·.2)) (hc : X.calm = true) (hN : X.N.Nodup) (hy : X.N[i]? = some y) (hyl : X.env.scope.names.lookup y = some .local)
    (hsw : PySem.swapsWith (.ListComp elt [⟨tg, iter, ifs, 0⟩] scope pos) (some (.Name y py)) spos.line X.env = pure true) (hi : L2.PI X tg iter (iM X F E k it)) (ok : L2.BlkOk X.N X.env.scope scope own)
    (hg : ∀ (s : PySem.Shared) (H : LHp) (C : Addr) (cl : List (Str × Addr)) (fp : List Addr), L2.PG (X.blk s H scope (PySem.compEnvC scope cl C X.env) fp) tg (gM X p)) (ht : ∀ (s : PySem.Shared) (H : LHp) (C : Addr) (cl : List (Str × Addr)) (fp : List Addr), L2.PTs (X.blk s H scope (PySem.compEnvC scope cl C X.env) fp) ifs (tsM X F cs))
    (he : ∀ (s : PySem.Shared) (H : LHp) (C : Addr) (cl : List (Str × Addr)) (fp : List Addr), L2.PE (X.blk s H scope (PySem.compEnvC scope cl C X.env) fp) elt (RE X F (fun _ _ _ => False) ce)) (hsi : ∀ x, PySem.foldedSetIterable iter X.env x = pure x) :
    L2.PS X (.Assign [.Name y py] (.ListComp elt [⟨tg, iter, ifs, 0⟩] scope pos) spos) (L2.tAsg (RE X F E (.comp (own.map (·.2)) p k it cs ce)) (L2.gName i)) :=
  PS.imp (L2.ps_setLc hc hN hy hyl hsw hi ok hg ht he hsi) fun D σ H h => lc_turns hF hs h
/-- the turns of a dict comprehension -/
theorem dc_turns (hu : X.A.units + 9 < PySem.cLine) {k : IK} {it cs : List CE} {p : Pat} {ke va : CE} {own : List Nat} (hs : ∀ i ∈ slotsP p, i ∈ own) {σ : L2.St} {H : LHp} {Q : L2.VK} (h : RE X F E (.dcomp own p k it cs ke va) σ H Q) :
    tDX X (iM X F E k it) (gM X p) (tsM X F cs) (RE X F (fun _ _ _ => False) ke) (RE X F (fun _ _ _ => False) va) own σ H Q := by
  obtain ⟨ρ, env, hp, hr, he, w⟩ := h
  unfold wpE at w
  refine ⟨ρ, env, hp, hr, he, wpEs_mono hF it E env hp _ _ w fun ds h1 q => ws_mono q fun I q ρ1 H1 J p1 t1 hr1 W => ?_⟩
  intro A hA
  have c0 : CellX X (ρ1 ++ [A]) (L2.upd H1 A (.dK [])) A (.dct []) := .inl ⟨[], L2.upd_same, .nil, Nat.zero_le _⟩
  have hr0 := hr1.alloc hA c0 fun _ z => nomatch z
  have t0 : TK H1 (L2.upd H1 A (.dK [])) := TK.new hA
  have hAi : (ρ1 ++ [A])[h1.length]? = some A := by rw [← hr1.len]; simp
  have he1 := he.mono p1 t1
  refine ⟨fun i m H2 => m = I.1.length - i ∧ i ≤ I.1.length ∧ ∃ ρ2 hp2, ρ1 ++ [A] <+: ρ2 ∧ TK (L2.upd H1 A (.dK [])) H2 ∧ HRX X ρ2 hp2 H2 ∧ dcompL I.2 h1.length (fun x h2 R => wpP p x (wipeE env own) fun e2 => wpCs F cs e2 h2 fun k h3 => if k = true then wpE F (fun _ _ _ => False) ke e2 h3 fun y h4 => wpE F (fun _ _ _ => False) va e2 h4 fun z h5 => R (some (y, z)) h5 else R none h3) (fun h5 => PVX X ρ H Q (.ref h1.length) h5) (I.1.drop i) hp2,
    ⟨_, rfl, Nat.zero_le _, ρ1 ++ [A], h1 ++ [.dct []], List.prefix_refl _, TK.refl _, hr0, by rw [List.drop_zero]; exact q⟩, ?_⟩
  rintro i m H2 ⟨rfl, hi, ρ2, hp2, p2, t2, hr2, w2⟩
  have p12 : ρ1 <+: ρ2 := (pre_snoc _ _).trans p2
  have t12 : TK H1 H2 := t0.trans t2
  cases hd : I.1.drop i with
  | nil =>
    rw [hd] at w2
    refine .inl ⟨W.stop ρ2 hp2 H2 i p12 t12 hr2 w2.1 (Nat.le_antisymm (drop_nil hd) hi), ?_⟩
    exact w2.2 ρ2 H2 _ (p1.trans p12) (t1.trans t12) hr2 (.ref (pre_get p2 hAi))
  | cons x r =>
    rw [hd] at w2
    obtain ⟨hx, hr'⟩ := drop_cons hd
    have hlt : i < I.1.length := (List.getElem?_eq_some_iff.mp hx).1
    obtain ⟨go, yl⟩ := W.go ρ2 hp2 H2 i x p12 t12 hr2 w2.1 hx
    refine .inr ⟨go, fun H3 => ∃ ρ3 hp3, ρ1 ++ [A] <+: ρ3 ∧ TK (L2.upd H1 A (.dK [])) H3 ∧ HRX X ρ3 hp3 H3 ∧ dcompL I.2 h1.length (fun x h2 R => wpP p x (wipeE env own) fun e2 => wpCs F cs e2 h2 fun k h3 => if k = true then wpE F (fun _ _ _ => False) ke e2 h3 fun y h4 => wpE F (fun _ _ _ => False) va e2 h4 fun z h5 => R (some (y, z)) h5 else R none h3) (fun h5 => PVX X ρ H Q (.ref h1.length) h5) r hp3, ?_, ?_⟩
    · rintro H3 ⟨ρ3, hp3, q1, q2, q3, q4⟩
      exact ⟨I.1.length - (i + 1), by omega, rfl, hlt, ρ3, hp3, q1, q2, q3, by rw [hr']; exact q4⟩
    · intro y H3 hy
      obtain ⟨rv, t3, hr3⟩ := yl y H3 hy
      have he3 : EnvR X.K ρ2 H3 (wipeE env own) (L2.wipe σ own) := (he1.mono p12 (t12.trans t3)).wipe own
      refine ⟨ρ2, wipeE env own, x, he3, rv, wpP_mono _ _ _ _ _ w2.2 fun e2 w4 σ2 he2 so => ⟨?_, ?_⟩⟩
      · rw [so.wipe hs, wipe_wipe]
      refine ⟨ρ2, e2, hp2, hr3, he2, wpCs_mono hF cs e2 hp2 _ _ w4 fun b h5 w5 ρ5 H5 p5 t5 hr5 => ?_⟩
      cases b with
      | false => exact ⟨ρ5, h5, p2.trans p5, t2.trans (t3.trans t5), hr5, w5⟩
      | true =>
        refine ⟨ρ5, e2, h5, hr5, he2.mono p5 t5, wpE_mono hF ke _ e2 h5 _ _ w5 fun d h6 w6 ρ6 H6 v p6 t6 hr6 rv6 => ?_⟩
        refine ⟨ρ6, e2, h6, hr6, he2.mono (p5.trans p6) (t5.trans t6), wpE_mono hF va _ e2 h6 _ _ w6 fun d7 h7 w7 ρ7 H7 v7 p7 t7 hr7 rv7 => ?_⟩
        obtain ⟨acc, ea, w8⟩ := ws_iff.mp w7
        have hA7 := pre_get (p2.trans (p5.trans (p6.trans p7))) hAi
        have hx7 := getK_at ea
        have hc7 := hr7.ok _ A _ hA7 hx7
        have rk := rv6.mono p7 t7
        intro X' pins' σ' s' u r Q' E' ep ew eK eA I' ru rr done
        have hcx : CellX X' = CellX X := by show CellOk X'.prog X'.w X'.K = CellOk X.prog X.w X.K; rw [ep, ew, eK]
        rw [← ep, ← ew, ← eA]
        refine d_dset (X := X') (ρ := ρ7) (kvs := acc) (k := d) (d := d7) (by rw [eA]; exact hu) I' (by rw [hcx]; exact hc7) w8.1 (by rw [eK]; exact rk) ru (by rw [eK]; exact rv7) rr w8.2.1 fun s2 o2 u2 e7 cu I2 c2 => done _ _ I2 ?_
        rw [hcx] at c2
        exact ⟨ρ7, _, p2.trans (p5.trans (p6.trans p7)), t2.trans (t3.trans (t5.trans (t6.trans (t7.trans (TK.put e7 cu))))), hr7.put hA7 hx7 (by intro _ z; cases z) e7 cu (by intro _ z; cases z) c2, w8.2.2⟩
theorem pe_dcompM {kx vx tg iter : Expr} {ifs : List Expr} {scope : PySem.Scope} {own : List (Str × Nat)} {pos : PySem.Pos} {k : IK} {it cs : List CE} {p : Pat} {ck cv : CE} (hs : ∀ i ∈ slotsP p, i ∈ own.map (·.2)) (hc : X.calm = true) (hN : X.N.Nodup) (hi : L2.PI X tg iter (iM X F E k it)) (ok : L2.BlkOk X.N X.env.scope scope own)
    (hg : ∀ (s : PySem.Shared) (H : LHp) (C : Addr) (cl : List (Str × Addr)) (fp : List Addr), L2.PG (X.blk s H scope (PySem.compEnvC scope cl C X.env) fp) tg (gM X p)) (ht : ∀ (s : PySem.Shared) (H : LHp) (C : Addr) (cl : List (Str × Addr)) (fp : List Addr), L2.PTs (X.blk s H scope (PySem.compEnvC scope cl C X.env) fp) ifs (tsM X F cs))
    (hu : X.A.units + 9 < PySem.cLine) (hk : ∀ (s : PySem.Shared) (H : LHp) (C : Addr) (cl : List (Str × Addr)) (fp : List Addr), L2.PE (X.blk s H scope (PySem.compEnvC scope cl C X.env) fp) kx (RE X F (fun _ _ _ => False) ck))
    (he : ∀ (s : PySem.Shared) (H : LHp) (C : Addr) (cl : List (Str × Addr)) (fp : List Addr), L2.PE (X.blk s H scope (PySem.compEnvC scope cl C X.env) fp) vx (RE X F (fun _ _ _ => False) cv)) (hsi : ∀ x, PySem.foldedSetIterable iter X.env x = pure x) :
    L2.PE X (.DictComp kx vx [⟨tg, iter, ifs, 0⟩] scope pos) (RE X F E (.dcomp (own.map (·.2)) p k it cs ck cv)) :=
  PE.imp (pe_dcX hc hN hi ok hg ht hk he hsi) fun σ H Q h => dc_turns hF hu hs h
end
end M

end
section
set_option Elab.async false
set_option linter.all false
set_option autoImplicit false
set_option maxRecDepth 100000
set_option maxHeartbeats 4000000
/-! statements -/
namespace M
open PySem (Addr Obj Value Str PyData Heap NestedKey Expr Stmt)
/-- mini's ends ask for the layer's -/
structure EndsR (X : L2.Cx) (ρ : List Addr) (H : LHp) (Z : Ends) (D : L2.Ends) : Prop where
  nx : ∀ e' h' ρ' H' σ', Z.nx e' h' → ρ <+: ρ' → TK H H' → HRX X ρ' h' H' → EnvR X.K ρ' H' e' σ' → D.nx σ' H'
  rt : ∀ d h', Z.rt d h' → PVX X ρ H D.rt d h'
  bk : ∀ e' h' ρ' H' σ', Z.bk e' h' → ρ <+: ρ' → TK H H' → HRX X ρ' h' H' → EnvR X.K ρ' H' e' σ' → D.bk σ' H'
  ct : ∀ e' h' ρ' H' σ', Z.ct e' h' → ρ <+: ρ' → TK H H' → HRX X ρ' h' H' → EnvR X.K ρ' H' e' σ' → D.ct σ' H'
theorem EndsR.weak {X : L2.Cx} {ρ ρ1 : List Addr} {H H1 : LHp} {Z : Ends} {D : L2.Ends} (h : EndsR X ρ H Z D) (p : ρ <+: ρ1) (t : TK H H1) : EndsR X ρ1 H1 Z D :=
  ⟨fun e' h' ρ' H' σ' z p' t' => h.nx e' h' ρ' H' σ' z (p.trans p') (t.trans t'), fun d h' z => PV.weak p t (h.rt d h' z), fun e' h' ρ' H' σ' z p' t' => h.bk e' h' ρ' H' σ' z (p.trans p') (t.trans t'), fun e' h' ρ' H' σ' z p' t' => h.ct e' h' ρ' H' σ' z (p.trans p') (t.trans t')⟩
/-- a statement's reading -/
def rS (X : L2.Cx) (W : Env → Hm → Ends → Prop) : L2.TS := fun D σ H => ∃ ρ env hp Z, HRX X ρ hp H ∧ EnvR X.K ρ H env σ ∧ W env hp Z ∧ EndsR X ρ H Z D
section
variable {X : L2.Cx} {F : FnS} (hF : FMono F) {E : XP}
abbrev RS (X : L2.Cx) (F : FnS) (E : XP) (c : CS) : L2.TS := rS X (wpS F E c)
abbrev RSs (X : L2.Cx) (F : FnS) (E : XP) (cs : List CS) : L2.TS := rS X (wpSs F E cs)
theorem pss_nilM : L2.PSs X [] (RSs X F E []) := PSs.imp L2.pss_nil fun D σ H ⟨ρ, env, hp, Z, hr, he, w, z⟩ => by
  unfold wpSs at w
  exact z.nx _ _ ρ H σ w (List.prefix_refl _) (TK.refl _) hr he
theorem pss_consM {st : Stmt} {rest : List Stmt} {c : CS} {cs : List CS} (h1 : L2.PS X st (RS X F E c)) (h2 : L2.PSs X rest (RSs X F E cs)) : L2.PSs X (st :: rest) (RSs X F E (c :: cs)) :=
  PSs.imp (L2.pss_cons h1 h2) fun D σ H ⟨ρ, env, hp, Z, hr, he, w, z⟩ => by
    unfold wpSs at w
    refine ⟨ρ, env, hp, _, hr, he, w, ⟨fun e' h' ρ' H' σ' q p t hr' he' => ?_, z.rt, z.bk, z.ct⟩⟩
    exact ⟨ρ', e', h', Z, hr', he', q, z.weak p t⟩
/-- a docstring, or any text that stands alone -/
theorem pss_docM {x : Str} {j : Nat} {pos pos' : PySem.Pos} {rest : List Stmt} {cs : List CS} (h2 : L2.PSs X rest (RSs X F E cs)) : L2.PSs X (.Expr (.Constant (.str x) j pos) pos' :: rest) (RSs X F E cs) :=
  PSs.imp (L2.pss_cons L2.ps_doc h2) fun D σ H h => h
theorem ps_passM {pos : PySem.Pos} : L2.PS X (.Pass pos) (RS X F E .pass) := PS.imp L2.ps_pass fun D σ H ⟨ρ, env, hp, Z, hr, he, w, z⟩ => by
  unfold wpS at w
  exact z.nx _ _ ρ H σ w (List.prefix_refl _) (TK.refl _) hr he
/-- what never is come to -/
theorem ps_neverM {st : Stmt} : L2.PS X st (RS X F E (.expr (.neg (.lit .non)))) := PS.imp L2.ps_never fun D σ H ⟨ρ, env, hp, Z, hr, he, w, z⟩ => by
  unfold wpS wpE wpE at w
  exact w.elim
theorem ps_brkM {pos : PySem.Pos} : L2.PS X (.Break pos) (RS X F E .brk) := PS.imp L2.ps_break fun D σ H ⟨ρ, env, hp, Z, hr, he, w, z⟩ => by
  unfold wpS at w
  exact z.bk _ _ ρ H σ w (List.prefix_refl _) (TK.refl _) hr he
theorem ps_contM {pos : PySem.Pos} : L2.PS X (.Continue pos) (RS X F E .cont) := PS.imp L2.ps_continue fun D σ H ⟨ρ, env, hp, Z, hr, he, w, z⟩ => by
  unfold wpS at w
  exact z.ct _ _ ρ H σ w (List.prefix_refl _) (TK.refl _) hr he
/-- no comprehension -/
def noComp : Expr → Bool
  | .ListComp _ _ _ _ => false
  | .SetComp _ _ _ _ => false
  | .DictComp _ _ _ _ _ => false
  | _ => true
theorem swap_no {e : Expr} {t : Option Expr} {l : Nat} {env : PySem.Env} (h : noComp e = true) : PySem.swapsWith e t l env = pure false := by
  cases e <;> first | rfl | exact Bool.noConfusion h
theorem swaps_no {e t : Expr} {l : Nat} {env : PySem.Env} (h : noComp e = true) : PySem.swapsWithSole [t] e l env = pure false := swap_no h
include hF
theorem ps_exprM {e : Expr} {c : CE} {pos : PySem.Pos} (h : L2.PE X e (RE X F E c)) (hn : noComp e = true) : L2.PS X (.Expr e pos) (RS X F E (.expr c)) := PS.imp (L2.ps_expr h (swap_no hn)) fun D σ H ⟨ρ, env, hp, Z, hr, he, w, z⟩ => by
  unfold wpS at w
  exact ⟨ρ, env, hp, hr, he, wpE_mono hF c E env hp _ _ w fun d h1 q ρ1 H1 v p t hr1 rv => z.nx _ _ ρ1 H1 σ q p t hr1 (he.mono p t)⟩
theorem ps_retM {e : Expr} {c : CE} {pos : PySem.Pos} (h : L2.PE X e (RE X F E c)) : L2.PS X (.Return (some e) pos) (RS X F E (.ret c)) := PS.imp (L2.ps_ret h) fun D σ H ⟨ρ, env, hp, Z, hr, he, w, z⟩ => by
  unfold wpS at w
  exact ⟨ρ, env, hp, hr, he, wpE_mono hF c E env hp _ _ w fun d h1 q => z.rt d h1 q⟩
omit hF in
theorem ps_retNM {pos : PySem.Pos} : L2.PS X (.Return none pos) (RS X F E (.ret (.lit .non))) := PS.imp L2.ps_retN fun D σ H ⟨ρ, env, hp, Z, hr, he, w, z⟩ => by
  unfold wpS wpE at w
  exact PV.here (z.rt _ _ w) hr .non
theorem ps_ifM {c : Expr} {a b : List Stmt} {cc : CE} {ca cb : List CS} {pos : PySem.Pos} (hc : L2.PT X c (RT X F E cc)) (ha : L2.PSs X a (RSs X F E ca)) (hb : L2.PSs X b (RSs X F E cb)) : L2.PS X (.If c a b pos) (RS X F E (.ite cc ca cb)) :=
  PS.imp (L2.ps_if hc ha hb) fun D σ H ⟨ρ, env, hp, Z, hr, he, w, z⟩ => by
    unfold wpS at w
    refine ⟨ρ, env, hp, hr, he, wpE_mono hF cc E env hp _ _ w fun d h1 q => ws_mono q fun k q ρ1 H1 p t hr1 => ?_⟩
    cases k with
    | true => exact ⟨ρ1, env, h1, Z, hr1, he.mono p t, q, z.weak p t⟩
    | false => exact ⟨ρ1, env, h1, Z, hr1, he.mono p t, q, z.weak p t⟩
theorem rd_asg {p : Pat} {c : CE} {D : L2.Ends} {σ : L2.St} {H : LHp} (h : RS X F E (.asg p c) D σ H) : L2.tAsg (RE X F E c) (gM X p) D σ H := by
  obtain ⟨ρ, env, hp, Z, hr, he, w, z⟩ := h
  unfold wpS at w
  refine ⟨ρ, env, hp, hr, he, wpE_mono hF c E env hp _ _ w fun d h1 q ρ1 H1 v p t hr1 rv => ?_⟩
  exact ⟨ρ1, env, d, he.mono p t, rv, wpP_mono _ _ _ _ _ q fun e2 q σ2 he2 _ => z.nx _ _ ρ1 H1 σ2 q p t hr1 he2⟩
omit hF in
theorem asg_one {t : Expr} {env : PySem.Env} (h : plainE t = true) : (PySem.assignEach [t] env).map (·.2) = [PySem.assign t env] := by rw [each_plain h]; rfl
/-- target = value, stored in the common way -/
theorem ps_asgM {tg e : Expr} {p : Pat} {c : CE} {pos : PySem.Pos} (he : L2.PE X e (RE X F E c)) (hg : L2.PG X tg (gM X p)) (hp : plainE tg = true) (hs : PySem.swapsWithSole [tg] e pos.line X.env = pure false) (hw : PySem.swappedStores [tg] e X.env = pure none) : L2.PS X (.Assign [tg] e pos) (RS X F E (.asg p c)) :=
  PS.imp (L2.ps_asg he hg hs hw (asg_one hp)) fun D σ H h => rd_asg hF h
/-- x = [..], on one line -/
theorem ps_asgcM {i : Nat} {y : Str} {py spos : PySem.Pos} {e : Expr} {c : CE} (h : L2.PS X (.Assign [.Name y py] e spos) (L2.tAsg (RE X F E c) (L2.gName i))) : L2.PS X (.Assign [.Name y py] e spos) (RS X F E (.asg (.slot i) c)) :=
  PS.imp h fun D σ H ⟨ρ, env, hp, Z, hr, he, w, z⟩ => by
    unfold wpS at w
    refine ⟨ρ, env, hp, hr, he, wpE_mono hF c E env hp _ _ w fun d h1 q ρ1 H1 v p t hr1 rv => ?_⟩
    unfold wpP at q
    exact z.nx _ _ ρ1 H1 _ q.2 p t hr1 ((he.mono p t).set rv)
/-- a, b = x, y -/
theorem ps_parM {i j : Nat} {x y : Str} {a b : Expr} {ca cb : CE} {px py pt pos : PySem.Pos} {kt k2 : Nat} {pt2 : PySem.Pos} (hc : X.calm = true) (hN : X.N.Nodup) (hi : X.N[i]? = some x) (hj : X.N[j]? = some y) (hij : i ≠ j)
    (hx : X.env.scope.names.lookup x = some .local) (hy : X.env.scope.names.lookup y = some .local) (ha : L2.PA X [a, b] (RA X F E [ca, cb]))
    (hw : PySem.swappedStores [.Tuple [.Name x px, .Name y py] kt pt] (.Tuple [a, b] k2 pt2) X.env = pure (some [x, y])) :
    L2.PS X (.Assign [.Tuple [.Name x px, .Name y py] kt pt] (.Tuple [a, b] k2 pt2) pos) (RS X F E (.asg (.tup [.slot i, .slot j]) (.tup [ca, cb]))) :=
  PS.imp (L2.ps_par hc hN hi hj hij hx hy ha hw rfl) fun D σ H ⟨ρ, env, hp, Z, hr, he, w, z⟩ => by
    unfold wpS wpE at w
    refine ⟨ρ, env, hp, hr, he, wpEs_mono hF [ca, cb] E env hp _ _ w fun ds h1 q ρ1 H1 vs p t hr1 rv => ?_⟩
    unfold wpP at q
    have hl := wpPs_len _ _ _ _ q
    rcases ds with _ | ⟨d, _ | ⟨d2, _ | ⟨d3, ds⟩⟩⟩ <;> try (simp at hl; done)
    obtain ⟨v, u, rfl, rv, ru⟩ := rv.two_inv
    unfold wpPs wpP wpPs wpP wpPs at q
    exact ⟨v, u, rfl, z.nx _ _ ρ1 H1 _ q.2.2 p t hr1 (((he.mono p t).set rv).set ru)⟩
/-- o[i] = e -/
theorem ps_subM (hu : X.A.units + 80 < PySem.cLine) {o i e : Expr} {co ci c : CE} {pos tpos : PySem.Pos} (ho : L2.PE X o (RE X F E co)) (hi : L2.PE X i (RE X F E ci)) (he : L2.PE X e (RE X F E c)) (hn : noComp e = true) (hw : PySem.swappedStores [.Subscript o i tpos] e X.env = pure none)
    (ha : ∀ v, PySem.assign (.Subscript o i tpos) X.env v = (do
      let ov ← PySem.holding [v] (PySem.eval o X.env)
      let iv ← PySem.holding [v, ov] (PySem.eval i X.env)
      PySem.standAt tpos
      PySem.holding [v, ov, iv] (PySem.setItem ov iv v)
      PySem.release [v, ov, iv] [])) : L2.PS X (.Assign [.Subscript o i tpos] e pos) (RS X F E (.set co ci c)) :=
  PS.imp (L2.ps_asg he (L2.pg_sub ho hi (set_M hu) ha) (swaps_no hn) hw rfl) fun D σ H ⟨ρ, env, hp, Z, hr, he, w, z⟩ => by
    unfold wpS at w
    refine ⟨ρ, env, hp, hr, he, wpE_mono hF c E env hp _ _ w fun d h1 q ρ1 H1 v p1 t1 hr1 rv => ?_⟩
    refine ⟨ρ1, env, h1, hr1, he.mono p1 t1, wpE_mono hF co E env h1 _ _ q fun d2 h2 q ρ2 H2 v2 p2 t2 hr2 rv2 => ?_⟩
    refine ⟨ρ2, env, h2, hr2, he.mono (p1.trans p2) (t1.trans t2), wpE_mono hF ci E env h2 _ _ q fun d3 h3 q ρ3 H3 v3 p3 t3 hr3 rv3 => ?_⟩
    obtain ⟨h4, e4, q⟩ := ws_iff.mp q
    refine ⟨ρ3, h3, d2, d3, d, h4, hr3, rv2.mono p3 t3, rv3, rv.mono (p2.trans p3) (t2.trans t3), e4, fun H4 t4 hr4 => ?_⟩
    exact z.nx _ _ ρ3 H4 σ q (p1.trans (p2.trans p3)) (t1.trans (t2.trans (t3.trans t4))) hr4 (he.mono (p1.trans (p2.trans p3)) (t1.trans (t2.trans (t3.trans t4))))
end
end M

end
section
set_option Elab.async false
set_option linter.all false
set_option autoImplicit false
set_option maxRecDepth 100000
set_option maxHeartbeats 4000000
/-! op=, loops -/
namespace M
open PySem (Addr Obj Value Str PyData Heap NestedKey Expr Stmt)
section
variable {X : L2.Cx} {F : FnS} (hF : FMono F) {E : XP}
/-- op= by values -/
def bopK : Bop → Option PySem.Operator
  | .add => some .Add
  | .sub => some .Sub
  | .mul => some .Mult
  | _ => none
theorem PIp.imp {op : PySem.Operator} {t t' : L2.TIp} (h : L2.PIp X op t) (k : ∀ x y H Q, t' x y H Q → t x y H Q) : L2.PIp X op t' := fun pins s σ H x y v u Q I rx ry q => h pins s σ H x y v u Q I rx ry (k _ _ _ _ q)
theorem PIp.of {op : PySem.Operator} {r : L2.R2} (h : L2.OpR X (PySem.inplaceOp op) r) : L2.PIp X op r := h
theorem ip_augM {b : Bop} {op : PySem.Operator} (h : bopK b = some op) : L2.PIp X op (liftR X (augS b)) := by
  cases b <;> simp only [bopK] at h <;> first | (cases h; done) | skip
  · cases h
    refine PIp.imp (PIp.of (L2.iop_add.or L2.iop_add_str)) fun v u H Q ⟨ρ, hp, x, y, r, hr, rx, ry, e, q⟩ => ?_
    cases x <;> cases y <;> simp only [augS] at e <;> first | (cases e; done) | skip
    · cases e
      obtain rfl := rx.int_inv; obtain rfl := ry.int_inv
      exact .inl ⟨_, _, rfl, rfl, PV.here q hr (.int _)⟩
    · split at e
      · rename_i hl
        cases e
        obtain ⟨rfl, h1⟩ := rx.str_inv
        obtain ⟨rfl, h2⟩ := ry.str_inv
        refine .inr ⟨_, _, rfl, rfl, by rw [str_len, str_len, lim_eq]; exact hl, ?_⟩
        rw [str_app]
        exact PV.here q hr (.str _ (sOK_app h1 h2 hl))
      · cases e
  · cases h
    refine PIp.imp (PIp.of L2.iop_sub) fun v u H Q ⟨ρ, hp, x, y, r, hr, rx, ry, e, q⟩ => ?_
    cases x <;> cases y <;> simp only [augS] at e <;> first | (cases e; done) | skip
    cases e
    obtain rfl := rx.int_inv; obtain rfl := ry.int_inv
    exact ⟨_, _, rfl, rfl, PV.here q hr (.int _)⟩
  · cases h
    refine PIp.imp (PIp.of L2.iop_mul) fun v u H Q ⟨ρ, hp, x, y, r, hr, rx, ry, e, q⟩ => ?_
    cases x <;> cases y <;> simp only [augS] at e <;> first | (cases e; done) | skip
    split at e
    · rename_i c
      cases e
      obtain rfl := rx.int_inv; obtain rfl := ry.int_inv
      unfold LINT at c
      refine ⟨_, _, rfl, rfl, ?_, PV.here q hr (.int _)⟩
      rcases c with c | c
      · exact .inl ⟨by omega, by omega⟩
      · exact .inr ⟨by omega, by omega⟩
    · cases e
include hF
theorem ps_augM {i : Nat} {x : Str} {e : Expr} {c : CE} {b : Bop} {op : PySem.Operator} {pos' pos : PySem.Pos} (hb : bopK b = some op) (hN : X.N.Nodup) (hi : X.N[i]? = some x) (hx : L2.Loc X.env.scope x) (hf : X.fn x = true ∨ X.env.scope.names.lookup x = some .local) (he : L2.PE X e (RE X F E c)) : L2.PS X (.AugAssign (.Name x pos') op e pos) (RS X F E (.aug i b c)) :=
  PS.imp (L2.ps_aug hN hi hx he (ip_augM hb) hf) fun D σ H ⟨ρ, env, hp, Z, hr, he0, w, z⟩ => by
    unfold wpS at w
    cases ei : env[i]? with
    | none => rw [ei] at w; exact w.elim
    | some o =>
      rw [ei] at w
      cases o with
      | none => exact w.elim
      | some d =>
        obtain ⟨v, h1, h2⟩ := he0.2 i d ei
        have w : wpE F E c env hp fun y h1 => ws (augS b d y h1) fun r => Z.nx (env.set i (some r.1)) r.2 := w
        refine ⟨v, h1, ρ, env, hp, hr, he0, wpE_mono hF c E env hp _ _ w fun y h3 q ρ1 H1 u p1 t1 hr1 ru => ?_⟩
        obtain ⟨r, e, q⟩ := ws_iff.mp q
        exact ⟨ρ1, h3, d, y, r, hr1, h2.mono p1 t1, ru, e, fun ρ2 H2 v2 p2 t2 hr2 rv2 => z.nx _ _ ρ2 H2 _ q (p1.trans p2) (t1.trans t2) hr2 ((he0.mono (p1.trans p2) (t1.trans t2)).set rv2)⟩
omit hF in
/-- o[i], by values alone -/
theorem get_M (hu : X.A.units + 80 < PySem.cLine) : L2.PGet X (liftR X fun x y h => match x with
    | .ref _ => (idxS x y h).map fun d => (d, h)
    | _ => none) := by
  intro pins s σ H o i ov iv Q I ro ri h
  obtain ⟨ρ, hp, x, y, r, hr, rx, ry, e0, q⟩ := h
  cases x <;> simp only at e0 <;> first | (cases e0; done) | skip
  obtain ⟨d, e, hd⟩ := Option.map_eq_some_iff.mp e0
  subst hd
  simp only [idxS] at e
  obtain ⟨a, rfl, ha⟩ := rx.ref_inv
  have lst : ∀ {xs : List D} {k : Int} {ys : List LV}, L2.SqL X.K H a ys → RVs X.K ρ H xs ys → y = .int k → atI xs k = some d → PySem.wpAny (PySem.model X.prog X.w) X.A (PySem.getItem ov iv) (L2.EP X pins σ Q) X.xe s := by
    intro xs k ys sq r1 hy e5
    rw [hy] at ry
    obtain rfl := ry.int_inv
    obtain ⟨w, e2, rw'⟩ := at_get r1 e5
    cases ro
    obtain ⟨t, rfl⟩ := ri
    obtain ⟨its, r, pl, hz⟩ := I.list sq
    obtain ⟨j, h1, h2, h3, h4, h5⟩ := L2.atI_get e2
    obtain ⟨u, ew, ru⟩ := r.get h2
    have hl := r.length
    have hn := L2.line63
    have fin : L2.EP X pins σ Q u s := ⟨w, H, I, ru, PV.here q hr rw'⟩
    by_cases h0 : 0 ≤ k
    · have hj : k.toNat = j := by
        rw [PySem.seqIndex_of h0 h5] at h1
        exact Option.some.inj h1
      exact PySem.wpAny_getItem_list pl.isList h0 (by omega) (by rw [hj]; simpa using ew) fin
    · have hj : (k + (its.toArray.size : Int)).toNat = j := by
        rw [PySem.seqIndex_neg (by omega) h4] at h1
        rw [List.size_toArray, ← hl]
        exact Option.some.inj h1
      exact PySem.wpAny_getItem_list_neg pl.isList (by omega) (by rw [List.size_toArray] <;> omega) (by omega) (by rw [hj]; simpa using ew) fin
  split at e
  · rename_i xs k hx
    obtain ⟨ys, e1, r1⟩ := hr.ok _ a _ ha hx
    exact lst (.inl (.inl e1)) r1 rfl e
  · rename_i xs k hx
    obtain ⟨ys, e1, r1⟩ := hr.ok _ a _ ha hx
    have sq : L2.SqL X.K H a ys := by
      rcases e1 with ⟨ob, e1⟩ | e1
      · exact .inl (.inr ⟨ob, e1⟩)
      · exact .inr e1
    exact lst sq r1 rfl e
  · rename_i kvs k hx
    split at e
    · rename_i hk
      cases ro
      have hc := hr.ok _ a _ ha hx
      exact (d_look (A := X.A) (E := X.xe) (by omega) I hc hk ry ri).1 d _ e fun vv w' s' I' rr rw' => ⟨vv, H, I', rw', PV.here q hr rr⟩
    · cases e
  · cases e
/-- o[i] op= e -/
theorem ps_augsM (hu : X.A.units + 80 < PySem.cLine) {o i e : Expr} {co ci c : CE} {b : Bop} {op : PySem.Operator} {tpos pos : PySem.Pos} (hb : bopK b = some op) (ho : L2.PE X o (RE X F E co)) (hi : L2.PE X i (RE X F E ci)) (he : L2.PE X e (RE X F E c))
    (ha : ∀ ov iv new, PySem.augStore i ov iv new = (do PySem.holding [new, ov, iv] (PySem.setItem ov iv new); PySem.release [new, ov, iv] []; pure .next)) : L2.PS X (.AugAssign (.Subscript o i tpos) op e pos) (RS X F E (.augs co ci b c)) :=
  PS.imp (L2.ps_augS ho hi (get_M hu) he (ip_augM hb) (set_M hu) ha) fun D σ H ⟨ρ, env, hp, Z, hr, he0, w, z⟩ => by
    unfold wpS at w
    refine ⟨ρ, env, hp, hr, he0, wpE_mono hF co E env hp _ _ w fun x h1 q ρ1 H1 v1 p1 t1 hr1 rv1 => ?_⟩
    refine ⟨ρ1, env, h1, hr1, he0.mono p1 t1, wpE_mono hF ci E env h1 _ _ q fun y h2 q ρ2 H2 v2 p2 t2 hr2 rv2 => ?_⟩
    obtain ⟨d, e3, q⟩ := ws_iff.mp q
    have q : wpE F E c env h2 fun w h4 => ws (augS b d w h4) fun r => ws (setS x y r.1 r.2) fun h6 => Z.nx env h6 := q
    have p12 := p1.trans p2
    have t12 := t1.trans t2
    -- only a list or a dict is stored to
    by_cases hx : ∃ a, x = .ref a
    · obtain ⟨a, rfl⟩ := hx
      refine ⟨ρ2, h2, .ref a, y, (d, h2), hr2, rv1.mono p2 t2, rv2, by have e4 : idxS (.ref a) y h2 = some d := e3; show Option.map _ (idxS (.ref a) y h2) = _; rw [e4]; rfl, fun ρ3 H3 v3 p3 t3 hr3 rv3 => ?_⟩
      have p13 := p12.trans p3
      have t13 := t12.trans t3
      refine ⟨ρ3, env, h2, hr3, he0.mono p13 t13, wpE_mono hF c E env h2 _ _ q fun w4 h4 q ρ4 H4 v4 p4 t4 hr4 rv4 => ?_⟩
      obtain ⟨r, e5, q⟩ := ws_iff.mp q
      refine ⟨ρ4, h4, d, w4, r, hr4, rv3.mono p4 t4, rv4, e5, fun ρ5 H5 v5 p5 t5 hr5 rv5 => ?_⟩
      obtain ⟨h6, e6, q⟩ := ws_iff.mp q
      have p25 := p3.trans (p4.trans p5)
      have t25 := t3.trans (t4.trans t5)
      refine ⟨ρ5, r.2, .ref a, y, r.1, h6, hr5, rv1.mono (p2.trans p25) (t2.trans t25), rv2.mono p25 t25, rv5, e6, fun H6 t6 hr6 => ?_⟩
      exact z.nx _ _ ρ5 H6 σ q (p12.trans p25) (t12.trans (t25.trans t6)) hr6 (he0.mono (p12.trans p25) (t12.trans (t25.trans t6)))
    · exfalso
      exact hx (by
        cases x with
        | ref a => exact ⟨a, rfl⟩
        | _ => simp [idxR] at e3)
theorem ps_whileM {c : Expr} {body : List Stmt} {cc : CE} {cb : List CS} {pos : PySem.Pos} (hp : PySem.PassesOwn (PySem.model X.prog X.w) X.A X.env X.xe) (hc : L2.PT X c (RT X F E cc)) (hb : L2.PSs X body (RSs X F E cb)) : L2.PS X (.While c body [] pos) (RS X F E (.whil cc cb)) :=
  PS.imp (L2.ps_while hp hc hb) fun D σ H ⟨ρ, env, hp, Z, hr, he0, w, z⟩ => by
    unfold wpS at w
    obtain ⟨W, ⟨m0, w0⟩, turn⟩ := w
    refine ⟨fun m σ1 H1 => ∃ ρ1 env1 hp1, ρ <+: ρ1 ∧ TK H H1 ∧ HRX X ρ1 hp1 H1 ∧ EnvR X.K ρ1 H1 env1 σ1 ∧ W m env1 hp1, ⟨m0, ρ, env, hp, List.prefix_refl _, TK.refl _, hr, he0, w0⟩, ?_⟩
    rintro m σ1 H1 ⟨ρ1, env1, hp1, p1, t1, hr1, he1, w1⟩
    refine ⟨ρ1, env1, hp1, hr1, he1, wpE_mono hF cc E env1 hp1 _ _ (turn m env1 hp1 w1) fun d h2 q => ws_mono q fun k q ρ2 H2 p2 t2 hr2 => ?_⟩
    cases k with
    | false => exact z.nx _ _ ρ2 H2 σ1 q (p1.trans p2) (t1.trans t2) hr2 (he1.mono p2 t2)
    | true =>
      refine ⟨fun σ3 H3 => ∃ m', m' < m ∧ ∃ ρ3 env3 hp3, ρ <+: ρ3 ∧ TK H H3 ∧ HRX X ρ3 hp3 H3 ∧ EnvR X.K ρ3 H3 env3 σ3 ∧ W m' env3 hp3, fun σ3 H3 q => q, ρ2, env1, h2, _, hr2, he1.mono p2 t2, q, ?_⟩
      have p12 := p1.trans p2
      have t12 := t1.trans t2
      have y := z.weak p12 t12
      exact ⟨fun e' h' ρ' H' σ' ⟨m', hm, q⟩ p' t' hr' he' => ⟨m', hm, ρ', e', h', p12.trans p', t12.trans t', hr', he', q⟩, y.rt, y.nx, fun e' h' ρ' H' σ' ⟨m', hm, q⟩ p' t' hr' he' => ⟨m', hm, ρ', e', h', p12.trans p', t12.trans t', hr', he', q⟩⟩
theorem ps_forM {tg iter : Expr} {body : List Stmt} {k : IK} {it : List CE} {p : Pat} {cb : List CS} {pos : PySem.Pos} (hp : PySem.PassesOwn (PySem.model X.prog X.w) X.A X.env X.xe) (hc : X.calm = true) (hi : L2.PI X tg iter (iM X F E k it)) (hg : L2.PG X tg (gM X p)) (hb : L2.PSs X body (RSs X F E cb)) (hsi : ∀ x, PySem.foldedSetIterable iter X.env x = pure x) :
    L2.PS X (.For tg iter body [] pos) (RS X F E (.for_ p k it cb)) :=
  PS.imp (L2.ps_for hp hc hi hg hb hsi) fun D σ H ⟨ρ, env, hp, Z, hr, he, w, z⟩ => by
    unfold wpS at w
    refine ⟨ρ, env, hp, hr, he, wpEs_mono hF it E env hp _ _ w fun ds h1 q => ws_mono q fun I q ρ1 H1 J p1 t1 hr1 Wk => ?_⟩
    have he1 := he.mono p1 t1
    refine ⟨fun i m σ2 H2 => m = I.1.length - i ∧ i ≤ I.1.length ∧ ∃ ρ2 env2 hp2, ρ1 <+: ρ2 ∧ TK H1 H2 ∧ HRX X ρ2 hp2 H2 ∧ EnvR X.K ρ2 H2 env2 σ2 ∧ forL I.2 (fun x env h R => wpP p x env fun env1 => wpSs F E cb env1 h { nx := R, ct := R, bk := Z.nx, rt := Z.rt }) Z.nx (I.1.drop i) env2 hp2,
      ⟨_, rfl, Nat.zero_le _, ρ1, env, h1, List.prefix_refl _, TK.refl _, hr1, he1, by rw [List.drop_zero]; exact q⟩, ?_⟩
    rintro i m σ2 H2 ⟨rfl, hi, ρ2, env2, hp2, p2, t2, hr2, he2, w2⟩
    have p12 := p1.trans p2
    have t12 := t1.trans t2
    cases hd : I.1.drop i with
    | nil =>
      rw [hd] at w2
      exact .inl ⟨Wk.stop ρ2 hp2 H2 i p2 t2 hr2 w2.1 (Nat.le_antisymm (drop_nil hd) hi), z.nx _ _ ρ2 H2 σ2 w2.2 p12 t12 hr2 he2⟩
    | cons x r =>
      rw [hd] at w2
      obtain ⟨hx, hr'⟩ := drop_cons hd
      have hlt : i < I.1.length := (List.getElem?_eq_some_iff.mp hx).1
      obtain ⟨go, yl⟩ := Wk.go ρ2 hp2 H2 i x p2 t2 hr2 w2.1 hx
      refine .inr ⟨go, fun σ3 H3 => ∃ ρ3 env3 hp3, ρ1 <+: ρ3 ∧ TK H1 H3 ∧ HRX X ρ3 hp3 H3 ∧ EnvR X.K ρ3 H3 env3 σ3 ∧ forL I.2 (fun x env h R => wpP p x env fun env1 => wpSs F E cb env1 h { nx := R, ct := R, bk := Z.nx, rt := Z.rt }) Z.nx r env3 hp3, ?_, ?_⟩
      · rintro σ3 H3 ⟨ρ3, env3, hp3, q1, q2, q3, q4, q5⟩
        exact ⟨I.1.length - (i + 1), by omega, rfl, hlt, ρ3, env3, hp3, q1, q2, q3, q4, by rw [hr']; exact q5⟩
      · intro y H3 hy
        obtain ⟨rv, t3, hr3⟩ := yl y H3 hy
        refine ⟨ρ2, env2, x, he2.mono (List.prefix_refl _) t3, rv, wpP_mono _ _ _ _ _ w2.2 fun e2 w4 σ4 he4 _ => ?_⟩
        have y := z.weak p12 (t12.trans t3)
        refine ⟨ρ2, e2, hp2, _, hr3, he4, w4, ⟨?_, y.rt, y.nx, ?_⟩⟩
        · exact fun e' h' ρ' H' σ' q p' t' hr' he' => ⟨ρ', e', h', p2.trans p', t2.trans (t3.trans t'), hr', he', q⟩
        · exact fun e' h' ρ' H' σ' q p' t' hr' he' => ⟨ρ', e', h', p2.trans p', t2.trans (t3.trans t'), hr', he', q⟩
end
end M

end
section
set_option Elab.async false
set_option linter.all false
set_option autoImplicit false
set_option maxRecDepth 100000
set_option maxHeartbeats 4000000
/-! dict displays, tuple(range), list(range), x[::-1] -/
namespace M
open PySem (Addr Obj Value Str PyData Heap NestedKey Expr)
section
variable {X : L2.Cx} {F : FnS} (hF : FMono F) {E : XP}
/-! ### displays -/
def PEL (X : L2.Cx) (F : FnS) (E : XP) : List Expr → List CE → Prop
  | [], [] => True
  | e :: es, c :: cs => L2.PE X e (RE X F E c) ∧ PEL X F E es cs
  | _, _ => False
def inter : List (Option Expr) → List Expr → List Expr
  | some k :: ks, v :: vs => k :: v :: inter ks vs
  | _, _ => []
def trsOf (X : L2.Cx) (F : FnS) (E : XP) : List CE → List (L2.TE × L2.TE)
  | k :: v :: r => (RE X F E k, RE X F E v) :: trsOf X F E r
  | _ => []
def prsV : List LV → List (LV × LV)
  | k :: v :: r => (k, v) :: prsV r
  | _ => []
theorem pps_of {pos : PySem.Pos} : ∀ {ks : List (Option Expr)} {vs : List Expr} {cs : List CE}, ks.all (·.isSome) = true → ks.length = vs.length → PEL X F E (inter ks vs) cs → L2.PPs X pos ks vs (trsOf X F E cs)
  | [], [], [], _, _, _ => L2.pps_nil
  | [], [], _ :: _, _, _, h => h.elim
  | [], _ :: _, _, _, h, _ => by cases h
  | _ :: _, [], _, _, h, _ => by cases h
  | none :: ks, _ :: _, _, h, _, _ => by simp at h
  | some k :: ks, v :: vs, cs, ha, hl, h => by
    match cs, h with
    | ck :: cv :: cs, ⟨h1, h2, h3⟩ =>
      refine L2.pps_cons h1 h2 (pps_of ?_ ?_ h3)
      · rw [List.all_cons, Bool.and_eq_true] at ha; exact ha.2
      · simpa using hl
    | [], h => exact h.elim
    | [_], ⟨_, h⟩ => exact h.elim
include hF in
theorem tPairs_of {σ : L2.St} {env : Env} : ∀ (cs : List CE) (H : LHp) (ρ : List Addr) (hp : Hm) (K' : List D → Hm → Prop) (R : List (LV × LV) → LHp → Prop), wpEs F E cs env hp K' → HRX X ρ hp H → EnvR X.K ρ H env σ →
    (∀ ds hp' ρ' H' vs, ρ <+: ρ' → TK H H' → HRX X ρ' hp' H' → RVs X.K ρ' H' ds vs → (evens ds).isSome = true → K' ds hp' → R (prsV vs) H') → (∀ ds hp', K' ds hp' → (evens ds).isSome = true) → cs.length % 2 = 0 → L2.tPairs (trsOf X F E cs) σ H R
  | [], H, ρ, hp, K', R, w, hr, he, k, hev, hl => by
    unfold wpEs at w
    exact k [] hp ρ H [] (List.prefix_refl _) (TK.refl _) hr .nil rfl w
  | [_], H, ρ, hp, K', R, w, hr, he, k, hev, hl => by simp at hl
  | ck :: cv :: cs, H, ρ, hp, K', R, w, hr, he, k, hev, hl => by
    unfold wpEs at w
    refine ⟨ρ, env, hp, hr, he, wpE_mono hF ck E env hp _ _ w fun d1 h1 q ρ1 H1 v1 p1 t1 hr1 rv1 => ?_⟩
    unfold wpEs at q
    refine ⟨ρ1, env, h1, hr1, he.mono p1 t1, wpE_mono hF cv E env h1 _ _ q fun d2 h2 q ρ2 H2 v2 p2 t2 hr2 rv2 => ?_⟩
    refine tPairs_of cs H2 ρ2 h2 (fun ds h3 => K' (d1 :: d2 :: ds) h3) _ q hr2 (he.mono (p1.trans p2) (t1.trans t2)) (fun ds hp' ρ' H' vs p t hr' rvs ev q => ?_) (fun ds hp' q => ?_) (by rw [List.length_cons, List.length_cons] at hl; omega)
    · have ee := hev _ _ q
      exact k (d1 :: d2 :: ds) hp' ρ' H' (v1 :: v2 :: vs) (p1.trans (p2.trans p)) (t1.trans (t2.trans t)) hr' (.cons (rv1.mono (p2.trans p) (t2.trans t)) (.cons (rv2.mono p t) rvs)) ee q
    · have := hev _ _ q
      simp only [evens, Option.isSome_map] at this
      exact this
/-- the pairs of a display, kept and in the heap -/
def VP (K : PySem.W.Frag) (ρ : List Addr) (H : LHp) : List (D × D) → List (Value × Value) → Prop
  | [], [] => True
  | (k, d) :: r, (u, w) :: t => (∃ kv, RV K ρ H k kv ∧ L2.RelV kv u) ∧ (∃ dv, RV K ρ H d dv ∧ L2.RelV dv w) ∧ VP K ρ H r t
  | _, _ => False
theorem VP.tk {K : PySem.W.Frag} {ρ : List Addr} {H H' : LHp} (t : TK H H') : ∀ {prs : List (D × D)} {ws : List (Value × Value)}, VP K ρ H prs ws → VP K ρ H' prs ws
  | [], [], _ => trivial
  | (_, _) :: _, (_, _) :: _, ⟨⟨kv, a, b⟩, ⟨dv, c, e⟩, r⟩ => ⟨⟨kv, a.mono (List.prefix_refl _) t, b⟩, ⟨dv, c.mono (List.prefix_refl _) t, e⟩, VP.tk t r⟩
  | [], _ :: _, h => h.elim
  | _ :: _, [], h => h.elim
theorem vp_of {K : PySem.W.Frag} {ρ : List Addr} {H : LHp} : ∀ {ds : List D} {prs : List (D × D)} {vs : List LV} {ws : List (Value × Value)}, evens ds = some prs → RVs K ρ H ds vs → L2.VV (prsV vs) ws → VP K ρ H prs ws
  | [], prs, vs, ws, h, r, q => by
    cases h
    cases r
    cases q
    trivial
  | [_], prs, vs, ws, h, r, q => by simp [evens] at h
  | k :: v :: ds, prs, vs, ws, h, r, q => by
    simp only [evens, Option.map_eq_some_iff] at h
    obtain ⟨prs', h1, rfl⟩ := h
    cases r with
    | cons rk r2 =>
      cases r2 with
      | cons rv r3 =>
        cases q with
        | @cons a b as bs h2 t =>
          obtain ⟨b1, b2⟩ := b
          exact ⟨⟨_, rk, h2.1⟩, ⟨_, rv, h2.2⟩, vp_of h1 r3 t⟩
theorem set_back {hp : Hm} {i : Nat} {c : Cell} (h : hp[i]? = some c) : hp.set i c = hp := by
  refine List.ext_getElem? fun j => ?_
  by_cases e : i = j
  · subst e
    rw [List.getElem?_set_self (List.getElem?_eq_some_iff.mp h).1, h]
  · rw [List.getElem?_set_ne e]
theorem store_all {ρ : List Addr} {pins : List (Addr × Obj)} {σ : L2.St} {i : Nat} {p : Addr} {Q : PUnit → PySem.Shared → Prop} (hu : X.A.units + 9 < PySem.cLine) : ∀ (prs : List (D × D)) (ws : List (Value × Value)) (kvs kvs2 : List (D × D)) (s : PySem.Shared) (H : LHp) (hp : Hm), L2.Inv X pins σ H s → HRX X ρ hp H → ρ[i]? = some p → hp[i]? = some (.dct kvs) → VP X.K ρ H prs ws →
    mergeK kvs prs = some kvs2 → kvs.length + prs.length ≤ LIM → (∀ s' H', L2.Inv X pins σ H' s' → HRX X ρ (hp.set i (.dct kvs2)) H' → TK H H' → Q PUnit.unit s') → PySem.wpAny (PySem.model X.prog X.w) X.A (PySem.storeAll p ws) Q X.xe s
  | [], [], kvs, kvs2, s, H, hp, I, hr, hA, hx, _, hm, _, q => by
    cases hm
    unfold PySem.storeAll
    rw [List.forIn_nil]
    exact PySem.wpAny_pure (q s H I (by rw [set_back hx]; exact hr) (TK.refl _))
  | (k, d) :: prs, (u, w) :: ws, kvs, kvs2, s, H, hp, I, hr, hA, hx, ⟨⟨kv, rk, ru⟩, ⟨dv, rd, rw'⟩, vp⟩, hm, hl, q => by
    rw [mergeK] at hm
    split at hm
    · rename_i hin
      rw [List.length_cons] at hl
      unfold PySem.storeAll
      rw [List.forIn_cons]
      have hc := hr.ok _ p _ hA hx
      refine PySem.wpAny_bind (PySem.wpAny_bind (d_dset hu I hc hin rk ru rd rw' (by omega) fun s' o' u' eu cu I' c' => PySem.wpAny_pure ?_))
      have t1 : TK H (L2.upd H p o') := TK.put eu cu
      have hr' := hr.put hA hx (by intro _ z; cases z) eu cu (by intro _ z; cases z) c'
      have hdl := dput_length kvs k d
      refine store_all hu prs ws (dput kvs k d) kvs2 s' _ _ I' hr' hA (by rw [List.getElem?_set_self (List.getElem?_eq_some_iff.mp hx).1]) (vp.tk t1) hm (by omega) fun s2 H2 I2 hr2 t2 => q s2 H2 I2 ?_ (t1.trans t2)
      rw [List.set_set] at hr2
      exact hr2
    · cases hm
  | [], _ :: _, _, _, _, _, _, _, _, _, _, h, _, _, _ => h.elim
  | _ :: _, [], _, _, _, _, _, _, _, _, _, h, _, _, _ => h.elim
include hF in
theorem pe_dispM (hu : X.A.units + 9 < PySem.cLine) {ks : List (Option Expr)} {vs : List Expr} {cs : List CE} {pos : PySem.Pos} (ha : ks.all (·.isSome) = true) (hl : ks.length = vs.length) (h0 : ks ≠ []) (h15 : ks.length ≤ 15) (hev : cs.length % 2 = 0) (h : PEL X F E (inter ks vs) cs) : L2.PE X (.Dict ks vs pos) (RE X F E (.dctP cs)) := by
  refine ⟨fun pins s σ H Q I ⟨ρ, env, hp, hr, he, w⟩ => ?_⟩
  unfold wpE at w
  have hn := I.hok.fresh (Nat.le_refl s.heap.objs.size)
  have I1 := I.laid (a := s.heap.objs.size) (o := .dK []) (h' := s.heap.push { cls := .type "dict", data := .dict #[] }) (t' := s.toks) (fun _ _ q => PySem.Heap.get?_push_of_some _ q) (Nat.le_refl _) (L2.dk_empty s.heap I.big)
  have c0 : CellX X (ρ ++ [s.heap.objs.size]) (L2.upd H s.heap.objs.size (.dK [])) s.heap.objs.size (.dct []) := .inl ⟨[], L2.upd_same, .nil, Nat.zero_le _⟩
  have hr0 := hr.alloc hn c0 fun _ z => nomatch z
  have t0 : TK H (L2.upd H s.heap.objs.size (.dK [])) := TK.new hn
  have hAi : (ρ ++ [s.heap.objs.size])[hp.length]? = some s.heap.objs.size := by rw [← hr.len]; simp
  refine PySem.wpAny_Dict_any ha hl h0 h15 (L2.thn ((pps_of ha hl h).run pins _ σ _ (fun ps H1 => ∃ ds prs kvs2 ρ1 h1 vs1, ps = prsV vs1 ∧ RVs X.K ρ1 H1 ds vs1 ∧ evens ds = some prs ∧ HRX X ρ1 h1 H1 ∧ ρ1[hp.length]? = some s.heap.objs.size ∧ h1[hp.length]? = some (.dct []) ∧ prs.length ≤ 15 ∧ mergeK [] prs = some kvs2 ∧ ρ <+: ρ1 ∧ TK H H1 ∧ PVX X ρ H Q (.ref hp.length) (h1.set hp.length (.dct kvs2))) I1 ?_) fun ws s2 ⟨ps, H2, I2, rel, ds, prs, kvs2, ρ1, h1, vs1, e0, rvs, ee, hr1, hA, hx, hlen, hm, pp, tt, q⟩ => ?_)
  · refine tPairs_of hF cs _ _ _ _ _ w hr0 (he.mono (pre_snoc _ _) t0) (fun ds h1 ρ1 H1 vs1 p1 t1 hr1 rvs _ q => ?_) (fun ds h1 q => ?_) hev
    · obtain ⟨prs, e1, hc, hlen, q⟩ := ws_iff.mp q
      obtain ⟨kvs2, e2, q⟩ := ws_iff.mp q
      exact ⟨ds, prs, kvs2, ρ1, h1, vs1, rfl, rvs, e1, hr1, pre_get p1 hAi, hc, hlen, e2, (pre_snoc _ _).trans p1, t0.trans t1, q⟩
    · obtain ⟨prs, e1, _⟩ := ws_iff.mp q
      rw [e1]; rfl
  · subst e0
    exact store_all hu prs ws [] kvs2 s2 H2 h1 I2 hr1 hA hx (vp_of ee rvs rel) hm (by unfold LIM; simp; omega) fun s' H' I' hr' t' => ⟨.ref s.heap.objs.size, H', I', rfl, q ρ1 H' _ pp (tt.trans t') hr' (.ref hA)⟩
/-! ### tuple(range(n)), list(range(..)) -/
theorem rv_ints {K : PySem.W.Frag} {ρ : List Addr} {H : LHp} (f : Nat → Int) : ∀ l : List Nat, RVs K ρ H (l.map fun k => D.int (f k)) (l.map fun k => L2.V.int (f k))
  | [] => .nil
  | k :: l => .cons (.int _) (rv_ints f l)
include hF in
theorem pe_tupRgM {a : Expr} {ca : CE} {x y : Str} {p p2 pos pos2 : PySem.Pos} (hx : x = PySem.Str.ofString "tuple") (hy : y = PySem.Str.ofString "range") (hc : X.calm = true) (hg : L2.Gl X x) (hm : X.mg x = none) (hg2 : L2.Gl X y) (hm2 : X.mg y = none) (na : PySem.starEach [a] X.env = (false, PySem.eval a X.env) :: PySem.starEach [] X.env) (ha : L2.PE X a (RE X F E ca)) :
    L2.PE X (.Call (.Name x p) [.Call (.Name y p2) [a] [] pos2] [] pos) (RE X F E (.blt .tupRange [ca])) := by
  subst hx hy
  refine PE.imp (L2.pe_tupRg hc hg hm (L2.prg_1 hg2 hm2 ha na)) fun σ H Q ⟨ρ, env, hp, hr, he, w⟩ => ?_
  unfold wpE wpEs wpEs at w
  refine ⟨ρ, env, hp, hr, he, wpE_mono hF ca E env hp _ _ w fun d h1 q ρ1 H1 v p1 t1 hr1 rv1 => ?_⟩
  obtain ⟨r, e, q⟩ := ws_iff.mp q
  cases d <;> simp only [bltS] at e <;> first | (cases e; done) | skip
  rename_i j
  split at e
  · rename_i hs
    cases e
    obtain rfl := rv1.int_inv
    simp only [small, Bool.and_eq_true, decide_eq_true_eq] at hs
    refine ⟨j, rfl, ⟨by omega, by omega, by omega, by omega, by omega⟩, fun q' hq => ?_⟩
    have e2 : L2.rgV 0 j = (List.range j.toNat).map fun (k : Nat) => L2.V.int (0 + (k : Int)) := by
      unfold L2.rgV
      rw [Int.sub_zero]
    rw [e2]
    exact PV.newT (PV.weak p1 t1 q) hr1 (rv_ints (fun (k : Nat) => 0 + (k : Int)) _) hq
  · cases e
include hF in
theorem pe_lstRgM {a : Expr} {ca : CE} {x y : Str} {p p2 pos pos2 : PySem.Pos} (hx : x = PySem.Str.ofString "list") (hy : y = PySem.Str.ofString "range") (hc : X.calm = true) (hg : L2.Gl X x) (hm : X.mg x = none) (hg2 : L2.Gl X y) (hm2 : X.mg y = none) (na : PySem.starEach [a] X.env = (false, PySem.eval a X.env) :: PySem.starEach [] X.env) (ha : L2.PE X a (RE X F E ca)) :
    L2.PE X (.Call (.Name x p) [.Call (.Name y p2) [a] [] pos2] [] pos) (RE X F E (.blt .lstRange [ca])) := by
  subst hx hy
  refine PE.imp (L2.pe_listRg hc hg hm (L2.prg_1 hg2 hm2 ha na)) fun σ H Q ⟨ρ, env, hp, hr, he, w⟩ => ?_
  unfold wpE wpEs wpEs at w
  refine ⟨ρ, env, hp, hr, he, wpE_mono hF ca E env hp _ _ w fun d h1 q ρ1 H1 v p1 t1 hr1 rv1 => ?_⟩
  obtain ⟨r, e, q⟩ := ws_iff.mp q
  cases d <;> simp only [bltS] at e <;> first | (cases e; done) | skip
  rename_i j
  split at e
  · rename_i hs
    obtain rfl := newC_inv e
    obtain rfl := rv1.int_inv
    simp only [small, Bool.and_eq_true, decide_eq_true_eq] at hs
    refine ⟨j, rfl, ⟨by omega, by omega, by omega, by omega, by omega⟩, fun q' hq => ?_⟩
    have e2 : L2.rgV 0 j = (List.range j.toNat).map fun (k : Nat) => L2.V.int (0 + (k : Int)) := by
      unfold L2.rgV
      rw [Int.sub_zero]
    rw [e2]
    exact PV.newL (PV.weak p1 t1 q) hr1 (rv_ints (fun (k : Nat) => 0 + (k : Int)) _) hq
  · cases e
include hF in
theorem pe_lstRg2M {a b : Expr} {ca cb : CE} {x y : Str} {p p2 pos pos2 : PySem.Pos} (hx : x = PySem.Str.ofString "list") (hy : y = PySem.Str.ofString "range") (hc : X.calm = true) (hg : L2.Gl X x) (hm : X.mg x = none) (hg2 : L2.Gl X y) (hm2 : X.mg y = none) (na : PySem.starEach [a, b] X.env = (false, PySem.eval a X.env) :: PySem.starEach [b] X.env) (nb : PySem.starEach [b] X.env = (false, PySem.eval b X.env) :: PySem.starEach [] X.env) (ha : L2.PE X a (RE X F E ca)) (hb : L2.PE X b (RE X F E cb)) :
    L2.PE X (.Call (.Name x p) [.Call (.Name y p2) [a, b] [] pos2] [] pos) (RE X F E (.blt .lstRange [ca, cb])) := by
  subst hx hy
  refine PE.imp (L2.pe_listRg hc hg hm (L2.prg_2 hg2 hm2 ha hb na nb (by rw [nb]; rfl))) fun σ H Q ⟨ρ, env, hp, hr, he, w⟩ => ?_
  unfold wpE wpEs wpEs wpEs at w
  refine ⟨ρ, env, hp, hr, he, wpE_mono hF ca E env hp _ _ w fun d h1 q ρ1 H1 v p1 t1 hr1 rv1 => ?_⟩
  refine ⟨ρ1, env, h1, hr1, he.mono p1 t1, wpE_mono hF cb E env h1 _ _ q fun d2 h2 q0 ρ2 H2 v2 p2 t2 hr2 rv2 => ?_⟩
  obtain ⟨r, e, q1⟩ := ws_iff.mp q0
  obtain ⟨i, rfl⟩ : ∃ i, d = .int i := by cases d <;> first | exact ⟨_, rfl⟩ | (simp [bltS] at e)
  obtain ⟨j, rfl⟩ : ∃ i, d2 = .int i := by cases d2 <;> first | exact ⟨_, rfl⟩ | (simp [bltS] at e)
  simp only [bltS] at e
  split at e
  · rename_i hs
    obtain rfl := newC_inv e
    obtain rfl := rv1.int_inv
    obtain rfl := rv2.int_inv
    simp only [small, Bool.and_eq_true, decide_eq_true_eq] at hs
    refine ⟨i, j, rfl, rfl, ⟨by omega, by omega, by omega, by omega, by omega⟩, fun q' hq => ?_⟩
    exact PV.newL (PV.weak (p1.trans p2) (t1.trans t2) q1) hr2 (rv_ints (fun (k : Nat) => i + (k : Int)) _) hq
  · cases e
/-! ### x[::-1] -/
def stM1 : CE → Bool
  | .neg (.lit (.int i)) => decide (i = 1)
  | .bin .sub (.lit (.int i)) (.lit (.int j)) => decide (i = 0) && decide (j = 1)
  | _ => false
theorem stM1_wp {c : CE} (h : stM1 c = true) {env : Env} {hp : Hm} {Q : VQ} (q : Q (.int (-1)) hp) : wpE F E c env hp Q := by
  unfold stM1 at h
  split at h
  · rw [decide_eq_true_eq] at h
    subst h
    unfold wpE wpE
    exact q
  · rw [Bool.and_eq_true, decide_eq_true_eq, decide_eq_true_eq] at h
    obtain ⟨rfl, rfl⟩ := h
    unfold wpE wpE
    unfold wpE
    exact q
  · cases h
include hF in
theorem pe_revM {a st : Expr} {ca cst : CE} {p2 pos : PySem.Pos} (ha : L2.PE X a (RE X F E ca)) (hst : L2.PE X st (RE X F E cst)) (h1 : stM1 cst = true) : L2.PE X (.Subscript a (.Slice none none (some st) p2) pos) (RE X F E (.blt .rev [ca])) := peI fun pins s σ H Q ρ env hp N w => by
  unfold wpE wpEs wpEs at w
  refine PyProof.Rows.Subscript_ (ev hF ha N w fun v s1 d x ρ1 hp1 H1 N1 p1 t1 rv ru q0 => ?_)
  obtain ⟨r, e, q1⟩ := ws_iff.mp q0
  refine PySem.wpAny_Slice ?_
  rw [PySem.evalPart_none]
  refine PySem.wpAny_pure (PySem.wpAny_pure ?_)
  refine evPo hF (.inr ⟨st, rfl, hst⟩) N1 (Q' := fun o h2 => o = some (-1) ∧ h2 = hp1) (stM1_wp h1 ⟨rfl, rfl⟩) fun vs s3 o ρ3 hp3 H3 N3 p3 t3 ps q3 => ?_
  obtain ⟨rfl, rfl⟩ := q3
  have I5 : L2.Inv X pins σ H3 { s3 with heap := s3.heap.push { cls := .type "slice", data := .fields #[.none, .none, vs] } } := N3.I.kept (t' := s3.toks) fun b ob q => PySem.Heap.get?_push_of_some _ q
  have q' := PV.weak (p1.trans p3) (t1.trans t3) q1
  have rv3 := rv.mono p3 t3
  cases d <;> simp only [bltS] at e <;> first | (cases e; done) | skip
  · obtain ⟨b, xs, rfl, hx, hxs⟩ := rv3.tup_inv
    cases e
    cases ru
    obtain ⟨its, r1, ht, hz⟩ := I5.tuple hx
    show PySem.wpAny (PySem.model X.prog X.w) X.A (PyProof.Rows.subscriptTail a (.Slice none none (some st) p2) (.ref b) (.ref s3.heap.objs.size)) (L2.EP X pins σ Q) X.xe { s3 with heap := s3.heap.push { cls := .type "slice", data := .fields #[.none, .none, vs] } }
    refine PyProof.Rows.tail_any (ops := [.ref b, .ref s3.heap.objs.size]) ht.typeIs PyProof.Rows.slot_tuple_getitem.lookup ?_ (by with_unfolding_all rfl)
    have hlen := r1.length
    refine getItem_tuple_rev ht (PySem.Heap.IsSliceOf.new _ .none .none vs) .none .none ps ?_ (by rw [List.size_toArray]; omega)
    have hn := I5.hok.fresh (Nat.le_refl _)
    refine ⟨.ref _, _, I5.laid (t' := s3.toks) (o := .tup xs.reverse) (fun b ob q => PySem.Heap.get?_push_of_some _ q) (Nat.le_refl _) ?_, rfl, PV.newT q' N3.hr hxs.reverse hn⟩
    exact ⟨by rw [List.length_reverse]; exact hz, _, r1.reverse, PyProof.Rows.IsTup.new _ _⟩
  · obtain ⟨b, rfl, ha'⟩ := rv3.ref_inv
    obtain ⟨xs, e1, e2⟩ := Option.bind_eq_some_iff.mp e
    obtain rfl := newC_inv e2
    obtain ⟨b2, ys, hb, hx, hxs⟩ := N3.hr.getL e1
    obtain rfl := ref_eq ha' hb
    cases ru
    obtain ⟨its, r1, ht, hz⟩ := I5.list hx
    have hlen := r1.length
    show PySem.wpAny (PySem.model X.prog X.w) X.A (PyProof.Rows.subscriptTail a (.Slice none none (some st) p2) (.ref _) (.ref s3.heap.objs.size)) (L2.EP X pins σ Q) X.xe { s3 with heap := s3.heap.push { cls := .type "slice", data := .fields #[.none, .none, vs] } }
    refine PyProof.Rows.tail_any (ops := [.ref _, .ref s3.heap.objs.size]) ht.isList.typeIs PySem.slot_list_getitem.lookup ?_ (by with_unfolding_all rfl)
    refine PySem.wpAny_getItem_list_slice ht.isList (PySem.Heap.IsSliceOf.new _ .none .none vs) .none .none ps (by decide) ?_ (by rw [List.size_toArray]; omega)
    rw [PySem.W.krv_pick]
    have hn := I5.hok.fresh (Nat.le_refl _)
    refine ⟨.ref _, _, I5.laid (t' := s3.toks) (o := .lst ys.reverse) (fun b ob q => PySem.Heap.get?_push_of_some _ q) (Nat.le_refl _) ?_, rfl, PV.newL q' N3.hr hxs.reverse hn⟩
    exact ⟨by rw [List.length_reverse]; exact hz, _, 0, r1.reverse, PySem.Heap.get?_push_size _ rfl⟩
end
end M

end
section
set_option Elab.async false
set_option linter.all false
set_option autoImplicit false
set_option maxRecDepth 100000
set_option maxHeartbeats 4000000
/-! from the program's syntax to mini's -/
namespace M
open PySem (Addr Obj Value Str Expr Stmt)
abbrev S (s : String) : Str := PySem.Str.ofString s
/-- a def: its number, its parameters, its defaults -/
structure FI where
  id : Nat
  ps : List Str
  dfl : List D
structure Gm where
  fns : List (Str × FI)
  csts : List (Str × D)
structure Ctx where
  sc : PySem.Scope
  /-- the block's names as written: what may be stored to -/
  st : List (Str × PySem.NameKind)
  N : List Str
  G : Gm
def isGl (Γ : Ctx) (x : Str) : Bool := decide (Γ.sc.names.lookup x = some .globalImplicit) && (!(x == S "__debug__") && !(x == S "__name__"))
def isVis (Γ : Ctx) (x : Str) : Bool := (decide (Γ.sc.names.lookup x = some .local) || decide (Γ.sc.names.lookup x = some .cell) || decide (Γ.sc.names.lookup x = some .free)) && (!(x == S "__debug__") && !(x == S "__classdict__"))
def isLoc (Γ : Ctx) (x : Str) : Bool := decide (Γ.st.lookup x = some .local) || decide (Γ.st.lookup x = some .cell)
def ixOf (N : List Str) (x : Str) : Option Nat := N.findIdx? fun y => decide (y = x)
def litOf : PySem.Const → Option D
  | .none => some .non
  | .bool b => some (.bl b)
  | .int i => some (.int i)
  | .str s => if sOK s.cps.toList = true then some (.str s.cps.toList) else none
  | _ => none
def bopOf : PySem.Operator → Option Bop
  | .Add => some .add
  | .Sub => some .sub
  | .Mult => some .mul
  | .FloorDiv => some .fdiv
  | .Mod => some .mod
  | .Pow => some .pow
  | _ => none
def augOf : PySem.Operator → Option Bop
  | .Add => some .add
  | .Sub => some .sub
  | .Mult => some .mul
  | _ => none
def copOf : PySem.CmpOp → Cop
  | .Eq => .eq
  | .NotEq => .ne
  | .Lt => .lt
  | .LtE => .le
  | .Gt => .gt
  | .GtE => .ge
  | .Is => .is
  | .IsNot => .isnt
  | .In => .isin
  | .NotIn => .notin
/-- the built-in functions and types: name, arguments, ours, theirs -/
def bltTab : List (String × Nat × Blt × Value) := [("len", 1, .len, .builtin "len"), ("abs", 1, .abs, .builtin "abs"), ("int", 1, .int, .type "int"), ("max", 2, .max2, .builtin "max"), ("max", 1, .max1, .builtin "max"), ("min", 2, .min2, .builtin "min"), ("min", 1, .min1, .builtin "min"),
  ("sum", 1, .sum, .builtin "sum"), ("all", 1, .all, .builtin "all"), ("any", 1, .any, .builtin "any"), ("sorted", 1, .sorted, .builtin "sorted"), ("tuple", 1, .tuple, .type "tuple"), ("list", 1, .list, .type "list"), ("dict", 1, .dict, .type "dict"), ("str", 1, .str1, .type "str")]
def bltOf (x : Str) (n : Nat) : Option (String × Nat × Blt × Value) := bltTab.find? fun r => decide (S r.1 = x) && r.2.1 == n
def tyTab : List Ty := [.int, .bool, .str, .tuple, .list, .dict]
def tyOf (x : Str) : Option Ty := tyTab.find? fun t => decide (S (tyName t) = x)
/-- the names that must not be the module's -/
def freeNames : List String := ["len", "abs", "int", "max", "min", "sum", "all", "any", "sorted", "tuple", "list", "dict", "bool", "str", "isinstance", "range", "zip", "enumerate"]
/-- methods: name, arguments, ours, the type, the built-in -/
def methTab : List (String × Nat × Blt × String) := [("append", 1, .append, "list.append"), ("extend", 1, .extend, "list.extend"), ("pop", 0, .pop0, "list.pop"), ("pop", 1, .popI, "list.pop"), ("index", 1, .index, "list.index"), ("insert", 2, .insert, "list.insert"),
  ("setdefault", 2, .setdefault, "dict.setdefault"), ("get", 2, .get2, "dict.get")]
def methOf (x : Str) (n : Nat) : Option (String × Nat × Blt × String) := methTab.find? fun r => decide (S r.1 = x) && r.2.1 == n
def plainIx : Expr → Bool
  | .Slice _ _ _ _ => false
  | _ => true
def notSet : Expr → Bool
  | .Set _ _ _ => false
  | _ => true
def isTupE : Expr → Bool
  | .Tuple _ _ _ => true
  | _ => false
/-- what a call's shape leaves to the defaults -/
def shape (fi : FI) (n : Nat) (ks : List Str) : Option (List D) :=
  if n + ks.length ≤ fi.ps.length ∧ (fi.ps.drop n).take ks.length = ks ∧ fi.ps.length - (n + ks.length) ≤ fi.dfl.length then some (fi.dfl.drop (fi.dfl.length - (fi.ps.length - (n + ks.length)))) else none
/-- a block's own names with their slots -/
def ownOf (N : List Str) (scope : PySem.Scope) : List (Str × Nat) := (scope.names.filter fun y => decide (y.2 = .local) || decide (y.2 = .cell)).filterMap fun y => (ixOf N y.1).map fun i => (y.1, i)
def blkCtx (Γ : Ctx) (scope : PySem.Scope) : Ctx := { Γ with sc := L2.relS scope Γ.sc, st := scope.names }

/-- range(..), as an argument -/
def rngOf (Γ : Ctx) (es : List Expr) : Option (List Expr) := match es with
  | [.Call (.Name y _) as [] _] => if isGl Γ y = true ∧ y = S "range" then some as else none
  | _ => none
mutual
def cP : Nat → Ctx → Expr → Option Pat
  | 0, _, _ => none
  | n + 1, Γ, e => match e with
    | .Name x _ => if isLoc Γ x = true then (ixOf Γ.N x).map .slot else none
    | .Tuple es _ _ => if es.all plainE = true then (cPs n Γ es).map .tup else none
    | _ => none
def cPs : Nat → Ctx → List Expr → Option (List Pat)
  | 0, _, _ => none
  | n + 1, Γ, es => match es with
    | [] => some []
    | e :: es => match cP n Γ e, cPs n Γ es with
      | some p, some ps => some (p :: ps)
      | _, _ => none
end
mutual
def cE : Nat → Ctx → Expr → Option CE
  | 0, _, _ => none
  | n + 1, Γ, e => match e with
    | .Name x _ => if isVis Γ x = true then (ixOf Γ.N x).map .loc else if isGl Γ x = true then (Γ.G.csts.lookup x).map .lit else none
    | .Constant c _ _ => (litOf c).map .lit
    | .Tuple es _ _ => if es.all plainE = true ∧ es.length ≤ 1000 then (cEs n Γ es).map .tup else none
    | .List es _ => if es.all plainE = true ∧ es.length ≤ 1000 then (cEs n Γ es).map .lst else none
    | .Dict ks vs _ => match ks, vs with
      | [], [] => some (.dct [])
      | _, _ => if ks.all (·.isSome) = true ∧ ks.length = vs.length ∧ ks ≠ [] ∧ ks.length ≤ 15 then (match cEs n Γ (inter ks vs) with
        | some cs => if cs.length % 2 = 0 then some (.dctP cs) else none
        | none => none) else none
    | .BinOp a op b _ => match bopOf op, cE n Γ a, cE n Γ b with
      | some o, some x, some y => some (.bin o x y)
      | _, _, _ => none
    | .UnaryOp op a _ => match op with
      | .USub => (cE n Γ a).map .neg
      | .Not => (cE n Γ a).map .not
      | _ => none
    | .BoolOp op es _ => cB n Γ op es
    | .Compare a ops bs _ => match ops, bs with
      | [op], [b] => if PySem.behindInMarks op b = false then (match cE n Γ a, cE n Γ b with
        | some x, some y => some (.cmp (copOf op) x y)
        | _, _ => none) else none
      | [op, op'], [b, c] => if PySem.lastMarks [op, op'] [b, c] = false then (match cE n Γ a, cE n Γ b, cE n Γ c with
        | some x, some y, some z => some (.chn (copOf op) (copOf op') x y z)
        | _, _, _ => none) else none
      | _, _ => none
    | .IfExp c a b _ => match cE n Γ c, cE n Γ a, cE n Γ b with
      | some x, some y, some z => some (.ife x y z)
      | _, _, _ => none
    | .Subscript a s _ => match s with
      | .Slice lo hi st _ => match st with
        | none => match cE n Γ a, cO n Γ lo, cO n Γ hi with
          | some x, some y, some z => some (.slc x y z)
          | _, _, _ => none
        | some st => match lo, hi with
          | none, none => match cE n Γ a, cE n Γ st with
            | some x, some y => if stM1 y = true then some (.blt .rev [x]) else none
            | _, _ => none
          | _, _ => none
      | s => match cE n Γ a, cE n Γ s with
        | some x, some y => some (.idx x y)
        | _, _ => none
    | .Call f es kws pos => match f with
      | .Name x _ => if isGl Γ x = true ∧ es.all plainE = true then (match Γ.G.fns.lookup x with
        | some fi => match kws with
          | [] => match cEs n Γ es, shape fi es.length [] with
            | some cs, some dv => some (.call fi.id cs dv (List.range fi.ps.length))
            | _, _ => none
          | k :: ks => if (k :: ks).all (fun k => k.arg.isSome) = true then (match cEs n Γ es, cEs n Γ ((k :: ks).map (·.value)), shape fi es.length ((k :: ks).filterMap (·.arg)) with
            | some cs, some cs', some dv => some (.call fi.id (cs ++ cs') dv (List.range fi.ps.length))
            | _, _, _ => none) else none
        | none => match kws with
          | [] => match bltOf x es.length with
            | some r => match rngOf Γ es with
              | some as => match r.2.2.1 with
                | .tuple => if as.all plainE = true ∧ as.length = 1 then (cEs n Γ as).map (.blt .tupRange) else none
                | .list => if as.all plainE = true ∧ (as.length = 1 ∨ as.length = 2) then (cEs n Γ as).map (.blt .lstRange) else none
                | b => (cEs n Γ es).map (.blt b)
              | none => (cEs n Γ es).map (.blt r.2.2.1)
            | none => if x = S "isinstance" then (match es with
              | [a, .Name y _] => if isGl Γ y = true then (match tyOf y, cE n Γ a with
                | some t, some c => some (.blt (.isi t) [c])
                | _, _ => none) else none
              | _ => none) else none
          | _ => none) else none
      | .Attribute o m apos => if baseE o = true ∧ (apos.endLine == pos.line) = true ∧ es.all plainE = true then (match kws with
        | [] => match methOf m es.length, cE n Γ o, cEs n Γ es with
          | some r, some c, some cs => some (.meth r.2.2.1 c cs)
          | _, _, _ => none
        | _ => none) else none
      | _ => none
    | .ListComp elt gs scope _ => match gs with
      | [⟨tg, iter, ifs, a⟩] => if a = 0 ∧ L2.blkC Γ.N Γ.sc scope (ownOf Γ.N scope) = true ∧ notSet iter = true ∧ ifs.length ≤ 1 then (match cI n Γ tg iter, cP n (blkCtx Γ scope) tg, cEs n (blkCtx Γ scope) ifs, cE n (blkCtx Γ scope) elt with
        | some I, some p, some cs, some c => if (slotsP p).all (fun i => ((ownOf Γ.N scope).map (·.2)).contains i) = true then some (.comp ((ownOf Γ.N scope).map (·.2)) p I.1 I.2 cs c) else none
        | _, _, _, _ => none) else none
      | _ => none
    | .DictComp ke va gs scope _ => match gs with
      | [⟨tg, iter, ifs, a⟩] => if a = 0 ∧ L2.blkC Γ.N Γ.sc scope (ownOf Γ.N scope) = true ∧ notSet iter = true ∧ ifs.length ≤ 1 then (match cI n Γ tg iter, cP n (blkCtx Γ scope) tg, cEs n (blkCtx Γ scope) ifs, cE n (blkCtx Γ scope) ke, cE n (blkCtx Γ scope) va with
        | some I, some p, some cs, some c, some v => if (slotsP p).all (fun i => ((ownOf Γ.N scope).map (·.2)).contains i) = true then some (.dcomp ((ownOf Γ.N scope).map (·.2)) p I.1 I.2 cs c v) else none
        | _, _, _, _, _ => none) else none
      | _ => none
    | _ => none
def cEs : Nat → Ctx → List Expr → Option (List CE)
  | 0, _, _ => none
  | n + 1, Γ, es => match es with
    | [] => some []
    | e :: es => match cE n Γ e, cEs n Γ es with
      | some c, some cs => some (c :: cs)
      | _, _ => none
def cB : Nat → Ctx → PySem.BoolOp → List Expr → Option CE
  | 0, _, _, _ => none
  | n + 1, Γ, op, es => match es with
    | [] => none
    | [e] => cE n Γ e
    | e :: r => match cE n Γ e, cB n Γ op r with
      | some x, some y => some (match op with
        | .And => .and x y
        | .Or => .or x y)
      | _, _ => none
def cO : Nat → Ctx → Option Expr → Option CE
  | 0, _, _ => none
  | n + 1, Γ, o => match o with
    | none => some (.lit .non)
    | some e => cE n Γ e
/-- a source -/
def cI : Nat → Ctx → Expr → Expr → Option (IK × List CE)
  | 0, _, _, _ => none
  | n + 1, Γ, tg, iter => match iter with
    | .Call (.Name x _) es [] _ => if isGl Γ x = true ∧ es.all plainE = true ∧ (Γ.G.fns.lookup x).isNone = true ∧ x = S "range" ∧ (es.length = 1 ∨ es.length = 2) then (cEs n Γ es).map fun cs => (.range, cs)
      else if isGl Γ x = true ∧ es.all plainE = true ∧ (Γ.G.fns.lookup x).isNone = true ∧ x = S "zip" ∧ es.length = 2 ∧ isTupE tg = true then (cEs n Γ es).map fun cs => (.zip, cs)
      else if isGl Γ x = true ∧ es.all plainE = true ∧ (Γ.G.fns.lookup x).isNone = true ∧ x = S "enumerate" ∧ es.length = 1 ∧ isTupE tg = true then (cEs n Γ es).map fun cs => (.enum, cs)
      else (cE n Γ iter).map fun c => (.val, [c])
    | e => (cE n Γ e).map fun c => (.val, [c])
end
end M

end
section
set_option Elab.async false
set_option linter.all false
set_option autoImplicit false
set_option maxRecDepth 100000
set_option maxHeartbeats 4000000
/-! what compiles means what mini says -/
namespace M
open PySem (Addr Obj Value Str Expr Stmt FuncData)
def CXN : L2.CXT := fun _ _ _ _ _ _ => False
def E0 : L2.XK := fun _ _ _ => False
def EN : XP := fun _ _ _ => False
theorem passN {X : L2.Cx} {E : L2.XK} : L2.Passes CXN X E := fun _ _ _ _ _ _ _ h => h.elim
/-- the promise of a function of mini's -/
def spF (P : PySem.Program) (w : PySem.World) (K : PySem.W.Frag) (F : FnS) (id : Nat) : L2.Sp := fun vs H Q _ => ∃ ρ hp ds, HR P w K ρ hp H ∧ RVs K ρ H ds vs ∧ F id ds hp (PV P w K ρ H Q) EN
/-- how a def's parameters are bound -/
def BindG (K : PySem.W.Frag) (fd : FuncData) (fi : FI) : Prop := ∀ n ks dv, shape fi n ks = some dv → ∃ (dvs : List LV) (ds : List Value), L2.Vals dvs ds ∧ (∀ ρ H, RVs K ρ H dv dvs) ∧
  ∀ (s : PySem.Shared) (us ws : List Value), K.In s.heap → us.length = n → ws.length = ks.length → PySem.BindsTo s fd ⟨us, ks.zip ws⟩ (fi.ps.zip (us ++ ws ++ ds))
structure Good (Γ : Ctx) (F : FnS) (X : L2.Cx) : Prop where
  sc : X.env.scope = Γ.sc
  N : X.N = Γ.N
  nd : X.N.Nodup
  kind : X.env.scope.kind = .function
  calm : X.calm = true
  room : ∃ k, L2.Room k X.A
  fl : ∀ x, (Γ.st.lookup x = some .local ∨ Γ.st.lookup x = some .cell) → L2.Loc X.env.scope x ∧ (X.fn x = true ∨ X.env.scope.names.lookup x = some .local)
  fns : ∀ x fi, Γ.G.fns.lookup x = some fi → ∃ (f : Addr) (k : Nat) (fd : FuncData), L2.FnOk X.prog X.w X.K X.mg X.base CXN k f fd fi.ps (spF X.prog X.w X.K F fi.id) ∧ L2.Room k X.A ∧ X.mg x = some (.ref f) ∧ PySem.W.keepIn X.K (.ref f) = true ∧ BindG X.K fd fi
  csts : ∀ x d, Γ.G.csts.lookup x = some d → ∃ u v, X.mg x = some u ∧ L2.RelV v u ∧ ∀ ρ H, RV X.K ρ H d v
  free : ∀ x ∈ freeNames, X.mg (S x) = none
theorem Good.hu {Γ : Ctx} {F : FnS} {X : L2.Cx} (g : Good Γ F X) : X.A.units + 80 < PySem.cLine := by
  obtain ⟨k, r⟩ := g.room
  have := r.un
  omega
theorem lookup_map {f : Str × PySem.NameKind → Str × PySem.NameKind} (h1 : ∀ y, (f y).1 = y.1) {x : Str} {k : PySem.NameKind} (h2 : ∀ y, y.2 = k → f y = y) : ∀ {l : List (Str × PySem.NameKind)}, l.lookup x = some k → (l.map f).lookup x = some k
  | [], h => by simp at h
  | y :: r, h => by
    obtain ⟨n, k'⟩ := y
    cases hx : x == n with
    | true =>
      rw [List.lookup_cons, hx] at h
      have h : k' = k := Option.some.inj h
      subst h
      rw [List.map_cons, h2 (n, k') rfl, List.lookup_cons, hx]
    | false =>
      rw [List.lookup_cons, hx] at h
      have e : f (n, k') = (n, (f (n, k')).2) := Prod.ext (h1 (n, k')) rfl
      rw [List.map_cons, e, List.lookup_cons, hx]
      exact lookup_map h1 h2 h
theorem relS_same {scope sc : PySem.Scope} {x : Str} {k : PySem.NameKind} (h : scope.names.lookup x = some k) (hk : k ≠ .free) : (L2.relS scope sc).names.lookup x = some k := by
  refine lookup_map (f := fun (n, k) => if (k == .free && sc.kind == .function && sc.names.lookup n == some .cell) then (n, .cell) else (n, k)) (fun y => ?_) (fun y hy => ?_) h
  · show (if _ then (y.1, PySem.NameKind.cell) else (y.1, y.2)).1 = y.1
    split <;> rfl
  · have : (y.2 == PySem.NameKind.free) = false := by
      rw [hy]
      cases k <;> first | rfl | exact absurd rfl hk
    show (if (y.2 == PySem.NameKind.free && _ && _) = true then (y.1, PySem.NameKind.cell) else (y.1, y.2)) = y
    rw [this, Bool.false_and, Bool.false_and, if_neg Bool.false_ne_true]
/-- a block of a good context -/
theorem Good.blk {Γ : Ctx} {F : FnS} {X : L2.Cx} (g : Good Γ F X) (scope : PySem.Scope) (hk : scope.kind = .function) (s : PySem.Shared) (H : LHp) (C : Addr) (cl : List (Str × Addr)) (fp : List Addr) : Good (blkCtx Γ scope) F (X.blk s H scope (PySem.compEnvC scope cl C X.env) fp) := by
  have hs : (PySem.compEnvC scope cl C X.env).scope = L2.relS scope Γ.sc := by rw [← g.sc]; rfl
  refine ⟨hs, g.N, g.nd, ?_, g.calm, g.room, fun x hx => ?_, g.fns, g.csts, g.free⟩
  · show (PySem.compEnvC scope cl C X.env).scope.kind = .function
    rw [hs]
    exact hk
  · have rel : ∀ k, (k = PySem.NameKind.local ∨ k = .cell) → scope.names.lookup x = some k → (L2.relS scope Γ.sc).names.lookup x = some k := fun k hk h => relS_same h (by rcases hk with rfl | rfl <;> decide)
    show L2.Loc (PySem.compEnvC scope cl C X.env).scope x ∧ ((scope.names.lookup x == some .cell) = true ∨ (PySem.compEnvC scope cl C X.env).scope.names.lookup x = some .local)
    rw [hs]
    rcases hx with h | h
    · have h : scope.names.lookup x = some .local := h
      exact ⟨.inl (rel _ (.inl rfl) h), .inr (rel _ (.inl rfl) h)⟩
    · have h : scope.names.lookup x = some .cell := h
      exact ⟨.inr (rel _ (.inr rfl) h), .inl (by rw [h]; rfl)⟩
theorem gl_of {Γ : Ctx} {F : FnS} {X : L2.Cx} (g : Good Γ F X) {x : Str} (h : isGl Γ x = true) : L2.Gl X x ∧ (x == S "__debug__") = false ∧ x ≠ S "__name__" := by
  unfold isGl at h
  simp only [Bool.and_eq_true, decide_eq_true_eq, Bool.not_eq_true', beq_eq_false_iff_ne] at h
  refine ⟨?_, beq_eq_false_iff_ne.mpr h.2.1, h.2.2⟩
  show X.env.scope.names.lookup x = some .globalImplicit
  rw [g.sc]
  exact h.1
theorem vis_of {Γ : Ctx} {F : FnS} {X : L2.Cx} (g : Good Γ F X) {x : Str} (h : isVis Γ x = true) : L2.Vis X.env.scope x ∧ (x == S "__debug__") = false ∧ (x == S "__classdict__") = false := by
  unfold isVis at h
  simp only [Bool.and_eq_true, Bool.or_eq_true, decide_eq_true_eq, Bool.not_eq_true', beq_eq_false_iff_ne] at h
  refine ⟨?_, beq_eq_false_iff_ne.mpr h.2.1, beq_eq_false_iff_ne.mpr h.2.2⟩
  rw [g.sc]
  rcases h.1 with (h | h) | h
  · exact .inl h
  · exact .inr (.inl h)
  · exact .inr (.inr h)
theorem loc_of {Γ : Ctx} {F : FnS} {X : L2.Cx} (g : Good Γ F X) {x : Str} (h : isLoc Γ x = true) : L2.Loc X.env.scope x ∧ (X.fn x = true ∨ X.env.scope.names.lookup x = some .local) := by
  unfold isLoc at h
  simp only [Bool.or_eq_true, decide_eq_true_eq] at h
  exact g.fl x h
theorem ix_of {N : List Str} {x : Str} {i : Nat} (h : ixOf N x = some i) : N[i]? = some x := by
  unfold ixOf at h
  rw [List.findIdx?_eq_some_iff_getElem] at h
  obtain ⟨h1, h2, _⟩ := h
  rw [List.getElem?_eq_getElem h1]
  simpa using h2
/-! ### targets -/
theorem cP_ok {F : FnS} : ∀ (n : Nat) (Γ : Ctx) (X : L2.Cx), Good Γ F X → (∀ e p, cP n Γ e = some p → L2.PG X e (gM X p) ∧ plainE e = true) ∧ ∀ es ps, cPs n Γ es = some ps → es.all plainE = true → L2.PGs X es (gsM X ps) ∧ es.length = ps.length
  | 0, Γ, X, g => ⟨fun e p h => by simp [cP] at h, fun e p h => by simp [cPs] at h⟩
  | n + 1, Γ, X, g => by
    have ih := cP_ok (F := F) n Γ X g
    refine ⟨fun e p h => ?_, fun es ps h hp => ?_⟩
    · unfold cP at h
      cases e <;> simp only at h <;> first | (cases h; done) | skip
      · split at h
        · rename_i hl
          obtain ⟨i, hi, rfl⟩ := Option.map_eq_some_iff.mp h
          exact ⟨pg_slotM g.nd (by rw [g.N]; exact ix_of hi) (loc_of g hl).1 (loc_of g hl).2, rfl⟩
        · cases h
      · split at h
        · rename_i hl
          obtain ⟨ps, hps, rfl⟩ := Option.map_eq_some_iff.mp h
          obtain ⟨a, b⟩ := ih.2 _ _ hps hl
          exact ⟨pg_tupM g.calm a hl b, rfl⟩
        · cases h
    · unfold cPs at h
      cases es with
      | nil => cases h; exact ⟨pgs_nilM, rfl⟩
      | cons e es =>
        simp only at h
        split at h
        · rename_i p ps h1 h2
          cases h
          rw [List.all_cons, Bool.and_eq_true] at hp
          obtain ⟨a, b⟩ := ih.2 _ _ h2 hp.2
          exact ⟨pgs_consM (ih.1 _ _ h1).1 a hp.1, by rw [List.length_cons, List.length_cons, b]⟩
        · cases h
end M

end
section
set_option Elab.async false
set_option linter.all false
set_option autoImplicit false
set_option maxRecDepth 100000
set_option maxHeartbeats 4000000
/-! calls, tables -/
namespace M
open PySem (Addr Obj Value Str Expr Stmt FuncData)
theorem perm_from (zs : List D) : ∀ (m i : Nat), i + m = zs.length → permD zs (List.range' i m) = some (zs.drop i)
  | 0, i, h => by
    rw [List.range'_zero, permD, List.drop_eq_nil_of_le (by omega)]
  | m + 1, i, h => by
    have hi : i < zs.length := by omega
    rw [List.range'_succ, permD, List.getElem?_eq_getElem hi, perm_from zs m (i + 1) (by omega), List.drop_eq_getElem_cons hi]
theorem perm_id (zs : List D) {n : Nat} (h : n = zs.length) : permD zs (List.range n) = some zs := by
  rw [List.range_eq_range', perm_from zs n 0 (by omega), List.drop_zero]
theorem shape_len {fi : FI} {n : Nat} {ks : List Str} {dv : List D} (h : shape fi n ks = some dv) : n + ks.length + dv.length = fi.ps.length ∧ (fi.ps.drop n).take ks.length = ks := by
  unfold shape at h
  split at h
  · rename_i c
    cases h
    rw [List.length_drop]
    exact ⟨by omega, c.2.1⟩
  · cases h
section
variable {X : L2.Cx} {Γ : Ctx} {F : FnS} (hF : FMono F)
include hF
/-- the callee runs -/
theorem run_fnM (g : Good Γ F X) {x : Str} {fi : FI} (hx : Γ.G.fns.lookup x = some fi) {n : Nat} {ks : List Str} {dv : List D} (hs : shape fi n ks = some dv) :
    ∃ f : Addr, X.mg x = some (.ref f) ∧ PySem.W.keepIn X.K (.ref f) = true ∧ ∀ {pins : List (Addr × Obj)} {σ : L2.St} {H : LHp} {s : PySem.Shared} {Q : L2.VK} {us ws : List Value} {vs zs : List LV} {ρ : List Addr} {hp : Hm} {ds : List D}, L2.Inv X pins σ H s → L2.Vals vs us → L2.Vals zs ws → us.length = n → ws.length = ks.length →
      HRX X ρ hp H → RVs X.K ρ H ds (vs ++ zs) → F fi.id (ds ++ dv) hp (PVX X ρ H Q) EN → PySem.wpAny (PySem.model X.prog X.w) X.A (PySem.call (.ref f) us (ks.zip ws)) (L2.EP X pins σ Q) X.xe s := by
  obtain ⟨f, k, fd, FO, hr, hm, hk, hb⟩ := g.fns x fi hx
  refine ⟨f, hm, hk, fun {pins σ H s Q us ws vs zs ρ hp ds} I r rz l1 l2 hrx rv w => ?_⟩
  obtain ⟨dvs, dss, rd, rdv, bt⟩ := hb n ks dv hs
  have r2 : L2.Vals (vs ++ zs ++ dvs) (us ++ ws ++ dss) := (r.append rz).append rd
  have hsp : spF X.prog X.w X.K F fi.id (vs ++ zs ++ dvs) H Q E0 := ⟨ρ, hp, ds ++ dv, hrx, rv.append (rdv ρ H), w⟩
  refine PySem.wpAny_call (PySem.codeAny_mono (FO.run X.A X.stack s H ⟨us, ks.zip ws⟩ (us ++ ws ++ dss) (vs ++ zs ++ dvs) Q E0 hr I.env0 (bt s us ws I.kIn l1 l2) r2 hsp) fun r s' hq => ?_)
  cases r with
  | error e => exact False.elim hq
  | ok fl =>
    cases fl with
    | ret u => exact I.after hq
    | next => exact False.elim hq
    | brk => exact False.elim hq
    | cont => exact False.elim hq
theorem FMono.weak {id : Nat} {ds : List D} {hp : Hm} {ρ ρ1 : List Addr} {H H1 : LHp} {Q : L2.VK} (h : F id ds hp (PVX X ρ H Q) EN) (p : ρ <+: ρ1) (t : TK H H1) : F id ds hp (PVX X ρ1 H1 Q) EN :=
  hF id ds hp _ _ EN h fun d h' q => PV.weak p t q
theorem pe_fnM (g : Good Γ F X) {x : Str} {fi : FI} (hx : Γ.G.fns.lookup x = some fi) (hgl : isGl Γ x = true) {es : List Expr} {cs : List CE} {dv : List D} {p pos : PySem.Pos} (hs : shape fi es.length [] = some dv) (hp : es.all plainE = true) (ha : L2.PA X es (RA X F EN cs)) (hl : es.length = cs.length) :
    L2.PE X (.Call (.Name x p) es [] pos) (RE X F EN (.call fi.id cs dv (List.range fi.ps.length))) := peI fun pins s σ H Q ρ env hp0 N w => by
  obtain ⟨hg, hdb, hn⟩ := gl_of g hgl
  obtain ⟨f, hm, hk, run⟩ := run_fnM hF g hx hs
  unfold wpE at w
  have hlen := (shape_len hs).1
  have w1 := wpEs_len hF cs env hp0 _ w
  refine PySem.wpAny_Call_Name_kw (L2.ld_glob N.I hg hm ?_ hdb)
  cases es with
  | nil =>
    have hc : cs = [] := List.length_eq_zero_iff.mp hl.symm
    subst hc
    refine PySem.W.callWith_K0 N.I.kIn hk ?_
    unfold wpEs at w1
    obtain ⟨zs, e, q⟩ := ws_iff.mp w1.2
    rw [perm_id _ (by simpa using hlen.symm)] at e
    cases e
    exact run (us := []) (ws := []) (vs := []) (zs := []) (ds := []) N.I .nil .nil rfl rfl N.hr .nil q
  | cons e es =>
    have h1 : plainE e = true ∧ es.all plainE = true := by rw [List.all_cons, Bool.and_eq_true] at hp; exact hp
    refine PySem.W.callWith_K (h₀ := X.base) N.I.ok.mod.kin hk (evA hF ha N w1 fun us s1 ds xs ρ1 hp1 H1 N1 p1 t1 rv ru q => ⟨N1.I.kIn, ?_⟩) (star_plain h1.1) (any_plain h1.2)
    obtain ⟨zs, e2, q2⟩ := ws_iff.mp q.2
    rw [perm_id _ (by rw [List.length_append, q.1, ← hl]; simpa using hlen.symm)] at e2
    cases e2
    refine run (us := us) (ws := []) (vs := xs) (zs := []) (ds := ds) N1.I ru .nil ?_ rfl N1.hr (by rw [List.append_nil]; exact rv) (FMono.weak hF q2 p1 t1)
    rw [← ru.length, ← rv.length, q.1, hl]
/-! ### keywords -/
omit hF in
theorem wpEs_app (E : XP) : ∀ (cs ks : List CE) (env : Env) (h : Hm) (Q : List D → Hm → Prop), FMono F → wpEs F E (cs ++ ks) env h Q → wpEs F E cs env h fun ds h1 => wpEs F E ks env h1 fun es h2 => Q (ds ++ es) h2
  | [], ks, env, h, Q, hF, w => by
    unfold wpEs
    exact w
  | c :: cs, ks, env, h, Q, hF, w => by
    rw [List.cons_append] at w
    unfold wpEs at w ⊢
    exact wpE_mono hF c E env h _ _ w fun d h1 q => wpEs_app E cs ks env h1 _ hF q
omit hF in
theorem PK.imp {kws : List PySem.Keyword} {t t' : L2.TA} (h : L2.PK X kws t) (k : ∀ σ H Q, t' σ H Q → t σ H Q) : L2.PK X kws t' := ⟨fun pos pins s σ H Q I q => h.run pos pins s σ H Q I (k σ H Q q)⟩
omit hF in
theorem pk_nilM : L2.PK X [] (RA X F EN []) := PK.imp L2.pk_nil fun σ H Q ⟨ρ, env, hp, hr, he, h⟩ => by
  unfold wpEs at h
  exact h ρ H [] (List.prefix_refl _) (TK.refl _) hr .nil
theorem pk_consM {e : Expr} {nm : Option Str} {kpos : PySem.Pos} {kws : List PySem.Keyword} {c : CE} {cs : List CE} (ha : L2.PE X e (RE X F EN c)) (hr : L2.PK X kws (RA X F EN cs)) : L2.PK X (⟨nm, e, kpos⟩ :: kws) (RA X F EN (c :: cs)) :=
  PK.imp (L2.pk_cons ha hr) fun _ _ _ h => rd_cons hF h
omit hF in
theorem kw_names {pos : PySem.Pos} {env : PySem.Env} : ∀ {kws : List PySem.Keyword}, kws.all (fun k => k.arg.isSome) = true → (PySem.backToKw pos (PySem.keywordEach kws env)).all (·.1.isSome) = true ∧ (PySem.backToKw pos (PySem.keywordEach kws env)).any (·.1.isNone) = false ∧ (PySem.backToKw pos (PySem.keywordEach kws env)).filterMap (·.1) = kws.filterMap (·.arg) ∧ (kws.filterMap (·.arg)).length = kws.length
  | [], _ => ⟨rfl, rfl, rfl, rfl⟩
  | ⟨nm, e, p⟩ :: kws, h => by
    rw [List.all_cons, Bool.and_eq_true] at h
    obtain ⟨h1, h2, h3, h4⟩ := kw_names (pos := pos) (env := env) h.2
    obtain ⟨n, hn⟩ := Option.isSome_iff_exists.mp h.1
    have hn : nm = some n := hn
    subst hn
    refine ⟨?_, ?_, ?_, ?_⟩
    · show (true && _) = true
      rw [Bool.true_and]; exact h1
    · show (false || _) = false
      rw [Bool.false_or]; exact h2
    · show n :: List.filterMap (·.1) (PySem.backToKw pos (PySem.keywordEach kws env)) = n :: kws.filterMap (·.arg)
      rw [h3]
    · show (n :: kws.filterMap (·.arg)).length = kws.length + 1
      rw [List.length_cons, h4]
theorem pe_fnkM (g : Good Γ F X) {x : Str} {fi : FI} (hx : Γ.G.fns.lookup x = some fi) (hgl : isGl Γ x = true) {es : List Expr} {kws : List PySem.Keyword} {cs ks : List CE} {dv : List D} {p pos : PySem.Pos} (hs : shape fi es.length (kws.filterMap (·.arg)) = some dv) (hp : es.all plainE = true) (hkw : kws.all (fun k => k.arg.isSome) = true) (ha : L2.PA X es (RA X F EN cs)) (hl : es.length = cs.length) (hk : L2.PK X kws (RA X F EN ks)) (hlk : kws.length = ks.length) :
    L2.PE X (.Call (.Name x p) es kws pos) (RE X F EN (.call fi.id (cs ++ ks) dv (List.range fi.ps.length))) := peI fun pins s σ H Q ρ env hp0 N w => by
  obtain ⟨hg, hdb, hn⟩ := gl_of g hgl
  obtain ⟨f, hm, hkp, run⟩ := run_fnM hF g hx hs
  obtain ⟨k1, k2, k3, k4⟩ := kw_names (pos := pos) (env := X.env) hkw
  unfold wpE at w
  have hlen := (shape_len hs).1
  have w1 := wpEs_len hF cs env hp0 _ (wpEs_app EN cs ks env hp0 _ hF w)
  -- the keywords behind the positional ones
  have kwrun : ∀ (us : List Value) (xs : List LV) (ds : List D) (s1 : PySem.Shared) (ρ1 : List Addr) (hp1 : Hm) (H1 : LHp), Now X pins σ env ρ1 hp1 H1 s1 → ρ <+: ρ1 → TK H H1 → RVs X.K ρ1 H1 ds xs → L2.Vals xs us → ds.length = cs.length → wpEs F EN ks env hp1 (fun es h2 => ws (permD (ds ++ es ++ dv) (List.range fi.ps.length)) fun zs => F fi.id zs h2 (PVX X ρ H Q) EN) →
      PySem.wpAny (PySem.model X.prog X.w) X.A (PySem.evalAll ((PySem.backToKw pos (PySem.keywordEach kws X.env)).map (·.2))) (fun zs s2 => X.K.In s2.heap ∧ PySem.wpAny (PySem.model X.prog X.w) X.A (PySem.call (.ref f) us (((PySem.backToKw pos (PySem.keywordEach kws X.env)).filterMap (·.1)).zip zs)) (L2.EP X pins σ Q) X.xe s2) X.xe s1 := by
    intro us xs ds s1 ρ1 hp1 H1 N1 p1 t1 rv ru hds w2
    refine L2.thn (hk.run pos pins s1 σ H1 (fun zs H' => ∃ ρ' hp' es, ρ1 <+: ρ' ∧ TK H1 H' ∧ HRX X ρ' hp' H' ∧ RVs X.K ρ' H' es zs ∧ es.length = ks.length ∧ ws (permD (ds ++ es ++ dv) (List.range fi.ps.length)) fun zs => F fi.id zs hp' (PVX X ρ H Q) EN) N1.I ⟨ρ1, env, hp1, N1.hr, N1.he, wpEs_mono hF ks EN env hp1 _ _ (wpEs_len hF ks env hp1 _ w2) fun es h2 q ρ' H' zs p t hr rv => ⟨ρ', h2, es, p, t, hr, rv, q.1, q.2⟩⟩) ?_
    intro zs s2 ⟨zv, H2, I2, rz, ρ2, hp2, es, p2, t2, hr2, rv2, hes, q2⟩
    refine ⟨I2.kIn, ?_⟩
    rw [k3]
    obtain ⟨ys, e2, q3⟩ := ws_iff.mp q2
    rw [perm_id _ (by rw [List.length_append, List.length_append, hds, hes, ← hl, ← hlk, ← k4]; omega)] at e2
    cases e2
    refine run (us := us) (ws := zs) (vs := xs) (zs := zv) (ds := ds ++ es) I2 ru rz ?_ ?_ hr2 ((rv.mono p2 t2).append rv2) (FMono.weak hF q3 (p1.trans p2) (t1.trans t2))
    · rw [← ru.length, ← rv.length, hds, hl]
    · rw [← rz.length, ← rv2.length, hes, ← hlk, ← k4]
  refine PySem.wpAny_Call_Name_kw (L2.ld_glob N.I hg hm ?_ hdb)
  cases es with
  | nil =>
    have hc : cs = [] := List.length_eq_zero_iff.mp hl.symm
    subst hc
    unfold wpEs at w1
    refine PySem.W.callWith_KW0 (h₀ := X.base) N.I.ok.mod.kin hkp k1 ?_ (by rw [k2]; rfl)
    exact kwrun [] [] [] s ρ hp0 H N (List.prefix_refl _) (TK.refl _) .nil .nil rfl w1.2
  | cons e es =>
    have h1 : plainE e = true ∧ es.all plainE = true := by rw [List.all_cons, Bool.and_eq_true] at hp; exact hp
    refine PySem.W.callWith_KW (h₀ := X.base) N.I.ok.mod.kin hkp k1 (evA hF ha N w1 fun us s1 ds xs ρ1 hp1 H1 N1 p1 t1 rv ru q => ?_) (by rw [any_plain hp, k2]; rfl) (star_plain h1.1)
    exact kwrun us xs ds s1 ρ1 hp1 H1 N1 p1 t1 rv ru q.1 q.2
end
/-! ### the tables -/
theorem free_in {x : String} (h : x ∈ freeNames) {Γ : Ctx} {F : FnS} {X : L2.Cx} (g : Good Γ F X) : X.mg (S x) = none := g.free x h
theorem boot_tab : (bltTab.all fun r => decide (PySem.bootBuiltins (S r.1) = some r.2.2.2) && freeNames.contains r.1 && decide (r.2.1 ≠ 0)) = true := by decide +kernel
theorem boot_ty : (tyTab.all fun t => decide (PySem.bootBuiltins (S (tyName t)) = some (.type (tyName t))) && freeNames.contains (tyName t)) = true := by decide +kernel
section
variable {X : L2.Cx} {Γ : Ctx} {F : FnS}
theorem blt_call (g : Good Γ F X) : ∀ r ∈ bltTab, ((∃ id, r.2.2.2 = Value.builtin id) ∨ ∃ T, r.2.2.2 = .type T) ∧ L2.CallR X r.2.2.2 (liftA X (bltS r.2.2.1)) := by
  intro r hr
  have hu := g.hu
  have hc := g.calm
  simp only [bltTab, List.mem_cons, List.mem_nil_iff, or_false] at hr
  rcases hr with rfl | rfl | rfl | rfl | rfl | rfl | rfl | rfl | rfl | rfl | rfl | rfl | rfl | rfl | rfl
  · exact ⟨.inl ⟨_, rfl⟩, call_lenM⟩
  · exact ⟨.inl ⟨_, rfl⟩, call_absM⟩
  · exact ⟨.inr ⟨_, rfl⟩, call_intM⟩
  · exact ⟨.inl ⟨_, rfl⟩, call_max2M hc⟩
  · exact ⟨.inl ⟨_, rfl⟩, call_max1M hc⟩
  · exact ⟨.inl ⟨_, rfl⟩, call_min2M hc⟩
  · exact ⟨.inl ⟨_, rfl⟩, call_min1M hc⟩
  · exact ⟨.inl ⟨_, rfl⟩, call_sumM hc⟩
  · exact ⟨.inl ⟨_, rfl⟩, call_allM hc⟩
  · exact ⟨.inl ⟨_, rfl⟩, call_anyM hc⟩
  · exact ⟨.inl ⟨_, rfl⟩, call_sortedM hc hu⟩
  · exact ⟨.inr ⟨_, rfl⟩, call_tupleM⟩
  · exact ⟨.inr ⟨_, rfl⟩, call_listM hc⟩
  · exact ⟨.inr ⟨_, rfl⟩, call_dictM hc (by omega)⟩
  · exact ⟨.inr ⟨_, rfl⟩, call_strM⟩
theorem meth_call (g : Good Γ F X) : ∀ r ∈ methTab, (∃ T, T = (if isDM r.2.2.1 = true then "dict" else "list") ∧ PySem.PlainAttrs T ∧ PySem.Slot T (S r.1) r.2.2.2 ∧ PySem.typeOf (.builtin r.2.2.2) = pure (.type "method_descriptor")) ∧ L2.MtR X r.2.2.2 (liftM X r.2.2.1) := by
  intro r hr
  have hu := g.hu
  simp only [methTab, List.mem_cons, List.mem_nil_iff, or_false] at hr
  rcases hr with rfl | rfl | rfl | rfl | rfl | rfl | rfl | rfl
  · exact ⟨⟨_, rfl, PySem.F.plainAttrs_list, PySem.F.slot_list_append, PySem.F.type_list_append⟩, mt_appendM⟩
  · exact ⟨⟨_, rfl, PySem.F.plainAttrs_list, PySem.F.slot_list_extend, PySem.F.type_list_extend⟩, mt_extendM⟩
  · exact ⟨⟨_, rfl, PySem.F.plainAttrs_list, PySem.F.slot_list_pop, PySem.F.type_list_pop⟩, mt_pop0M⟩
  · exact ⟨⟨_, rfl, PySem.F.plainAttrs_list, PySem.F.slot_list_pop, PySem.F.type_list_pop⟩, mt_popIM⟩
  · exact ⟨⟨_, rfl, PySem.F.plainAttrs_list, PySem.F.slot_list_index, PySem.F.type_list_index⟩, mt_indexM (by omega)⟩
  · exact ⟨⟨_, rfl, PySem.F.plainAttrs_list, PySem.F.slot_list_insert, PySem.F.type_list_insert⟩, mt_insertM⟩
  · exact ⟨⟨_, rfl, PySem.F.plainAttrs_dict, PySem.F.slot_dict_setdefault, PySem.F.type_dict_setdefault⟩, mt_setdM hu⟩
  · exact ⟨⟨_, rfl, PySem.F.plainAttrs_dict, PySem.F.slot_dict_get, PySem.F.type_dict_get⟩, mt_getM hu⟩
end
end M

end
section
set_option Elab.async false
set_option linter.all false
set_option autoImplicit false
set_option maxRecDepth 100000
set_option maxHeartbeats 4000000
/-! expressions: soundness -/
namespace M
open PySem (Addr Obj Value Str Expr Stmt FuncData)
section
variable {F : FnS} (hF : FMono F)
theorem two_of {α : Type} {l : List α} (h : l.length = 2) : ∃ a b, l = [a, b] := by
  rcases l with _ | ⟨a, _ | ⟨b, _ | ⟨c, l⟩⟩⟩ <;> first | exact ⟨a, b, rfl⟩ | simp at h
structure SndE (F : FnS) (n : Nat) (Γ : Ctx) (X : L2.Cx) : Prop where
  e : ∀ e c, cE n Γ e = some c → L2.PE X e (RE X F EN c) ∧ L2.PT X e (RT X F EN c)
  es : ∀ es cs, cEs n Γ es = some cs → es.all plainE = true → L2.PA X es (RA X F EN cs) ∧ es.length = cs.length
  ks : ∀ kws cs, cEs n Γ (kws.map (fun k : PySem.Keyword => k.value)) = some cs → L2.PK X kws (RA X F EN cs) ∧ kws.length = cs.length
  ts : ∀ es cs, cEs n Γ es = some cs → es.length ≤ 1 → L2.PTs X es (tsM X F cs)
  b : ∀ op es c pos, cB n Γ op es = some c → L2.PE X (.BoolOp op es pos) (RE X F EN c) ∧ L2.PW X (.BoolOp op es pos) (RT X F EN c)
  o : ∀ o c, cO n Γ o = some c → PoM X F EN o c
  pe : ∀ es cs, cEs n Γ es = some cs → PEL X F EN es cs
  i : ∀ tg iter I, cI n Γ tg iter = some I → L2.PI X tg iter (iM X F EN I.1 I.2)
theorem op_of {X : L2.Cx} {op : PySem.Operator} {o : Bop} (h : bopOf op = some o) : L2.OpR X (PySem.binaryOp op) (liftR X (binS o)) := by
  cases op <;> simp only [bopOf] at h <;> first | (cases h; done) | (cases h; first | exact op_addM | exact op_subM | exact op_mulM | exact op_fdivM | exact op_modM | exact op_powM)
theorem cop_ok {X : L2.Cx} (hu : X.A.units + 80 < PySem.cLine) (op : PySem.CmpOp) : L2.OpR X (PySem.compareOp op) (liftC X fun x y h => cmpS (copOf op) x y h) := by
  cases op
  · exact op_eqM (by omega)
  · exact op_neM (by omega)
  · exact op_ltM
  · exact op_leM
  · exact op_gtM
  · exact op_geM
  · exact op_isM.1
  · exact op_isM.2
  · exact (op_inM hu).1
  · exact (op_inM hu).2
theorem lit_ok {X : L2.Cx} {c : PySem.Const} {d : D} {j : Nat} {pos : PySem.Pos} (h : litOf c = some d) : L2.PE X (.Constant c j pos) (RE X F EN (.lit d)) := by
  cases c <;> simp only [litOf] at h <;> first | (cases h; done) | skip
  · cases h; exact pe_nonM
  · cases h; exact pe_blM
  · cases h; exact pe_intM
  · split at h
    · rename_i hs
      cases h
      exact pe_strM hs
    · cases h
include hF
theorem tgl {es : List Expr} {cs : List CE} {X : L2.Cx} (h : es.length = cs.length) : es = [] → cs = [] := fun e => by
  subst e
  exact List.length_eq_zero_iff.mp h.symm
omit hF in
theorem tup_is {tg : Expr} (h : isTupE tg = true) : ∃ elts kk pos, tg = .Tuple elts kk pos := by
  cases tg <;> first | exact ⟨_, _, _, rfl⟩ | exact Bool.noConfusion h
omit hF in
theorem fold_no {e : Expr} {env : PySem.Env} (h : notSet e = true) : ∀ x, PySem.foldedSetIterable e env x = pure x := by
  intro x
  cases e <;> first | rfl | exact Bool.noConfusion h
theorem snd_i (n : Nat) (ih : ∀ Γ X, Good Γ F X → SndE F n Γ X) (Γ : Ctx) (X : L2.Cx) (g : Good Γ F X) (tg iter : Expr) (I : IK × List CE) (h : cI (n + 1) Γ tg iter = some I) : L2.PI X tg iter (iM X F EN I.1 I.2) := by
  have val : ∀ (e : Expr), ((cE n Γ e).map fun c => (IK.val, [c])) = some I → L2.PI X tg e (iM X F EN I.1 I.2) := fun e h => by
    obtain ⟨c, hc, rfl⟩ := Option.map_eq_some_iff.mp h
    exact pi_valM hF ((ih Γ X g).e e c hc).1
  unfold cI at h
  split at h
  · rename_i x p es pos
    have free : ∀ s, s ∈ freeNames → x = S s → X.mg x = none := fun s hs e => by rw [e]; exact g.free s hs
    split at h
    · rename_i hc
      obtain ⟨h1, h2, h3, h4, h5⟩ := hc
      obtain ⟨cs, hcs, rfl⟩ := Option.map_eq_some_iff.mp h
      obtain ⟨ha, hl⟩ := (ih Γ X g).es es cs hcs h2
      have hm := free "range" (by decide) h4
      have hg := (gl_of g h1).1
      rcases h5 with h5 | h5
      · obtain ⟨a, rfl⟩ := List.length_eq_one_iff.mp h5
        obtain ⟨c, rfl⟩ := List.length_eq_one_iff.mp (hl.symm.trans h5)
        exact pi_rng1M hF h4 hg hm ha (by simpa using h2)
      · obtain ⟨a, b, rfl⟩ := two_of h5
        obtain ⟨c, d, rfl⟩ := two_of (hl.symm.trans h5)
        rw [List.all_cons, List.all_cons, Bool.and_eq_true, Bool.and_eq_true] at h2
        exact pi_rng2M hF h4 hg hm ha h2.1 h2.2.1
    · split at h
      · rename_i hc
        obtain ⟨h1, h2, h3, h4, h5, h6⟩ := hc
        obtain ⟨cs, hcs, rfl⟩ := Option.map_eq_some_iff.mp h
        obtain ⟨ha, hl⟩ := (ih Γ X g).es es cs hcs h2
        have hm := free "zip" (by decide) h4
        have hg := (gl_of g h1).1
        obtain ⟨elts, kk, tpos, rfl⟩ := tup_is h6
        obtain ⟨a, b, rfl⟩ := two_of h5
        obtain ⟨c, d, rfl⟩ := two_of (hl.symm.trans h5)
        rw [List.all_cons, List.all_cons, Bool.and_eq_true, Bool.and_eq_true] at h2
        exact pi_zipM hF h4 hg hm ha h2.1 h2.2.1
      · split at h
        · rename_i hc
          obtain ⟨h1, h2, h3, h4, h5, h6⟩ := hc
          obtain ⟨cs, hcs, rfl⟩ := Option.map_eq_some_iff.mp h
          obtain ⟨ha, hl⟩ := (ih Γ X g).es es cs hcs h2
          have hm := free "enumerate" (by decide) h4
          have hg := (gl_of g h1).1
          obtain ⟨elts, kk, tpos, rfl⟩ := tup_is h6
          obtain ⟨a, rfl⟩ := List.length_eq_one_iff.mp h5
          obtain ⟨c, rfl⟩ := List.length_eq_one_iff.mp (hl.symm.trans h5)
          exact pi_enumM hF h4 hg hm ha (by simpa using h2)
        · exact val _ h
  · exact val _ h
theorem snd_es (n : Nat) (ih : ∀ Γ X, Good Γ F X → SndE F n Γ X) (Γ : Ctx) (X : L2.Cx) (g : Good Γ F X) (es : List Expr) (cs : List CE) (h : cEs (n + 1) Γ es = some cs) :
    (es.all plainE = true → L2.PA X es (RA X F EN cs) ∧ es.length = cs.length) ∧ (es.length ≤ 1 → L2.PTs X es (tsM X F cs)) := by
  unfold cEs at h
  cases es with
  | nil => cases h; exact ⟨fun _ => ⟨pa_nilM, rfl⟩, fun _ => pts_nilM⟩
  | cons e es =>
    simp only at h
    split at h
    · rename_i c cs' h1 h2
      cases h
      refine ⟨fun hp => ?_, fun hl => ?_⟩
      · rw [List.all_cons, Bool.and_eq_true] at hp
        obtain ⟨a, b⟩ := (ih Γ X g).es es cs' h2 hp.2
        exact ⟨pa_consM hF ((ih Γ X g).e e c h1).1 a (star_plain hp.1), by rw [List.length_cons, List.length_cons, b]⟩
      · have hz : es = [] := List.length_eq_zero_iff.mp (by simpa using hl)
        subst hz
        obtain ⟨_, b⟩ := (ih Γ X g).es [] cs' h2 rfl
        have : cs' = [] := List.length_eq_zero_iff.mp b.symm
        subst this
        exact pts_oneM hF ((ih Γ X g).e e c h1).2
    · cases h
theorem snd_pe (n : Nat) (ih : ∀ Γ X, Good Γ F X → SndE F n Γ X) (Γ : Ctx) (X : L2.Cx) (g : Good Γ F X) (es : List Expr) (cs : List CE) (h : cEs (n + 1) Γ es = some cs) : PEL X F EN es cs := by
  unfold cEs at h
  cases es with
  | nil => cases h; exact trivial
  | cons e es =>
    simp only at h
    split at h
    · rename_i c cs' h1 h2
      cases h
      exact ⟨((ih Γ X g).e e c h1).1, (ih Γ X g).pe es cs' h2⟩
    · cases h
theorem snd_ks (n : Nat) (ih : ∀ Γ X, Good Γ F X → SndE F n Γ X) (Γ : Ctx) (X : L2.Cx) (g : Good Γ F X) (kws : List PySem.Keyword) (cs : List CE) (h : cEs (n + 1) Γ (kws.map (fun k : PySem.Keyword => k.value)) = some cs) : L2.PK X kws (RA X F EN cs) ∧ kws.length = cs.length := by
  unfold cEs at h
  cases kws with
  | nil => cases h; exact ⟨pk_nilM, rfl⟩
  | cons k ks =>
    rw [List.map_cons] at h
    simp only at h
    split at h
    · rename_i c cs' h1 h2
      cases h
      obtain ⟨a, b⟩ := (ih Γ X g).ks ks cs' h2
      obtain ⟨nm, e, p⟩ := k
      exact ⟨pk_consM hF ((ih Γ X g).e e c h1).1 a, by rw [List.length_cons, List.length_cons, b]⟩
    · cases h
theorem snd_b (n : Nat) (ih : ∀ Γ X, Good Γ F X → SndE F n Γ X) (Γ : Ctx) (X : L2.Cx) (g : Good Γ F X) (op : PySem.BoolOp) (es : List Expr) (c : CE) (pos : PySem.Pos) (h : cB (n + 1) Γ op es = some c) :
    L2.PE X (.BoolOp op es pos) (RE X F EN c) ∧ L2.PW X (.BoolOp op es pos) (RT X F EN c) := by
  unfold cB at h
  split at h
  · cases h
  · rename_i e
    obtain ⟨a, b⟩ := (ih Γ X g).e e c h
    cases op
    · exact ⟨L2.pe_one a, pw_and1M b⟩
    · exact ⟨L2.pe_one a, pw_or1M b⟩
  · rename_i e r hne
    split at h
    · rename_i x y h1 h2
      cases h
      obtain ⟨a, b⟩ := (ih Γ X g).e e x h1
      obtain ⟨a', b'⟩ := (ih Γ X g).b op r y pos h2
      rcases r with _ | ⟨e2, r⟩
      · exact absurd rfl hne
      · cases op
        · exact ⟨pe_andM hF a a', pw_andM hF b b'⟩
        · exact ⟨pe_orM hF a a', pw_orM hF b b'⟩
    · cases h
theorem snd_o (n : Nat) (ih : ∀ Γ X, Good Γ F X → SndE F n Γ X) (Γ : Ctx) (X : L2.Cx) (g : Good Γ F X) (o : Option Expr) (c : CE) (h : cO (n + 1) Γ o = some c) : PoM X F EN o c := by
  unfold cO at h
  cases o with
  | none => cases h; exact .inl ⟨rfl, rfl⟩
  | some e => exact .inr ⟨e, rfl, ((ih Γ X g).e e c h).1⟩
theorem snd_call (n : Nat) (ih : ∀ Γ X, Good Γ F X → SndE F n Γ X) (Γ : Ctx) (X : L2.Cx) (g : Good Γ F X) (f : Expr) (es : List Expr) (kws : List PySem.Keyword) (pos : PySem.Pos) (c : CE) (h : cE (n + 1) Γ (.Call f es kws pos) = some c) : L2.PE X (.Call f es kws pos) (RE X F EN c) := by
  unfold cE at h
  simp only at h
  cases f <;> simp only at h <;> first | (cases h; done) | skip
  · -- a method
    rename_i o m apos
    split at h
    · rename_i hc
      obtain ⟨hb, hl, hp⟩ := hc
      cases kws with
      | cons _ _ => cases h
      | nil =>
        simp only at h
        split at h
        · rename_i r co cs h1 h2 h3
          cases h
          unfold methOf at h1
          have hr := List.mem_of_find?_eq_some h1
          have hq := List.find?_some h1
          rw [Bool.and_eq_true, decide_eq_true_eq] at hq
          obtain ⟨⟨T, hT, pa, slot, hty⟩, hm⟩ := meth_call g r hr
          obtain ⟨ha, hlen⟩ := (ih Γ X g).es es cs h3 hp
          rw [hq.1] at slot
          have hn : es.length < 30 := by
            have e1 : r.2.1 = es.length := by simpa using hq.2
            have : ∀ r ∈ methTab, r.2.1 < 30 := by decide
            have := this r hr
            omega
          exact pe_methM hF hT pa slot hty hm ((ih Γ X g).e o co h2).1 ha hb hl hp hn (tgl hF (X := X) hlen)
        · cases h
    · cases h
  · -- a name
    rename_i x p
    split at h
    · rename_i hc
      obtain ⟨hgl, hp⟩ := hc
      obtain ⟨hg, hdb, hn⟩ := gl_of g hgl
      split at h
      · rename_i fi hx
        cases kws with
        | cons k ks =>
          simp only at h
          split at h
          · rename_i hkw
            split at h
            · rename_i cs cs' dv h1 h2 h3
              cases h
              obtain ⟨ha, hlen⟩ := (ih Γ X g).es es cs h1 hp
              obtain ⟨hk, hlk⟩ := (ih Γ X g).ks (k :: ks) cs' h2
              exact pe_fnkM hF g hx hgl h3 hp hkw ha hlen hk hlk
            · cases h
          · cases h
        | nil =>
          simp only at h
          split at h
          · rename_i cs dv h1 h2
            cases h
            obtain ⟨ha, hlen⟩ := (ih Γ X g).es es cs h1 hp
            exact pe_fnM hF g hx hgl h2 hp ha hlen
          · cases h
      · cases kws with
        | cons _ _ => cases h
        | nil =>
          simp only at h
          split at h
          · rename_i r h1
            unfold bltOf at h1
            have hr := List.mem_of_find?_eq_some h1
            have hq := List.find?_some h1
            rw [Bool.and_eq_true, decide_eq_true_eq] at hq
            obtain ⟨hu, hcall⟩ := blt_call g r hr
            have ht := List.all_eq_true.mp boot_tab r hr
            rw [Bool.and_eq_true, Bool.and_eq_true, decide_eq_true_eq, decide_eq_true_eq] at ht
            have hm : X.mg x = none := by rw [← hq.1]; exact g.free r.1 (by simpa using ht.1.2)
            have hv : PySem.bootBuiltins x = some r.2.2.2 := by rw [← hq.1]; exact ht.1.1
            have e1 : r.2.1 = es.length := by simpa using hq.2
            have old : ∀ cs, cEs n Γ es = some cs → L2.PE X (.Call (.Name x p) es [] pos) (RE X F EN (.blt r.2.2.1 cs)) := fun cs hcs => by
              obtain ⟨ha, hlen⟩ := (ih Γ X g).es es cs hcs hp
              cases es with
              | nil => exact absurd e1 ht.2
              | cons e es => exact pe_bltM hF hu hcall hg hm hv hn hdb ha hp
            split at h
            · rename_i as has
              have hes : ∃ y p2 pos2, es = [.Call (.Name y p2) as [] pos2] ∧ isGl Γ y = true ∧ y = S "range" := by
                unfold rngOf at has
                split at has
                · split at has
                  · rename_i hc
                    cases has
                    exact ⟨_, _, _, rfl, hc.1, hc.2⟩
                  · cases has
                · cases has
              obtain ⟨y, p2, pos2, rfl, hy1, hy2⟩ := hes
              have hgy := (gl_of g hy1).1
              have hmy : X.mg y = none := by rw [hy2]; exact g.free "range" (by decide)
              split at h
              · rename_i hb
                have hx : x = S "tuple" := by
                  have : ∀ r ∈ bltTab, r.2.2.1 = .tuple → r.1 = "tuple" := by decide
                  rw [← hq.1, this r hr hb]
                split at h
                · rename_i hc
                  obtain ⟨cs, hcs, rfl⟩ := Option.map_eq_some_iff.mp h
                  obtain ⟨ha, hlen⟩ := (ih Γ X g).es as cs hcs hc.1
                  have hpe := (ih Γ X g).pe as cs hcs
                  obtain ⟨a, rfl⟩ := List.length_eq_one_iff.mp hc.2
                  obtain ⟨c, rfl⟩ := List.length_eq_one_iff.mp (hlen.symm.trans hc.2)
                  have hpl := hc.1
                  rw [List.all_cons, Bool.and_eq_true] at hpl
                  exact pe_tupRgM hF hx hy2 g.calm hg hm hgy hmy (star_plain hpl.1) hpe.1
                · cases h
              · rename_i hb
                have hx : x = S "list" := by
                  have : ∀ r ∈ bltTab, r.2.2.1 = .list → r.1 = "list" := by decide
                  rw [← hq.1, this r hr hb]
                split at h
                · rename_i hc
                  obtain ⟨cs, hcs, rfl⟩ := Option.map_eq_some_iff.mp h
                  obtain ⟨ha, hlen⟩ := (ih Γ X g).es as cs hcs hc.1
                  have hpe := (ih Γ X g).pe as cs hcs
                  rcases hc.2 with h5 | h5
                  · obtain ⟨a, rfl⟩ := List.length_eq_one_iff.mp h5
                    obtain ⟨c, rfl⟩ := List.length_eq_one_iff.mp (hlen.symm.trans h5)
                    have hpl := hc.1
                    rw [List.all_cons, Bool.and_eq_true] at hpl
                    exact pe_lstRgM hF hx hy2 g.calm hg hm hgy hmy (star_plain hpl.1) hpe.1
                  · obtain ⟨a, b, rfl⟩ := two_of h5
                    obtain ⟨c, d, rfl⟩ := two_of (hlen.symm.trans h5)
                    have hpl := hc.1
                    rw [List.all_cons, List.all_cons, Bool.and_eq_true, Bool.and_eq_true] at hpl
                    exact pe_lstRg2M hF hx hy2 g.calm hg hm hgy hmy (star_plain hpl.1) (star_plain hpl.2.1) hpe.1 hpe.2.1
                · cases h
              · obtain ⟨cs, hcs, rfl⟩ := Option.map_eq_some_iff.mp h
                exact old cs hcs
            · obtain ⟨cs, hcs, rfl⟩ := Option.map_eq_some_iff.mp h
              exact old cs hcs
          · split at h
            · rename_i hx
              split at h
              · rename_i a y p2 _
                split at h
                · rename_i hy
                  split at h
                  · rename_i t ca h1 h2
                    cases h
                    unfold tyOf at h1
                    have hr := List.mem_of_find?_eq_some h1
                    have hq := List.find?_some h1
                    rw [decide_eq_true_eq] at hq
                    have ht := List.all_eq_true.mp boot_ty t hr
                    rw [Bool.and_eq_true, decide_eq_true_eq] at ht
                    obtain ⟨hg2, hdb2, hn2⟩ := gl_of g hy
                    have hm : X.mg x = none := by rw [hx]; exact g.free "isinstance" (by decide)
                    have hm2 : X.mg y = none := by rw [← hq]; exact g.free (tyName t) (by simpa using ht.2)
                    have hv2 : PySem.bootBuiltins y = some (.type (tyName t)) := by rw [← hq]; exact ht.1
                    have hv : PySem.bootBuiltins x = some (.builtin "isinstance") := by rw [hx]; exact PyProof.Rows.boot_isinstance
                    rw [List.all_cons, Bool.and_eq_true] at hp
                    exact pe_isiM hF hx hg hm hv hg2 hm2 hv2 hn2 hdb2 ((ih Γ X g).e a ca h2).1 hp.1
                  · cases h
                · cases h
              · cases h
            · cases h
    · cases h
end
end M

end
section
set_option Elab.async false
set_option linter.all false
set_option autoImplicit false
set_option maxRecDepth 100000
set_option maxHeartbeats 4000000
/-! expressions: soundness, the induction -/
namespace M
open PySem (Addr Obj Value Str Expr Stmt FuncData)
theorem plainIx_ok {s : Expr} (h : plainIx s = true) : L2.PlainIx s := fun o i => by
  cases s <;> first | rfl | exact Bool.noConfusion h
section
variable {F : FnS} (hF : FMono F)
include hF
theorem snd_comp (n : Nat) (ih : ∀ Γ X, Good Γ F X → SndE F n Γ X) (Γ : Ctx) (X : L2.Cx) (g : Good Γ F X) (elt tg iter : Expr) (ifs : List Expr) (scope : PySem.Scope) (pos : PySem.Pos) (c : CE) (h : cE (n + 1) Γ (.ListComp elt [⟨tg, iter, ifs, 0⟩] scope pos) = some c) :
    ∃ own p k it cs ce, c = .comp (own.map (·.2)) p k it cs ce ∧ (∀ i ∈ slotsP p, i ∈ own.map (·.2)) ∧ L2.PI X tg iter (iM X F EN k it) ∧ L2.BlkOk X.N X.env.scope scope own ∧
      (∀ (s : PySem.Shared) (H : LHp) (C : Addr) (cl : List (Str × Addr)) (fp : List Addr), L2.PG (X.blk s H scope (PySem.compEnvC scope cl C X.env) fp) tg (gM X p)) ∧ (∀ (s : PySem.Shared) (H : LHp) (C : Addr) (cl : List (Str × Addr)) (fp : List Addr), L2.PTs (X.blk s H scope (PySem.compEnvC scope cl C X.env) fp) ifs (tsM X F cs)) ∧
      (∀ (s : PySem.Shared) (H : LHp) (C : Addr) (cl : List (Str × Addr)) (fp : List Addr), L2.PE (X.blk s H scope (PySem.compEnvC scope cl C X.env) fp) elt (RE X F EN ce)) ∧ ∀ x, PySem.foldedSetIterable iter X.env x = pure x := by
  unfold cE at h
  simp only at h
  split at h
  · rename_i hc
    obtain ⟨_, hb, hs, hl⟩ := hc
    split at h
    · rename_i I p cs ce h1 h2 h3 h4
      split at h
      · rename_i ho
        cases h
        have ok := L2.blkOk_by hb
        have gb := fun s H C cl fp => g.blk scope ok.kind s H C cl fp
        refine ⟨ownOf Γ.N scope, p, I.1, I.2, cs, ce, rfl, fun i hi => ?_, (ih Γ X g).i tg iter I h1, by rw [g.N, g.sc]; exact ok, fun s H C cl fp => ?_, fun s H C cl fp => ?_, fun s H C cl fp => ?_, fold_no hs⟩
        · have := List.all_eq_true.mp ho i hi
          simpa using this
        · exact ((cP_ok n _ _ (gb s H C cl fp)).1 tg p h2).1
        · exact (ih _ _ (gb s H C cl fp)).ts ifs cs h3 hl
        · exact ((ih _ _ (gb s H C cl fp)).e elt ce h4).1
      · cases h
    · cases h
  · cases h
theorem snd_dcomp (n : Nat) (ih : ∀ Γ X, Good Γ F X → SndE F n Γ X) (Γ : Ctx) (X : L2.Cx) (g : Good Γ F X) (ke va : Expr) (gs : List PySem.Comprehension) (scope : PySem.Scope) (pos : PySem.Pos) (c : CE) (h : cE (n + 1) Γ (.DictComp ke va gs scope pos) = some c) : L2.PE X (.DictComp ke va gs scope pos) (RE X F EN c) := by
  unfold cE at h
  simp only at h
  split at h
  · rename_i tg iter ifs a
    split at h
    · rename_i hc
      obtain ⟨rfl, hb, hs, hl⟩ := hc
      split at h
      · rename_i I p cs ck cv h1 h2 h3 h4 h5
        split at h
        · rename_i ho
          cases h
          have ok := L2.blkOk_by hb
          have gb := fun s H C cl fp => g.blk scope ok.kind s H C cl fp
          refine pe_dcompM hF (fun i hi => ?_) g.calm g.nd ((ih Γ X g).i tg iter I h1) (by rw [g.N, g.sc]; exact ok) (fun s H C cl fp => ?_) (fun s H C cl fp => ?_) (by have := g.hu; omega) (fun s H C cl fp => ?_) (fun s H C cl fp => ?_) (fold_no hs)
          · have := List.all_eq_true.mp ho i hi
            simpa using this
          · exact ((cP_ok n _ _ (gb s H C cl fp)).1 tg p h2).1
          · exact (ih _ _ (gb s H C cl fp)).ts ifs cs h3 hl
          · exact ((ih _ _ (gb s H C cl fp)).e ke ck h4).1
          · exact ((ih _ _ (gb s H C cl fp)).e va cv h5).1
        · cases h
      · cases h
    · cases h
  · cases h
theorem snd_e (n : Nat) (ih : ∀ Γ X, Good Γ F X → SndE F n Γ X) (Γ : Ctx) (X : L2.Cx) (g : Good Γ F X) (e : Expr) (c : CE) (h : cE (n + 1) Γ e = some c) : L2.PE X e (RE X F EN c) ∧ L2.PT X e (RT X F EN c) := by
  have hu := g.hu
  cases e with
  | Call f es kws pos => exact ⟨snd_call hF n ih Γ X g f es kws pos c h, pt_valM hF (snd_call hF n ih Γ X g f es kws pos c h) fun _ => rfl⟩
  | Name x pos =>
    unfold cE at h
    simp only at h
    have k : L2.PE X (.Name x pos) (RE X F EN c) := by
      split at h
      · rename_i hv
        obtain ⟨i, hi, rfl⟩ := Option.map_eq_some_iff.mp h
        obtain ⟨a, b, d⟩ := vis_of g hv
        exact pe_locM (by rw [g.N]; exact ix_of hi) a b d
      · split at h
        · rename_i hg
          obtain ⟨d, hd, rfl⟩ := Option.map_eq_some_iff.mp h
          obtain ⟨a, b, _⟩ := gl_of g hg
          obtain ⟨u, v, h1, h2, h3⟩ := g.csts x d hd
          exact pe_globM a h1 h2 h3 b
        · cases h
    exact ⟨k, pt_valM hF k fun _ => rfl⟩
  | Constant k j pos =>
    unfold cE at h
    obtain ⟨d, hd, rfl⟩ := Option.map_eq_some_iff.mp h
    exact ⟨lit_ok hd, pt_valM hF (lit_ok hd) fun _ => rfl⟩
  | Tuple es j pos =>
    unfold cE at h
    simp only at h
    split at h
    · rename_i hp
      obtain ⟨cs, hcs, rfl⟩ := Option.map_eq_some_iff.mp h
      obtain ⟨a, b⟩ := (ih Γ X g).es es cs hcs hp.1
      have k : L2.PE X (.Tuple es j pos) (RE X F EN (.tup cs)) := pe_tupM hF a (by have := hp.2; show cs.length ≤ 16777216; omega)
      exact ⟨k, pt_valM hF k fun _ => rfl⟩
    · cases h
  | List es pos =>
    unfold cE at h
    simp only at h
    split at h
    · rename_i hp
      obtain ⟨cs, hcs, rfl⟩ := Option.map_eq_some_iff.mp h
      obtain ⟨a, b⟩ := (ih Γ X g).es es cs hcs hp.1
      have k : L2.PE X (.List es pos) (RE X F EN (.lst cs)) := pe_lstM hF a (by have := hp.2; show cs.length ≤ 16777216; omega)
      exact ⟨k, pt_valM hF k fun _ => rfl⟩
    · cases h
  | Dict ks vs pos =>
    unfold cE at h
    simp only at h
    split at h
    · cases h
      exact ⟨pe_dnewM, pt_valM hF pe_dnewM fun _ => rfl⟩
    · split at h
      · rename_i hc
        split at h
        · rename_i cs hcs
          split at h
          · rename_i hev
            cases h
            have k := pe_dispM (pos := pos) hF (by have := g.hu; omega) hc.1 hc.2.1 hc.2.2.1 hc.2.2.2 hev ((ih Γ X g).pe _ _ hcs)
            exact ⟨k, pt_valM hF k fun _ => rfl⟩
          · cases h
        · cases h
      · cases h
  | BinOp a op b pos =>
    unfold cE at h
    simp only at h
    split at h
    · rename_i o x y h1 h2 h3
      cases h
      have k := pe_binM (pos := pos) hF (op_of h1) ((ih Γ X g).e a x h2).1 ((ih Γ X g).e b y h3).1
      exact ⟨k, pt_valM hF k fun _ => rfl⟩
    · cases h
  | UnaryOp op a pos =>
    unfold cE at h
    simp only at h
    cases op <;> simp only at h <;> first | (cases h; done) | skip
    · obtain ⟨x, hx, rfl⟩ := Option.map_eq_some_iff.mp h
      obtain ⟨p, q⟩ := (ih Γ X g).e a x hx
      exact ⟨pe_notM hF p, pt_notM hF q⟩
    · obtain ⟨x, hx, rfl⟩ := Option.map_eq_some_iff.mp h
      have k := pe_negM (pos := pos) hF ((ih Γ X g).e a x hx).1
      exact ⟨k, pt_valM hF k fun _ => rfl⟩
  | BoolOp op es pos =>
    unfold cE at h
    obtain ⟨p, q⟩ := (ih Γ X g).b op es c pos h
    exact ⟨p, q.pt⟩
  | Compare a ops bs pos =>
    unfold cE at h
    simp only at h
    split at h
    · rename_i op b
      split at h
      · rename_i hm
        split at h
        · rename_i x y h1 h2
          cases h
          have ha := ((ih Γ X g).e a x h1).1
          have hb := ((ih Γ X g).e b y h2).1
          exact ⟨pe_cmpM hF (cop_ok hu op) hm ha hb, pt_cmpM hF (cop_ok hu op) hm ha hb⟩
        · cases h
      · cases h
    · rename_i op op' b d
      split at h
      · rename_i hm
        split at h
        · rename_i x y z h1 h2 h3
          cases h
          have ha := ((ih Γ X g).e a x h1).1
          have hb := ((ih Γ X g).e b y h2).1
          have hd := ((ih Γ X g).e d z h3).1
          exact ⟨pe_chnM hF (cop_ok hu op) (cop_ok hu op') hm ha hb hd, pt_chnM hF (cop_ok hu op) (cop_ok hu op') hm ha hb hd⟩
        · cases h
      · cases h
    · cases h
  | IfExp t a b pos =>
    unfold cE at h
    simp only at h
    split at h
    · rename_i x y z h1 h2 h3
      cases h
      have k := pe_ifM (pos := pos) hF ((ih Γ X g).e t x h1).2 ((ih Γ X g).e a y h2).1 ((ih Γ X g).e b z h3).1
      exact ⟨k, pt_ifM (pos := pos) hF ((ih Γ X g).e t x h1).2 ((ih Γ X g).e a y h2).2 ((ih Γ X g).e b z h3).2⟩
    · cases h
  | Subscript a s pos =>
    have k : L2.PE X (.Subscript a s pos) (RE X F EN c) := by
      unfold cE at h
      simp only at h
      split at h
      · rename_i lo hi st p2
        split at h
        · split at h
          · rename_i x y z h1 h2 h3
            cases h
            exact pe_slcM hF ((ih Γ X g).e a x h1).1 ((ih Γ X g).o lo y h2) ((ih Γ X g).o hi z h3)
          · cases h
        · split at h
          · split at h
            · rename_i x y h1 h2
              split at h
              · rename_i hm1
                cases h
                exact pe_revM hF ((ih Γ X g).e a x h1).1 ((ih Γ X g).e _ y h2).1 hm1
              · cases h
            · cases h
          · cases h
      · rename_i hs
        split at h
        · rename_i x y h1 h2
          cases h
          refine pe_idxM hF hu (plainIx_ok ?_) ((ih Γ X g).e a x h1).1 ((ih Γ X g).e s y h2).1
          cases s <;> first | rfl | exact absurd rfl (hs _ _ _ _)
        · cases h
    exact ⟨k, pt_valM hF k fun _ => rfl⟩
  | ListComp elt gs scope pos =>
    have hg : ∃ tg iter ifs, gs = [⟨tg, iter, ifs, 0⟩] := by
      unfold cE at h
      simp only at h
      split at h
      · rename_i tg iter ifs a
        split at h
        · rename_i hc
          obtain ⟨rfl, _⟩ := hc
          exact ⟨tg, iter, ifs, rfl⟩
        · cases h
      · cases h
    obtain ⟨tg, iter, ifs, rfl⟩ := hg
    obtain ⟨own, p, k, it, cs, ce, rfl, h1, h2, h3, h4, h5, h6, h7⟩ := snd_comp hF n ih Γ X g elt tg iter ifs scope pos c h
    have q := pe_compM hF (pos := pos) h1 g.calm g.nd h2 h3 h4 h5 h6 h7
    exact ⟨q, pt_valM hF q fun _ => rfl⟩
  | DictComp ke va gs scope pos => exact ⟨snd_dcomp hF n ih Γ X g ke va gs scope pos c h, pt_valM hF (snd_dcomp hF n ih Γ X g ke va gs scope pos c h) fun _ => rfl⟩
  | _ => unfold cE at h; cases h
theorem snd_all : ∀ (n : Nat) (Γ : Ctx) (X : L2.Cx), Good Γ F X → SndE F n Γ X
  | 0, Γ, X, g => ⟨fun _ _ h => by simp [cE] at h, fun _ _ h => by simp [cEs] at h, fun _ _ h => by simp [cEs] at h, fun _ _ h => by simp [cEs] at h, fun _ _ _ _ h => by simp [cB] at h, fun _ _ h => by simp [cO] at h, fun _ _ h => by simp [cEs] at h, fun _ _ _ h => by simp [cI] at h⟩
  | n + 1, Γ, X, g => ⟨snd_e hF n (snd_all n) Γ X g, fun es cs h hp => (snd_es hF n (snd_all n) Γ X g es cs h).1 hp, snd_ks hF n (snd_all n) Γ X g, fun es cs h hl => (snd_es hF n (snd_all n) Γ X g es cs h).2 hl, snd_b hF n (snd_all n) Γ X g, snd_o hF n (snd_all n) Γ X g, snd_pe hF n (snd_all n) Γ X g, snd_i hF n (snd_all n) Γ X g⟩
end
end M

end
section
set_option Elab.async false
set_option linter.all false
set_option autoImplicit false
set_option maxRecDepth 100000
set_option maxHeartbeats 4000000
/-! statements: compile, soundness -/
namespace M
open PySem (Addr Obj Value Str Expr Stmt FuncData)
/-- the names of a swapped store: none, it is no such store; some none: not swapped -/
def locName (Γ : Ctx) (line : Nat) : Expr → Option Str
  | .Name id pos => if Γ.sc.names.lookup id == some .local && pos.line == line then some id else none
  | _ => none
def swR (Γ : Ctx) (ts vs : List Expr) : Option (Option (List Str)) :=
  if (!(ts.length == 2 || ts.length == 3) || vs.length != ts.length) = true then some none
  else if vs.all plainE = false then none
  else if ((ts.filterMap (locName Γ ((ts.head?.map (·.pos.line)).getD 0))).length != ts.length || (ts.filterMap (locName Γ ((ts.head?.map (·.pos.line)).getD 0))).eraseDups.length != (ts.filterMap (locName Γ ((ts.head?.map (·.pos.line)).getD 0))).length) = true then some none
  else if vs.all (PySem.foldedForSure 8) = true then some none
  else if vs.all (PySem.constantsAlone 8) = true then none
  else some (some (ts.filterMap (locName Γ ((ts.head?.map (·.pos.line)).getD 0))))
theorem swR_ok {Γ : Ctx} {env : PySem.Env} (hs : env.scope = Γ.sc) (hk : env.scope.kind = .function) {ts vs : List Expr} {r : Option (List Str)} (h : swR Γ ts vs = some r) {k k2 : Nat} {p p2 : PySem.Pos} : PySem.swappedStores [.Tuple ts k p] (.Tuple vs k2 p2) env = pure r := by
  have hb : env.blockKind = .function := by unfold PySem.Env.blockKind; rw [hk]; rfl
  have hn : ∀ f : Expr → Option Str, (∀ e, f e = locName Γ ((ts.head?.map (·.pos.line)).getD 0) e) → ts.filterMap f = ts.filterMap (locName Γ ((ts.head?.map (·.pos.line)).getD 0)) := fun f hf => by
    congr 1
    funext e
    exact hf e
  have hst : vs.all plainE = true → ∀ f : Expr → Bool, (∀ e, f e = !plainE e) → vs.any f = false := fun c f hf => by
    rw [List.any_eq_false]
    intro e he
    rw [hf e, List.all_eq_true.mp c e he]
    decide
  unfold swR at h
  unfold PySem.swappedStores
  simp only [pure_bind]
  rw [hb]
  by_cases c1 : (!(ts.length == 2 || ts.length == 3) || vs.length != ts.length) = true
  · rw [if_pos c1] at h
    cases h
    rw [if_pos (by rw [c1]; rfl)]
  · rw [if_neg c1] at h
    have c1' : (!(ts.length == 2 || ts.length == 3) || vs.length != ts.length || (PySem.ScopeKind.function != PySem.ScopeKind.function)) = false := by
      have : (!(ts.length == 2 || ts.length == 3) || vs.length != ts.length) = false := by simpa using c1
      rw [this]; rfl
    rw [c1', if_neg Bool.false_ne_true]
    by_cases c2 : vs.all plainE = false
    · rw [if_pos c2] at h; cases h
    · rw [if_neg c2] at h
      have c2' : vs.all plainE = true := by simpa using c2
      rw [hst c2' _ ?g1, if_neg Bool.false_ne_true, hn _ ?g2]
      case g1 => intro e; cases e <;> rfl
      case g2 => intro e; cases e <;> first | rfl | (unfold locName; rw [← hs]; rfl)
      by_cases c3 : ((ts.filterMap (locName Γ ((ts.head?.map (·.pos.line)).getD 0))).length != ts.length || (ts.filterMap (locName Γ ((ts.head?.map (·.pos.line)).getD 0))).eraseDups.length != (ts.filterMap (locName Γ ((ts.head?.map (·.pos.line)).getD 0))).length) = true
      · rw [if_pos c3] at h ⊢
        cases h
        rfl
      · rw [if_neg c3] at h ⊢
        by_cases c4 : vs.all (PySem.foldedForSure 8) = true
        · rw [if_pos c4] at h ⊢
          cases h
          rfl
        · rw [if_neg c4] at h ⊢
          by_cases c5 : vs.all (PySem.constantsAlone 8) = true
          · rw [if_pos c5] at h; cases h
          · rw [if_neg c5] at h ⊢
            cases h
            rfl

def noCompB (e : Expr) : Bool := noComp e
/-- whether a comprehension's value goes into the name within the comprehension: as the model says -/
def swC (Γ : Ctx) (e : Expr) (y : Str) (py : PySem.Pos) : Option Bool := match e with
  | .ListComp _ _ scope pos => if (py.line == pos.line) = true ∧ Γ.sc.names.lookup y = some .local then (if (scope.names.any fun (n, k) => n == y && (k == .local || k == .cell)) = false then some true else none) else if (py.line == pos.line) = false ∨ Γ.sc.names.lookup y = some .cell then some false else none
  | _ => if noComp e = true then some false else none
mutual
def cS : Nat → Ctx → Stmt → Option (List CS)
  | 0, _, _ => none
  | n + 1, Γ, st => match st with
    | .Expr e _ => match e with
      | .Constant (.str _) _ _ => some []
      | e => if noComp e = true then (cE n Γ e).map fun c => [.expr c] else none
    | .Return o _ => match o with
      | some e => (cE n Γ e).map fun c => [.ret c]
      | none => some [.ret (.lit .non)]
    | .Pass _ => some [.pass]
    | .Raise _ _ _ => some [.expr (.neg (.lit .non))]
    | .Break _ => some [.brk]
    | .Continue _ => some [.cont]
    | .If c a b _ => match cE n Γ c, cSs n Γ a, cSs n Γ b with
      | some x, some y, some z => some [.ite x y z]
      | _, _, _ => none
    | .While c a b _ => match b with
      | [] => match cE n Γ c, cSs n Γ a with
        | some x, some y => some [.whil x y]
        | _, _ => none
      | _ => none
    | .For tg it a b _ => match b with
      | [] => if notSet it = true then (match cI n Γ tg it, cP n Γ tg, cSs n Γ a with
        | some I, some p, some y => some [.for_ p I.1 I.2 y]
        | _, _, _ => none) else none
      | _ => none
    | .AugAssign tg op e _ => match tg with
      | .Name x _ => if isLoc Γ x = true then (match ixOf Γ.N x, augOf op, cE n Γ e with
        | some i, some o, some c => some [.aug i o c]
        | _, _, _ => none) else none
      | .Subscript o i _ => if plainIx i = true then (match augOf op, cE n Γ o, cE n Γ i, cE n Γ e with
        | some b, some co, some ci, some c => some [.augs co ci b c]
        | _, _, _, _ => none) else none
      | _ => none
    | .Assign tgs e _ => match tgs with
      | [tg] => match tg with
        | .Name y py => if isLoc Γ y = true then (match ixOf Γ.N y, cE n Γ e, swC Γ e y py with
          | some i, some c, some _ => some [.asg (.slot i) c]
          | _, _, _ => none) else none
        | .Tuple ts _ _ => match e with
          | .Tuple vs _ _ => match swR Γ ts vs with
            | some none => match cP n Γ tg, cE n Γ e with
              | some p, some c => some [.asg p c]
              | _, _ => none
            | some (some _) => match ts, vs with
              | [.Name x _, .Name y _], [a, b] => if plainE a = true ∧ plainE b = true ∧ Γ.sc.names.lookup x = some .local ∧ Γ.sc.names.lookup y = some .local ∧ swR Γ ts vs = some (some [x, y]) then (match ixOf Γ.N x, ixOf Γ.N y, cE n Γ a, cE n Γ b with
                | some i, some j, some ca, some cb => if i ≠ j then some [.asg (.tup [.slot i, .slot j]) (.tup [ca, cb])] else none
                | _, _, _, _ => none) else none
              | [.Name x _, .Name y _, .Name z _], [a, b, d] => if plainE a = true ∧ plainE b = true ∧ plainE d = true ∧ Γ.sc.names.lookup x = some .local ∧ Γ.sc.names.lookup y = some .local ∧ Γ.sc.names.lookup z = some .local ∧ swR Γ ts vs = some (some [x, y, z]) then (match ixOf Γ.N x, ixOf Γ.N y, ixOf Γ.N z, cE n Γ a, cE n Γ b, cE n Γ d with
                | some i, some j, some l, some ca, some cb, some cd => if i ≠ j ∧ i ≠ l ∧ j ≠ l then some [.asg (.tup [.slot i, .slot j, .slot l]) (.tup [ca, cb, cd])] else none
                | _, _, _, _, _, _ => none) else none
              | _, _ => none
            | none => none
          | e => if noComp e = true then (match cP n Γ tg, cE n Γ e with
            | some p, some c => some [.asg p c]
            | _, _ => none) else none
        | .Subscript o i _ => if plainIx i = true ∧ noComp e = true then (match cE n Γ o, cE n Γ i, cE n Γ e with
          | some co, some ci, some c => some [.set co ci c]
          | _, _, _ => none) else none
        | _ => none
      | _ => none
    | _ => none
def cSs : Nat → Ctx → List Stmt → Option (List CS)
  | 0, _, _ => none
  | n + 1, Γ, sts => match sts with
    | [] => some []
    | st :: r => match cS n Γ st, cSs n Γ r with
      | some a, some b => some (a ++ b)
      | _, _ => none
end
theorem swC_ok {Γ : Ctx} {env : PySem.Env} (hs : env.scope = Γ.sc) (hk : env.scope.kind = .function) {e : Expr} {y : Str} {py : PySem.Pos} {l : Nat} {b : Bool} (h : swC Γ e y py = some b) : PySem.swapsWith e (some (.Name y py)) l env = pure b := by
  have hb : env.blockKind = .function := by unfold PySem.Env.blockKind; rw [hk]; rfl
  unfold swC at h
  split at h
  · rename_i elt gs scope pos
    split at h
    · rename_i c
      split at h
      · rename_i ha
        cases h
        exact L2.sw_true hk (by rw [hs]; exact c.2) c.1 ha
      · cases h
    · split at h
      · rename_i c
        cases h
        unfold PySem.swapsWith
        simp only [pure_bind]
        rw [hb]
        have : (env.kindOf y == some PySem.NameKind.local && py.line == (Expr.ListComp elt gs scope pos).pos.line) = false := by
          rcases c with c | c
          · rw [show (Expr.ListComp elt gs scope pos).pos.line = pos.line from rfl, c, Bool.and_false]
          · have : env.kindOf y = some .cell := by show env.scope.names.lookup y = _; rw [hs]; exact c
            rw [this]; rfl
        show (pure (PySem.ScopeKind.function == PySem.ScopeKind.function && env.kindOf y == some PySem.NameKind.local && py.line == (Expr.ListComp elt gs scope pos).pos.line && _) : PySem.Sem Bool) = pure false
        rw [Bool.and_assoc (PySem.ScopeKind.function == PySem.ScopeKind.function), this, Bool.and_false, Bool.false_and]
      · cases h
  · split at h
    · rename_i hn
      cases h
      exact swap_no hn
    · cases h
end M

end
section
set_option Elab.async false
set_option linter.all false
set_option autoImplicit false
set_option maxRecDepth 100000
set_option maxHeartbeats 4000000
/-! statements: soundness -/
namespace M
open PySem (Addr Obj Value Str Expr Stmt FuncData)
section
variable {X : L2.Cx} {F : FnS} (hF : FMono F)
include hF
theorem ps_par3M {i j l : Nat} {x y z : Str} {a b d : Expr} {ca cb cd : CE} {px py pz pt pos : PySem.Pos} {kt k2 : Nat} {pt2 : PySem.Pos} (hc : X.calm = true) (hN : X.N.Nodup) (hi : X.N[i]? = some x) (hj : X.N[j]? = some y) (hl : X.N[l]? = some z) (hij : i ≠ j) (hil : i ≠ l) (hjl : j ≠ l)
    (hx : X.env.scope.names.lookup x = some .local) (hy : X.env.scope.names.lookup y = some .local) (hz : X.env.scope.names.lookup z = some .local) (ha : L2.PA X [a, b, d] (RA X F EN [ca, cb, cd]))
    (hw : PySem.swappedStores [.Tuple [.Name x px, .Name y py, .Name z pz] kt pt] (.Tuple [a, b, d] k2 pt2) X.env = pure (some [x, y, z])) :
    L2.PS X (.Assign [.Tuple [.Name x px, .Name y py, .Name z pz] kt pt] (.Tuple [a, b, d] k2 pt2) pos) (RS X F EN (.asg (.tup [.slot i, .slot j, .slot l]) (.tup [ca, cb, cd]))) :=
  PS.imp (L2.ps_par3 hc hN hi hj hl hij hil hjl hx hy hz ha hw rfl) fun D σ H ⟨ρ, env, hp, Z, hr, he, w, zz⟩ => by
    unfold wpS wpE at w
    refine ⟨ρ, env, hp, hr, he, wpEs_mono hF [ca, cb, cd] EN env hp _ _ w fun ds h1 q ρ1 H1 vs p t hr1 rv => ?_⟩
    unfold wpP at q
    have hl := wpPs_len _ _ _ _ q
    rcases ds with _ | ⟨d1, _ | ⟨d2, _ | ⟨d3, _ | ⟨d4, ds⟩⟩⟩⟩ <;> try (simp at hl; done)
    cases rv with
    | cons rv rest =>
      obtain ⟨u, v, rfl, ru, rw'⟩ := rest.two_inv
      unfold wpPs wpP wpPs wpP wpPs wpP wpPs at q
      exact ⟨_, u, v, rfl, zz.nx _ _ ρ1 H1 _ q.2.2.2 p t hr1 ((((he.mono p t).set rv).set ru).set rw')⟩
end
section
variable {F : FnS} (hF : FMono F)
include hF
theorem asg_sub {o i : Expr} {env : PySem.Env} {tpos : PySem.Pos} (h : plainIx i = true) : ∀ v, PySem.assign (.Subscript o i tpos) env v = (do
      let ov ← PySem.holding [v] (PySem.eval o env)
      let iv ← PySem.holding [v, ov] (PySem.eval i env)
      PySem.standAt tpos
      PySem.holding [v, ov, iv] (PySem.setItem ov iv v)
      PySem.release [v, ov, iv] []) := fun v => by
  cases i <;> first | rfl | exact Bool.noConfusion h
theorem aug_sub {i : Expr} (h : plainIx i = true) : ∀ ov iv new, PySem.augStore i ov iv new = (do PySem.holding [new, ov, iv] (PySem.setItem ov iv new); PySem.release [new, ov, iv] []; pure .next) := fun ov iv new => by
  cases i <;> first | rfl | exact Bool.noConfusion h
omit hF in
theorem augOf_k {op : PySem.Operator} {b : Bop} (h : augOf op = some b) : bopK b = some op := by
  cases op <;> simp only [augOf] at h <;> first | (cases h; done) | (cases h; rfl)
omit hF in
theorem sw_tup {ts : List Expr} {k : Nat} {p : PySem.Pos} {e : Expr} {env : PySem.Env} (h : ∀ vs k2 p2, e ≠ .Tuple vs k2 p2) : PySem.swappedStores [.Tuple ts k p] e env = pure none := by
  cases e <;> first | rfl | exact absurd rfl (h _ _ _)
omit hF in
theorem sw_name {x : Str} {p : PySem.Pos} {e : Expr} {env : PySem.Env} : PySem.swappedStores [.Name x p] e env = pure none := rfl
omit hF in
theorem sw_sub {o i : Expr} {p : PySem.Pos} {e : Expr} {env : PySem.Env} : PySem.swappedStores [.Subscript o i p] e env = pure none := rfl
structure SndS (F : FnS) (n : Nat) (Γ : Ctx) (X : L2.Cx) : Prop where
  s : ∀ st cs, cS n Γ st = some cs → ∀ rest rs, L2.PSs X rest (RSs X F EN rs) → L2.PSs X (st :: rest) (RSs X F EN (cs ++ rs))
  ss : ∀ sts cs, cSs n Γ sts = some cs → L2.PSs X sts (RSs X F EN cs)
theorem snd_asg (n : Nat) (Γ : Ctx) (X : L2.Cx) (g : Good Γ F X) (tg e : Expr) (pos : PySem.Pos) (cs : List CS) (h : cS (n + 1) Γ (.Assign [tg] e pos) = some cs) : ∃ c, cs = [c] ∧ L2.PS X (.Assign [tg] e pos) (RS X F EN c) := by
  have A := snd_all hF n Γ X g
  have P := cP_ok (F := F) n Γ X g
  unfold cS at h
  simp only at h
  cases tg <;> simp only at h <;> first | (cases h; done) | skip
  · -- a subscript
    rename_i o i tpos
    split at h
    · rename_i hc
      split at h
      · rename_i co ci c h1 h2 h3
        cases h
        exact ⟨_, rfl, ps_subM hF g.hu (A.e o co h1).1 (A.e i ci h2).1 (A.e e c h3).1 hc.2 sw_sub (asg_sub hF hc.1)⟩
      · cases h
    · cases h
  · -- a name
    rename_i y py
    split at h
    · rename_i hl
      split at h
      · rename_i i c b h1 h2 h3
        cases h
        refine ⟨_, rfl, ?_⟩
        have sw := fun l => swC_ok (l := l) g.sc g.kind h3
        cases b with
        | false =>
          exact ps_asgM hF (A.e e c h2).1 (pg_slotM g.nd (by rw [g.N]; exact ix_of h1) (loc_of g hl).1 (loc_of g hl).2) rfl (sw pos.line) sw_name
        | true =>
          -- a comprehension stored within
          have hcomp : ∃ elt gs scope p2, e = .ListComp elt gs scope p2 ∧ Γ.sc.names.lookup y = some .local := by
            unfold swC at h3
            split at h3
            · split at h3
              · rename_i c
                exact ⟨_, _, _, _, rfl, c.2⟩
              · split at h3 <;> cases h3
            · split at h3 <;> cases h3
          obtain ⟨elt, gs, scope, p2, rfl, hyl⟩ := hcomp
          cases n with
          | zero => simp [cE] at h2
          | succ m =>
            have hg : ∃ tg iter ifs, gs = [⟨tg, iter, ifs, 0⟩] := by
              have h := h2
              unfold cE at h
              simp only at h
              split at h
              · rename_i tg iter ifs a
                split at h
                · rename_i hc
                  obtain ⟨rfl, _⟩ := hc
                  exact ⟨tg, iter, ifs, rfl⟩
                · cases h
              · cases h
            obtain ⟨tg, iter, ifs, rfl⟩ := hg
            obtain ⟨own, p, k, it, cs, ce, rfl, q1, q2, q3, q4, q5, q6, q7⟩ := snd_comp hF m (snd_all hF m) Γ X g elt tg iter ifs scope p2 c h2
            exact ps_asgcM hF (ps_compM hF q1 g.calm g.nd (by rw [g.N]; exact ix_of h1) (by rw [g.sc]; exact hyl) (sw pos.line) q2 q3 q4 q5 q6 q7)
      · cases h
    · cases h
  · -- a tuple
    rename_i ts k tpos
    split at h
    · rename_i vs k2 p2
      split at h
      · rename_i hsw
        split at h
        · rename_i p c h1 h2
          cases h
          obtain ⟨a, b⟩ := P.1 _ _ h1
          exact ⟨_, rfl, ps_asgM hF (A.e _ c h2).1 a b (swaps_no rfl) (swR_ok g.sc g.kind hsw)⟩
        · cases h
      · rename_i nm hsw
        split at h
        · rename_i x px y py a b
          split at h
          · rename_i hc
            obtain ⟨pa, pb, hx, hy, hs2⟩ := hc
            split at h
            · rename_i i j ca cb h1 h2 h3 h4
              split at h
              · rename_i hij
                cases h
                refine ⟨_, rfl, ps_parM hF g.calm g.nd (by rw [g.N]; exact ix_of h1) (by rw [g.N]; exact ix_of h2) hij (by rw [g.sc]; exact hx) (by rw [g.sc]; exact hy) ?_ (swR_ok g.sc g.kind hs2)⟩
                exact pa_consM hF (A.e a ca h3).1 (pa_consM hF (A.e b cb h4).1 pa_nilM (star_plain pb)) (star_plain pa)
              · cases h
            · cases h
          · cases h
        · rename_i x px y py z pz a b d
          split at h
          · rename_i hc
            obtain ⟨pa, pb, pd, hx, hy, hz, hs2⟩ := hc
            split at h
            · rename_i i j l ca cb cd h1 h2 h3 h4 h5 h6
              split at h
              · rename_i hij
                cases h
                refine ⟨_, rfl, ps_par3M hF g.calm g.nd (by rw [g.N]; exact ix_of h1) (by rw [g.N]; exact ix_of h2) (by rw [g.N]; exact ix_of h3) hij.1 hij.2.1 hij.2.2 (by rw [g.sc]; exact hx) (by rw [g.sc]; exact hy) (by rw [g.sc]; exact hz) ?_ (swR_ok g.sc g.kind hs2)⟩
                exact pa_consM hF (A.e a ca h4).1 (pa_consM hF (A.e b cb h5).1 (pa_consM hF (A.e d cd h6).1 pa_nilM (star_plain pd)) (star_plain pb)) (star_plain pa)
              · cases h
            · cases h
          · cases h
        · cases h
      · cases h
    · rename_i hne
      split at h
      · rename_i hn
        split at h
        · rename_i p c h1 h2
          cases h
          obtain ⟨a, b⟩ := P.1 _ _ h1
          exact ⟨_, rfl, ps_asgM hF (A.e _ c h2).1 a b (swaps_no hn) (sw_tup hne)⟩
        · cases h
      · cases h
theorem snd_s (n : Nat) (Γ : Ctx) (X : L2.Cx) (g : Good Γ F X) (hx : X.xe = fun _ _ => False) (ih : SndS F n Γ X) (st : Stmt) (cs : List CS) (h : cS (n + 1) Γ st = some cs) (rest : List Stmt) (rs : List CS) (hr : L2.PSs X rest (RSs X F EN rs)) : L2.PSs X (st :: rest) (RSs X F EN (cs ++ rs)) := by
  have A := snd_all hF n Γ X g
  have P := cP_ok (F := F) n Γ X g
  have own : PySem.PassesOwn (PySem.model X.prog X.w) X.A X.env X.xe := by rw [hx]; exact .never
  have one : ∀ c, cs = [c] → L2.PS X st (RS X F EN c) → L2.PSs X (st :: rest) (RSs X F EN (cs ++ rs)) := fun c e k => by
    subst e
    exact pss_consM k hr
  cases st with
  | Assign tgs e pos =>
    have ht : ∃ tg, tgs = [tg] := by
      unfold cS at h
      simp only at h
      split at h
      · exact ⟨_, rfl⟩
      · cases h
    obtain ⟨tg, rfl⟩ := ht
    obtain ⟨c, hc, k⟩ := snd_asg hF n Γ X g tg e pos cs h
    exact one c hc k
  | Expr e pos =>
    unfold cS at h
    simp only at h
    split at h
    · cases h
      exact pss_docM hr
    · split at h
      · rename_i hn
        obtain ⟨c, hc, rfl⟩ := Option.map_eq_some_iff.mp h
        exact one _ rfl (ps_exprM hF (A.e _ c hc).1 hn)
      · cases h
  | Return o pos =>
    unfold cS at h
    simp only at h
    cases o with
    | none => cases h; exact one _ rfl ps_retNM
    | some e =>
      obtain ⟨c, hc, rfl⟩ := Option.map_eq_some_iff.mp h
      exact one _ rfl (ps_retM hF (A.e _ c hc).1)
  | Pass pos => unfold cS at h; cases h; exact one _ rfl ps_passM
  | Raise e c pos => unfold cS at h; cases h; exact one _ rfl ps_neverM
  | Break pos => unfold cS at h; cases h; exact one _ rfl ps_brkM
  | Continue pos => unfold cS at h; cases h; exact one _ rfl ps_contM
  | If c a b pos =>
    unfold cS at h
    simp only at h
    split at h
    · rename_i x y z h1 h2 h3
      cases h
      exact one _ rfl (ps_ifM hF (A.e c x h1).2 (ih.ss a y h2) (ih.ss b z h3))
    · cases h
  | While c a b pos =>
    unfold cS at h
    simp only at h
    split at h
    · split at h
      · rename_i x y h1 h2
        cases h
        exact one _ rfl (ps_whileM hF own (A.e c x h1).2 (ih.ss a y h2))
      · cases h
    · cases h
  | For tg it a b pos =>
    unfold cS at h
    simp only at h
    split at h
    · split at h
      · rename_i hs
        split at h
        · rename_i I p y h1 h2 h3
          cases h
          exact one _ rfl (ps_forM hF own g.calm (A.i tg it I h1) (P.1 tg p h2).1 (ih.ss a y h3) (fold_no hs))
        · cases h
      · cases h
    · cases h
  | AugAssign tg op e pos =>
    unfold cS at h
    simp only at h
    cases tg <;> simp only at h <;> first | (cases h; done) | skip
    · split at h
      · rename_i hi
        split at h
        · rename_i b co ci c h1 h2 h3 h4
          cases h
          exact one _ rfl (ps_augsM hF g.hu (augOf_k h1) (A.e _ co h2).1 (A.e _ ci h3).1 (A.e _ c h4).1 (aug_sub hF hi))
        · cases h
      · cases h
    · split at h
      · rename_i hl
        split at h
        · rename_i i o c h1 h2 h3
          cases h
          exact one _ rfl (ps_augM hF (augOf_k h2) g.nd (by rw [g.N]; exact ix_of h1) (loc_of g hl).1 (loc_of g hl).2 (A.e _ c h3).1)
        · cases h
      · cases h
  | _ => unfold cS at h; cases h
theorem snd_ss (n : Nat) (Γ : Ctx) (X : L2.Cx) (ih : SndS F n Γ X) (sts : List Stmt) (cs : List CS) (h : cSs (n + 1) Γ sts = some cs) : L2.PSs X sts (RSs X F EN cs) := by
  unfold cSs at h
  cases sts with
  | nil => cases h; exact pss_nilM
  | cons st r =>
    simp only at h
    split at h
    · rename_i a b h1 h2
      cases h
      exact ih.s st a h1 r b (ih.ss r b h2)
    · cases h
theorem snd_st : ∀ (n : Nat) (Γ : Ctx) (X : L2.Cx), Good Γ F X → (X.xe = fun _ _ => False) → SndS F n Γ X
  | 0, Γ, X, g, hx => ⟨fun _ _ h => by simp [cS] at h, fun _ _ h => by simp [cSs] at h⟩
  | n + 1, Γ, X, g, hx => ⟨fun st cs h rest rs hr => snd_s hF n Γ X g hx (snd_st n Γ X g hx) st cs h rest rs hr, fun sts cs h => snd_ss hF n Γ X (snd_st n Γ X g hx) sts cs h⟩
end
end M

end
section
set_option Elab.async false
set_option linter.all false
set_option autoImplicit false
set_option maxRecDepth 100000
set_option maxHeartbeats 4000000
/-! programs -/
namespace M
open PySem (Addr Obj Value Str Expr Stmt FuncData)
/-- a def of the text -/
structure Row where
  x : Str
  fi : FI
  args : PySem.Arguments
  body : List Stmt
  scope : PySem.Scope
  N : List Str
def Row.ok (r : Row) : Bool :=
  (match r.scope.kind with | .function => true | _ => false) && !r.scope.isCoroutine && !r.scope.isGenerator && decide r.N.Nodup && decide (r.N.take r.fi.ps.length = r.fi.ps) && (r.fi.ps.all fun x => decide (r.scope.names.lookup x = some .local) || decide (r.scope.names.lookup x = some .cell)) && r.scope.names.all fun y => decide (y.2 ≠ .free)
theorem Row.sc {r : Row} (h : r.ok = true) : L2.FnScope r.N r.fi.ps r.scope := by
  unfold Row.ok at h
  simp only [Bool.and_eq_true, decide_eq_true_eq, Bool.not_eq_true', List.all_eq_true, Bool.or_eq_true] at h
  obtain ⟨⟨⟨⟨⟨⟨h1, h2⟩, h3⟩, h4⟩, h5⟩, h6⟩, h7⟩ := h
  refine ⟨?_, h2, h3, h4, h5, h6, h7⟩
  split at h1
  · assumption
  · cases h1
def Row.ctx (r : Row) (G : Gm) : Ctx := ⟨r.scope, r.scope.names, r.N, G⟩
def FUEL : Nat := 400
def Row.def_ (r : Row) (G : Gm) : Option Def := if r.ok = true then (cSs FUEL (r.ctx G) r.body).map fun b => ⟨r.fi.ps.length, r.N.length, b⟩ else none
/-- what the head tells -/
structure Facts (G : Gm) (tab : List Row) (K : PySem.W.Frag) (mg : Str → Option Value) : Prop where
  fns : ∀ x fi, G.fns.lookup x = some fi → ∃ r ∈ tab, r.fi = fi ∧ ∃ (qual : Str) (dvs : List LV) (f : Addr) (fd : FuncData), mg x = some (.ref f) ∧ L2.FunD K r.x qual r.args r.body r.scope dvs [] f fd ∧ BindG K fd fi
  csts : ∀ x d, G.csts.lookup x = some d → ∃ u v, mg x = some u ∧ L2.RelV v u ∧ ∀ ρ H, RV K ρ H d v
  free : ∀ x ∈ freeNames, mg (S x) = none
theorem ok_all {P : PySem.Program} {w : PySem.World} {K : PySem.W.Frag} {mg : Str → Option Value} {base : PySem.Heap} {G : Gm} {tab : List Row} {Pm : Prog} (Fc : Facts G tab K mg) (hP : ∀ r ∈ tab, ∃ d, r.def_ G = some d ∧ Pm.lookup r.fi.id = some d) :
    ∀ (n : Nat) (r : Row), r ∈ tab → ∀ (qual : Str) (dvs : List LV) (f : Addr) (fd : FuncData), L2.FunD K r.x qual r.args r.body r.scope dvs [] f fd → L2.FnOk P w K mg base CXN n f fd r.fi.ps (spF P w K (FW Pm n) r.fi.id)
  | 0, r, hr, qual, dvs, f, fd, FD => ⟨fun vs H Q E ⟨_, _, _, _, _, h⟩ => h.elim, fun A outer s H args us vs Q E hr e0 hb r ⟨_, _, _, _, _, h⟩ => h.elim⟩
  | n + 1, r, hr, qual, dvs, f, fd, FD => by
    obtain ⟨d, hd, hl⟩ := hP r hr
    unfold Row.def_ at hd
    split at hd
    · rename_i hok
      obtain ⟨b, hb, rfl⟩ := Option.map_eq_some_iff.mp hd
      have S := Row.sc hok
      have open_ : ∀ {ds : List D} {hp : Hm} {Q : VQ}, FW Pm (n + 1) r.fi.id ds hp Q EN → ds.length = r.fi.ps.length ∧ wpSs (FW Pm n) EN b (ds.map some ++ List.replicate (r.N.length - r.fi.ps.length) none) hp { nx := fun _ h' => Q .non h', rt := Q, bk := fun _ _ => False, ct := fun _ _ => False } := fun {ds hp Q} h => by
        unfold FW at h
        rw [hl] at h
        exact h
      refine FD.ok S (fun vs H Q E ⟨ρ, hp, ds, h1, h2, h3⟩ => by rw [← h2.length]; exact (open_ h3).1) fun cdv A outer s H vs Q E room ⟨ρ, hp, ds, h1, h2, h3⟩ => ?_
      obtain ⟨q1, q2⟩ := open_ h3
      have g : Good (r.ctx G) (FW Pm n) (L2.cxOf CXN P w K mg base r.N qual r.scope f cdv A outer s H E).nox := by
        refine ⟨rfl, rfl, S.nd, S.kind, rfl, ⟨n, room⟩, fun x hx => ⟨hx, .inl rfl⟩, fun x fi hx => ?_, Fc.csts, Fc.free⟩
        obtain ⟨r', hr', rfl, qual', dvs', f', fd', e1, e2, e3⟩ := Fc.fns x fi hx
        exact ⟨f', n, fd', ok_all Fc hP n r' hr' qual' dvs' f' fd' e2, room, e1, e2.kp, e3⟩
      refine ⟨RSs (L2.cxOf CXN P w K mg base r.N qual r.scope f cdv A outer s H E).nox (FW Pm n) EN b, L2.PSs.nox ((snd_st (FW_mono Pm n) FUEL (r.ctx G) _ g rfl).ss r.body b hb), ?_⟩
      refine ⟨ρ, _, hp, _, h1, ?_, q2, ⟨?_, ?_, ?_, ?_⟩⟩
      · have hv : vs.length = r.fi.ps.length := by rw [← h2.length]; exact q1
        refine ⟨?_, fun i d hd => ?_⟩
        · show (vs.map some ++ List.replicate (r.N.length - vs.length) none).length = _
          simp [h2.length, hv]
        · show ∃ v, (vs.map some ++ List.replicate (r.N.length - vs.length) none)[i]? = some (some v) ∧ _
          by_cases hi : i < ds.length
          · rw [List.getElem?_append_left (by simpa using hi), List.getElem?_map] at hd
            obtain ⟨d', e1, e2⟩ := Option.map_eq_some_iff.mp hd
            cases e2
            obtain ⟨v, e3, rv⟩ := h2.get e1
            exact ⟨v, by rw [List.getElem?_append_left (by rw [List.length_map, ← h2.length]; exact hi), List.getElem?_map, e3]; rfl, rv⟩
          · rw [List.getElem?_append_right (by simpa using hi), List.getElem?_replicate] at hd
            split at hd <;> cases hd
      · exact fun e' h' ρ' H' σ' q p t hr' he' => q ρ' H' .non p t hr' .non
      · exact fun d h' q => q
      · exact fun e' h' ρ' H' σ' q => q.elim
      · exact fun e' h' ρ' H' σ' q => q.elim
    · cases hd
end M

end
section
set_option Elab.async false
set_option linter.all false
set_option autoImplicit false
set_option maxRecDepth 100000
set_option maxHeartbeats 4000000
/-! how a call binds -/
namespace M
open PySem (Addr Obj Value Str Expr Stmt FuncData bindArgs seqItems?)
theorem lookup_app {α β : Type} [BEq α] (x : α) (l r : List (α × β)) : (l ++ r).lookup x = (l.lookup x).or (r.lookup x) := List.lookup_append
theorem forIn_kw {β : Type} {body : (Str × Value) → β → PySem.Sem (ForInStep β)} {st : List (Str × Value) → β} {normal : List Str} (hb : ∀ kv slots, kv.1 ∈ normal → slots.lookup kv.1 = none → body kv (st slots) = pure (.yield (st (slots ++ [kv])))) :
    ∀ (l slots : List (Str × Value)), (∀ kv ∈ l, kv.1 ∈ normal) → (∀ kv ∈ l, slots.lookup kv.1 = none) → (l.map (·.1)).Nodup → forIn l (st slots) body = pure (st (slots ++ l))
  | [], slots, _, _, _ => by rw [List.forIn_nil, List.append_nil]
  | kv :: l, slots, h1, h2, h3 => by
    rw [List.forIn_cons, hb kv slots (h1 kv List.mem_cons_self) (h2 kv List.mem_cons_self), pure_bind]
    rw [List.map_cons, List.nodup_cons] at h3
    refine (forIn_kw hb l (slots ++ [kv]) (fun q hq => h1 q (List.mem_cons_of_mem _ hq)) (fun q hq => ?_) h3.2).trans (by rw [List.append_assoc]; rfl)
    rw [lookup_app, h2 q (List.mem_cons_of_mem _ hq)]
    have : q.1 ≠ kv.1 := fun e => h3.1 (by rw [← e]; exact List.mem_map_of_mem hq)
    simp [List.lookup_cons, this]
theorem forIn_dfl {body : (Str × Value) → List (Str × Value) → PySem.Sem (ForInStep (List (Str × Value)))} (hb : ∀ kv slots, body kv slots = pure (.yield (if (slots.lookup kv.1).isNone = true then slots ++ [kv] else slots))) :
    ∀ (l slots : List (Str × Value)), ∃ r, forIn l slots body = pure r ∧ ∀ x, r.lookup x = (slots.lookup x).or (l.lookup x)
  | [], slots => ⟨slots, by rw [List.forIn_nil], fun x => by simp⟩
  | kv :: l, slots => by
    obtain ⟨r, h1, h2⟩ := forIn_dfl hb l (if (slots.lookup kv.1).isNone = true then slots ++ [kv] else slots)
    refine ⟨r, by rw [List.forIn_cons, hb, pure_bind]; exact h1, fun x => ?_⟩
    rw [h2 x, List.lookup_cons]
    by_cases hs : (slots.lookup kv.1).isNone = true
    · rw [if_pos hs, lookup_app, Option.or_assoc]
      congr 1
      rw [List.lookup_cons]
      by_cases hx : (x == kv.1) = true
      · rw [hx]; rfl
      · have hx : (x == kv.1) = false := by simpa using hx
        rw [hx]; rfl
    · rw [if_neg hs]
      by_cases hx : (x == kv.1) = true
      · rw [hx]
        have e : x = kv.1 := eq_of_beq hx
        rw [e]
        cases hq : slots.lookup kv.1 with
        | none => rw [hq] at hs; exact absurd rfl hs
        | some v => rfl
      · have hx : (x == kv.1) = false := by simpa using hx
        rw [hx]
theorem fm_congr {α β : Type} {f g : α → Option β} : ∀ {l : List α}, (∀ x ∈ l, f x = g x) → l.filterMap f = l.filterMap g
  | [], _ => rfl
  | x :: l, h => by
    rw [List.filterMap_cons, List.filterMap_cons, h x List.mem_cons_self, fm_congr fun y hy => h y (List.mem_cons_of_mem _ hy)]
theorem zip_lookup {ps : List Str} (nd : ps.Nodup) : ∀ {us : List Value}, us.length = ps.length → ps.filterMap (fun n => ((ps.zip us).lookup n).map fun v => (n, v)) = ps.zip us := by
  induction ps with
  | nil => intro us h; rfl
  | cons p ps ih =>
    intro us h
    cases us with
    | nil => simp at h
    | cons u us =>
      rw [List.nodup_cons] at nd
      rw [List.zip_cons_cons, List.filterMap_cons, List.lookup_cons, beq_self_eq_true]
      show (p, u) :: _ = _
      congr 1
      refine (fm_congr fun n hn => ?_).trans (ih nd.2 (by simpa using h))
      have hne : (n == p) = false := by
        rw [beq_eq_false_iff_ne]
        rintro rfl
        exact nd.1 hn
      rw [List.lookup_cons, hne]
theorem zip_none {ps : List Str} {us : List Value} {x : Str} (h : x ∉ ps.take us.length) : (ps.zip us).lookup x = none := by
  induction ps generalizing us with
  | nil => simp
  | cons p ps ih =>
    cases us with
    | nil => simp
    | cons u us =>
      rw [List.length_cons, List.take_succ_cons, List.mem_cons, not_or] at h
      rw [List.zip_cons_cons, List.lookup_cons]
      have : (x == p) = false := beq_eq_false_iff_ne.mpr h.1
      rw [this]
      exact ih h.2
theorem zip_at {ps : List Str} (nd : ps.Nodup) : ∀ {us : List Value} {i : Nat} {x : Str} {u : Value}, ps[i]? = some x → us[i]? = some u → (ps.zip us).lookup x = some u := by
  induction ps with
  | nil => intro us i x u h; simp at h
  | cons p ps ih =>
    intro us i x u h1 h2
    rw [List.nodup_cons] at nd
    cases us with
    | nil => simp at h2
    | cons v us =>
      rw [List.zip_cons_cons, List.lookup_cons]
      cases i with
      | zero => simp at h1 h2; subst h1 h2; rw [beq_self_eq_true]
      | succ i =>
        have hne : (x == p) = false := by
          rw [beq_eq_false_iff_ne]
          rintro rfl
          exact nd.1 (List.mem_of_getElem? (by simpa using h1))
        rw [hne]
        exact ih nd.2 (by simpa using h1) (by simpa using h2)
theorem nodup_at {α : Type} : ∀ {l : List α} {i k : Nat} {x : α}, l.Nodup → l[i]? = some x → l[k]? = some x → i = k
  | [], i, k, x, _, h, _ => by simp at h
  | y :: l, 0, 0, x, _, _, _ => rfl
  | y :: l, 0, k + 1, x, nd, h1, h2 => by
    simp at h1 h2
    subst h1
    exact absurd (List.mem_of_getElem? h2) (List.nodup_cons.mp nd).1
  | y :: l, i + 1, 0, x, nd, h1, h2 => by
    simp at h1 h2
    subst h2
    exact absurd (List.mem_of_getElem? h1) (List.nodup_cons.mp nd).1
  | y :: l, i + 1, k + 1, x, nd, h1, h2 => by
    exact congrArg (· + 1) (nodup_at (List.nodup_cons.mp nd).2 (by simpa using h1) (by simpa using h2))
theorem take_not {ps : List Str} (nd : ps.Nodup) {i n : Nat} {x : Str} (h : ps[i]? = some x) (hn : n ≤ i) : x ∉ ps.take n := fun hm => by
  obtain ⟨k, hk⟩ := List.mem_iff_getElem?.mp hm
  rw [List.getElem?_take] at hk
  split at hk
  · rename_i hlt
    have := nodup_at nd hk h
    omega
  · cases hk
theorem bind_gen {fd : FuncData} {ps : List Str} (h0 : fd.params.posonlyargs = []) (h1 : fd.params.args.map (·.arg) = ps) (h2 : fd.params.kwonlyargs = []) (h3 : fd.params.vararg = none) (h4 : fd.params.kwarg = none) (nd : ps.Nodup) {us ws : List Value} {ks : List Str} (hk : (ps.drop us.length).take ks.length = ks) (hw : ws.length = ks.length) (hn : us.length + ks.length ≤ ps.length) :
    ∃ k, bindArgs fd ⟨us, ks.zip ws⟩ = seqItems? fd.defaults >>= k ∧ (∀ its : List Value, ps.length - (us.length + ks.length) ≤ its.length → its.length ≤ ps.length → k (some its.toArray) = pure (ps.zip (us ++ ws ++ its.drop (its.length - (ps.length - (us.length + ks.length)))))) ∧ (us.length + ks.length = ps.length → k none = pure (ps.zip (us ++ ws))) := by
  have hz : (ks.zip ws).map (·.1) = ks := List.map_fst_zip (by omega)
  have hsub : ∀ x ∈ ks, x ∈ ps.drop us.length := fun x hx => List.mem_of_mem_take (by rw [hk]; exact hx)
  have nk : ks.Nodup := by rw [← hk]; exact ((nd.sublist (List.drop_sublist _ _)).sublist (List.take_sublist _ _))
  have hmem : ∀ kv ∈ ks.zip ws, kv.1 ∈ ks := fun kv h => by rw [← hz]; exact List.mem_map_of_mem h
  have hno : ∀ x ∈ ks, (ps.zip us).lookup x = none := fun x hx => zip_none fun h => by
    have := List.nodup_append.mp (by rw [List.take_append_drop]; exact nd : (ps.take us.length ++ ps.drop us.length).Nodup)
    exact this.2.2 x h x (hsub x hx) rfl
  unfold bindArgs
  simp only [h0, h1, h2, h3, h4, List.map_nil, List.nil_append, List.append_nil]
  rw [forIn_kw (st := fun sl => (sl, ([] : List (Str × Value)))) (normal := ps) ?hb (ks.zip ws) (ps.zip us) (fun kv h => List.mem_of_mem_drop (hsub _ (hmem kv h))) (fun kv h => hno _ (hmem kv h)) (by rw [hz]; exact nk)]
  case hb =>
    intro kv slots hm hl
    have c : (ps.contains kv.1 || List.contains [] kv.1) = true := by rw [List.contains_iff_mem.mpr hm]; rfl
    rw [if_pos c, hl]
    rfl
  rw [pure_bind]
  -- what stands at each place
  have at1 : ∀ i x, ps[i]? = some x → i < us.length → ((ps.zip us ++ ks.zip ws).lookup x) = us[i]? := fun i x h hi => by
    rw [lookup_app, zip_at nd h (List.getElem?_eq_getElem hi), List.getElem?_eq_getElem hi]
    rfl
  have ka : ∀ i x, ps[i]? = some x → us.length ≤ i → i < us.length + ks.length → ks[i - us.length]? = some x := fun i x h h1 h2 => by
    rw [← hk, List.getElem?_take, if_pos (by omega), List.getElem?_drop, show us.length + (i - us.length) = i by omega]
    exact h
  have at2 : ∀ i x, ps[i]? = some x → us.length ≤ i → i < us.length + ks.length → ((ps.zip us ++ ks.zip ws).lookup x) = ws[i - us.length]? := fun i x h h1 h2 => by
    have hw' : i - us.length < ws.length := by omega
    rw [lookup_app, zip_none (take_not nd h h1), zip_at nk (ka i x h h1 h2) (List.getElem?_eq_getElem hw'), List.getElem?_eq_getElem hw']
    rfl
  have at3 : ∀ i x, ps[i]? = some x → us.length + ks.length ≤ i → ((ps.zip us ++ ks.zip ws).lookup x) = none := fun i x h h1 => by
    rw [lookup_app, zip_none (take_not nd h (by omega))]
    have hx : x ∉ ks.take ws.length := fun hm => by
      have hm := List.mem_of_mem_take hm
      obtain ⟨q, hq⟩ := List.mem_iff_getElem?.mp hm
      have hq' := (List.getElem?_eq_some_iff.mp hq).1
      have h2 : ps[us.length + q]? = some x := by
        rw [← hk, List.getElem?_take, if_pos hq', List.getElem?_drop] at hq
        exact hq
      exact take_not nd h (n := us.length + q + 1) (by omega) (List.mem_iff_getElem?.mpr ⟨us.length + q, by rw [List.getElem?_take, if_pos (by omega)]; exact h2⟩)
    rw [zip_none hx]
    rfl
  have miss : ∀ L, L ≤ us.length + ks.length → ((ps.take L).filter fun n => ((ps.zip us ++ ks.zip ws).lookup n).isNone) = [] := fun L hL => by
    rw [List.filter_eq_nil_iff]
    intro x hx
    obtain ⟨i, hi⟩ := List.mem_iff_getElem?.mp hx
    rw [List.getElem?_take] at hi
    split at hi
    · rename_i hlt
      by_cases h : i < us.length
      · rw [at1 i x hi h, List.getElem?_eq_getElem h]; simp
      · have hw' : i - us.length < ws.length := by omega
        rw [at2 i x hi (by omega) (by omega), List.getElem?_eq_getElem hw']; simp
    · cases hi
  have fin : ∀ (vs : List Value) (r : List (Str × Value)), us.length + ks.length + vs.length = ps.length → (∀ i x, ps[i]? = some x → r.lookup x = ((ps.zip us ++ ks.zip ws).lookup x).or (if us.length + ks.length ≤ i then vs[i - (us.length + ks.length)]? else none)) →
      List.filterMap (fun n => Option.map (fun x => (n, x)) (List.lookup n r)) ps = ps.zip (us ++ ws ++ vs) := fun vs r hl hr => by
    have hlen : (us ++ ws ++ vs).length = ps.length := by simp; omega
    refine (fm_congr fun n hn => ?_).trans (zip_lookup nd hlen)
    obtain ⟨i, hi⟩ := List.mem_iff_getElem?.mp hn
    have hip := (List.getElem?_eq_some_iff.mp hi).1
    congr 1
    rw [hr i n hi, zip_at nd hi (List.getElem?_eq_getElem (by omega))]
    rw [← List.getElem?_eq_getElem]
    by_cases h : i < us.length
    · rw [at1 i n hi h, List.append_assoc, List.getElem?_append_left h, List.getElem?_eq_getElem h]
      rfl
    · by_cases h2 : i < us.length + ks.length
      · have hw' : i - us.length < ws.length := by omega
        rw [at2 i n hi (by omega) h2, List.append_assoc, List.getElem?_append_right (by omega), List.getElem?_append_left hw', List.getElem?_eq_getElem hw']
        rfl
      · rw [at3 i n hi (by omega), if_pos (by omega), List.getElem?_append_right (by simp; omega)]
        simp [hw]
  refine ⟨_, rfl, fun its l1 l2 => ?_, fun l1 => ?_⟩
  · rw [if_neg (by simp; omega)]
    simp only [Option.getD_some]
    have e0 : its.length - ps.length = 0 := by omega
    rw [e0, List.drop_zero, miss _ (by omega), if_neg (by simp)]
    obtain ⟨r, hr1, hr2⟩ := forIn_dfl (body := fun x __s => if (List.lookup x.fst __s).isNone = true then pure (ForInStep.yield (__s ++ [(x.fst, x.snd)])) else pure (ForInStep.yield __s)) (fun kv slots => by
      split
      · rfl
      · rfl) ((List.drop (ps.length - its.length) ps).zip its) (ps.zip us ++ ks.zip ws)
    rw [hr1, pure_bind, List.forIn_nil, pure_bind, if_neg (by simp)]
    congr 1
    refine fin _ r (by rw [List.length_drop]; omega) fun i x hi => ?_
    rw [hr2 x]
    have hip := (List.getElem?_eq_some_iff.mp hi).1
    by_cases h : us.length + ks.length ≤ i
    · rw [at3 i x hi h, if_pos h]
      have hi2 : i - (ps.length - its.length) < its.length := by omega
      rw [zip_at (nd.sublist (List.drop_sublist _ _)) (i := i - (ps.length - its.length)) (u := its[i - (ps.length - its.length)]) (by rw [List.getElem?_drop, show ps.length - its.length + (i - (ps.length - its.length)) = i by omega]; exact hi) (List.getElem?_eq_getElem hi2)]
      rw [List.getElem?_drop, ← List.getElem?_eq_getElem]
      congr 1
      congr 1
      omega
    · rw [if_neg h]
      have : ∃ v, (ps.zip us ++ ks.zip ws).lookup x = some v := by
        by_cases h1 : i < us.length
        · exact ⟨us[i], by rw [at1 i x hi h1, List.getElem?_eq_getElem h1]⟩
        · have hw' : i - us.length < ws.length := by omega
          exact ⟨ws[i - us.length], by rw [at2 i x hi (by omega) (by omega), List.getElem?_eq_getElem hw']⟩
      obtain ⟨v, hv⟩ := this
      rw [hv]; rfl
  · rw [if_neg (by simp; omega)]
    simp only [Option.getD_none, List.drop_nil, List.length_nil, Nat.sub_zero, List.zip_nil_right, List.forIn_nil, pure_bind]
    rw [miss _ (by omega), if_neg (by simp), if_neg (by simp)]
    congr 1
    have := fin [] (ps.zip us ++ ks.zip ws) (by simp; omega) fun i x hi => by
      have hip := (List.getElem?_eq_some_iff.mp hi).1
      rw [if_neg (by omega)]
      cases (ps.zip us ++ ks.zip ws).lookup x <;> rfl
    rw [List.append_nil] at this
    exact this
/-- parameters of the plain kind -/
def okA (a : PySem.Arguments) (ps : List Str) : Bool := a.posonlyargs.isEmpty && decide (a.args.map (·.arg) = ps) && a.kwonlyargs.isEmpty && a.vararg.isNone && a.kwarg.isNone
theorem bindG_of {K : PySem.W.Frag} {r : Row} {qual : Str} {dvs : List LV} {f : Addr} {fd : FuncData} (FD : L2.FunD K r.x qual r.args r.body r.scope dvs [] f fd) (ha : okA r.args r.fi.ps = true) (nd : r.fi.ps.Nodup) (hd : ∀ ρ H, RVs K ρ H r.fi.dfl dvs) (hl : r.fi.dfl.length ≤ r.fi.ps.length) : BindG K fd r.fi := by
  intro n ks dv hs
  obtain ⟨oc, od, dV, kV, doc, pm, an, cdv, ct, osl, rfl, lk, hcd, hD, hK⟩ := FD.ex
  unfold okA at ha
  simp only [Bool.and_eq_true, decide_eq_true_eq, List.isEmpty_iff, Option.isNone_iff_eq_none] at ha
  obtain ⟨⟨⟨⟨a1, a2⟩, a3⟩, a4⟩, a5⟩ := ha
  have hlen := shape_len hs
  have hdv : dv = r.fi.dfl.drop (r.fi.dfl.length - (r.fi.ps.length - (n + ks.length))) ∧ r.fi.ps.length - (n + ks.length) ≤ r.fi.dfl.length := by
    unfold shape at hs
    split at hs
    · rename_i c
      cases hs
      exact ⟨rfl, c.2.2⟩
    · cases hs
  have hdl : ∀ H, r.fi.dfl.length = dvs.length := fun H => (hd [] H).length
  have hdl := hdl (fun _ => none)
  rcases hD with ⟨rfl, rfl⟩ | ⟨hne, T, o, its, m, rfl, lT, oT, rT⟩
  · have h0 : r.fi.dfl = [] := List.length_eq_zero_iff.mp hdl
    rw [h0] at hdv
    have hdv0 : dv = [] := by rw [hdv.1]; simp
    subst hdv0
    refine ⟨[], [], .nil, fun _ _ => .nil, fun s us ws X l1 l2 => ?_⟩
    subst l1
    obtain ⟨k, e1, _, e3⟩ := bind_gen (fd := PySem.W.fnOf r.x qual r.args r.body r.scope .none kV doc pm an cdv ct) a1 a2 a3 a4 a5 nd (us := us) (ws := ws) hlen.2 l2 (by have := hlen.1; simp at this; omega)
    refine PySem.BindsTo.of_eq ?_
    rw [e1, List.append_nil]
    show (PySem.seqItems? .none >>= k) = _
    rw [show PySem.seqItems? .none = pure none from rfl, pure_bind]
    exact e3 (by have := hlen.1; simpa using this)
  · have h1 : its.length = dvs.length := rT.length.symm
    refine ⟨dvs.drop (r.fi.dfl.length - (r.fi.ps.length - (n + ks.length))), its.drop (its.length - (r.fi.ps.length - (n + ks.length))), by rw [h1, ← hdl]; exact rT.drop _, fun ρ H => by rw [hdv.1]; exact (hd ρ H).drop _, fun s us ws X l1 l2 => ?_⟩
    subst l1
    obtain ⟨k, e1, e2, _⟩ := bind_gen (fd := PySem.W.fnOf r.x qual r.args r.body r.scope (.ref T) kV doc pm an cdv ct) a1 a2 a3 a4 a5 nd (us := us) (ws := ws) hlen.2 l2 (by have := hlen.1; omega)
    refine L2.BindsTo.of_looks fun M => ?_
    rw [e1]
    exact L2.looks_items X lT oT (.of_pure (e2 its (by omega) (by omega)))
end M

end
section
set_option Elab.async false
set_option linter.all false
set_option autoImplicit false
set_option maxRecDepth 100000
set_option maxHeartbeats 4000000
/-! a law's end -/
namespace M
open PySem (Addr Obj Value Str Expr Stmt FuncData mainGlobals)
/-! ### constants -/
mutual
def cstB (K : PySem.W.Frag) : Nat → Value → D → Bool
  | 0, _, _ => false
  | n + 1, v, d => match v, d with
    | .none, .non => true
    | .bool b, .bl c => b == c
    | .int i _, .int j => decide (i = j)
    | .str s _, .str cs => decide (s.cps.toList = cs) && sOK cs
    | .ref a, .tup ds => match K.lookup a with
      | some o => match o.cls, o.data with
        | .type c, .seq its _ => decide (c = "tuple") && decide (its.size ≤ PySem.sizeLine) && cstAll K n its.toList ds
        | _, _ => false
      | none => false
    | _, _ => false
def cstAll (K : PySem.W.Frag) : Nat → List Value → List D → Bool
  | 0, _, _ => false
  | n + 1, vs, ds => match vs, ds with
    | [], [] => true
    | v :: vs, d :: ds => cstB K n v d && cstAll K n vs ds
    | _, _ => false
end
theorem cst_ok {K : PySem.W.Frag} : ∀ n : Nat, (∀ v d, cstB K n v d = true → ∃ x : LV, L2.RelV x v ∧ ∀ ρ H, RV K ρ H d x) ∧ ∀ vs ds, cstAll K n vs ds = true → ∃ xs : List LV, L2.Vals xs vs ∧ ∀ ρ H, RVs K ρ H ds xs
  | 0 => ⟨fun _ _ h => by simp [cstB] at h, fun _ _ h => by simp [cstAll] at h⟩
  | n + 1 => by
    have ih := cst_ok (K := K) n
    refine ⟨fun v d h => ?_, fun vs ds h => ?_⟩
    · unfold cstB at h
      split at h
      · exact ⟨.non, rfl, fun _ _ => .non⟩
      · rename_i b c
        have e : b = c := eq_of_beq h
        subst e
        exact ⟨.bl b, rfl, fun _ _ => .bl b⟩
      · have e := of_decide_eq_true h
        subst e
        exact ⟨.int _, ⟨_, rfl⟩, fun _ _ => .int _⟩
      · rename_i s t cs
        rw [Bool.and_eq_true, decide_eq_true_eq] at h
        obtain ⟨e, hs⟩ := h
        subst e
        refine ⟨.str s, ⟨_, rfl⟩, fun _ _ => ?_⟩
        exact RV.str (s.cps.toList) hs
      · rename_i a ds
        split at h
        · rename_i o ho
          split at h
          · rename_i c its m hc hd
            simp only [Bool.and_eq_true, decide_eq_true_eq] at h
            obtain ⟨⟨h1, h2⟩, h3⟩ := h
            obtain ⟨xs, r1, r2⟩ := ih.2 _ _ h3
            subst h1
            exact ⟨.ref a, rfl, fun ρ H => .tup (.inr ⟨o, its, m, ho, hc, hd, h2, r1⟩) (r2 ρ H)⟩
          · cases h
        · cases h
      · cases h
    · unfold cstAll at h
      split at h
      · exact ⟨[], .nil, fun _ _ => .nil⟩
      · rw [Bool.and_eq_true] at h
        obtain ⟨x, r1, r2⟩ := ih.1 _ _ h.1
        obtain ⟨xs, q1, q2⟩ := ih.2 _ _ h.2
        exact ⟨x :: xs, .cons r1 q1, fun ρ H => .cons (r2 ρ H) (q2 ρ H)⟩
      · cases h
/-! ### the head's facts -/
def cstOk (K : PySem.W.Frag) (c : Str × D) : Bool := match PySem.W.nsIn K mainGlobals c.1 with
  | some (some v) => cstB K 60 v c.2
  | _ => false
def obsM (fa : List He.Fa) (cs : List (Str × D)) (fn : List He.DefD) (K : PySem.W.Frag) : He.AlD := ((He.obsD fa fn K).1 && cs.all (cstOk K), (He.obsD fa fn K).2)
def SaysM (fa : List He.Fa) (cs : List (Str × D)) (fn : List He.DefD) (K : PySem.W.Frag) : Prop := obsM fa cs fn K = He.valD fn
def obsMG (n : Nat) (fa : List He.Fa) (cs : List (Str × D)) (fn : List He.DefD) (g : Addr → Option Obj) : He.AlD := obsM fa cs fn (He.frG g (He.asD g n))
def hookM (n : Nat) (fa : List He.Fa) (cs : List (Str × D)) (fn : List He.DefD) : PySem.W.Hook where
  α := He.AlD
  obs := fun s => obsMG n fa cs fn s.heap.get?
  val := fun _ => He.valD fn
  says := fun _ h => ∃ K : PySem.W.Frag, K.In h ∧ SaysM fa cs fn K
  of := fun _ _ e => ⟨_, He.frG_in, e⟩
  keeps := fun _ _ _ ⟨K, hK, c⟩ k => ⟨K, PySem.W.Frag.In.keeps hK k, c⟩
theorem obsMG_eq {n : Nat} {fa : List He.Fa} {cs : List (Str × D)} {fn : List He.DefD} {g : Addr → Option Obj} {s : PySem.Shared} (h : ∀ a, g a = s.heap.get? a) : obsMG n fa cs fn g = (hookM n fa cs fn).obs s := by
  have e : g = s.heap.get? := funext h
  rw [e] <;> rfl
theorem SaysM.says {fa : List He.Fa} {cs : List (Str × D)} {fn : List He.DefD} {K : PySem.W.Frag} (c : SaysM fa cs fn K) : He.SaysD fa fn K ∧ ∀ q ∈ cs, cstOk K q = true := by
  have h1 : ((He.obsD fa fn K).1 && cs.all (cstOk K)) = true := congrArg (fun z : He.AlD => z.1) c
  have h0 : obsM fa cs fn K = He.valD fn := c
  have h2 : (He.obsD fa fn K).2 = (He.valD fn).2 := by
    have h3 : (obsM fa cs fn K).2 = (He.valD fn).2 := congrArg Prod.snd h0
    exact h3
  rw [Bool.and_eq_true] at h1
  exact ⟨Prod.ext h1.1 h2, List.all_eq_true.mp h1.2⟩
/-! ### the table of a text -/
def dflOf : List Expr → Option (List D)
  | [] => some []
  | .Constant c _ _ :: r => match litOf c, dflOf r with
    | some d, some ds => some (d :: ds)
    | _, _ => none
  | _ :: _ => none
def noRow : Row := ⟨S "", ⟨0, [], []⟩, ⟨[], [], none, [], [], none, []⟩, [], ⟨.function, [], false, false, []⟩, []⟩
def rowOf (ids : List (Str × Nat × List Str)) : Stmt → Option Row
  | .FunctionDef x args body _ _ _ scope _ _ _ => match ids.lookup x, dflOf args.defaults with
    | some (id, N), some dfl => some ⟨x, ⟨id, args.args.map (·.arg), dfl⟩, args, body, scope, N⟩
    | _, _ => none
  | _ => none
def tabOf (ids : List (Str × Nat × List Str)) (body : List Stmt) : List Row := body.filterMap (rowOf ids)
def gmOf (tab : List Row) (cs : List (Str × D)) : Gm := ⟨tab.map fun r => (r.x, r.fi), cs⟩
def dvOf : D → He.Dv
  | .bl b => .bl b
  | .int i => .int i
  | .str s => .str ⟨s.toArray⟩
  | _ => .non
def leafD : D → Bool
  | .non => true
  | .bl _ => true
  | .int _ => true
  | .str s => sOK s
  | _ => false
def defD (r : Row) : He.DefD := ⟨(r.x, none), r.x, r.x, r.args, r.body, r.scope, r.fi.dfl.map dvOf, []⟩
def fnOfTab (tab : List Row) : List He.DefD := tab.map defD
def faOf (tab : List Row) : List He.Fa := tab.map (fun r => He.Fa.glo r.x) ++ freeNames.map fun x => He.Fa.free (S x)
/-- each row can be bound -/
def rowB (r : Row) : Bool := okA r.args r.fi.ps && (decide r.fi.ps.Nodup && (r.fi.dfl.all leafD && decide (r.fi.dfl.length ≤ r.fi.ps.length)))
theorem leaf_ok {K : PySem.W.Frag} : ∀ {ds : List D}, ds.all leafD = true → ∀ ρ H, RVs K ρ H ds ((ds.map dvOf).map (He.Dv.v K))
  | [], _, _, _ => .nil
  | d :: ds, h, ρ, H => by
    rw [List.all_cons, Bool.and_eq_true] at h
    refine .cons ?_ (leaf_ok h.2 ρ H)
    have h1 := h.1
    cases d <;> first | exact .non | exact .bl _ | exact .int _ | exact .str _ h1 | exact Bool.noConfusion h1
theorem facts_of {K : PySem.W.Frag} {h : PySem.Heap} {mg : Str → Option Value} {tab : List Row} {cs : List (Str × D)} (X : K.In h) (G : h.Ns mainGlobals mg) (c : SaysM (faOf tab) cs (fnOfTab tab) K) (hb : tab.all rowB = true) : Facts (gmOf tab cs) tab K mg := by
  obtain ⟨c1, c2⟩ := c.says
  refine ⟨fun x fi hx => ?_, fun x d hx => ?_, fun x hx => ?_⟩
  · have hm : (x, fi) ∈ tab.map fun r => (r.x, r.fi) := PySem.mem_of_lookup hx
    obtain ⟨r, hr, e⟩ := List.mem_map.mp hm
    cases e
    obtain ⟨fd, FD⟩ := c1.defs (d := defD r) (List.mem_map_of_mem hr)
    have hB := List.all_eq_true.mp hb r hr
    unfold rowB at hB
    simp only [Bool.and_eq_true, decide_eq_true_eq] at hB
    refine ⟨r, hr, rfl, r.x, _, _, fd, He.glo_ok X G (c1.facts (List.mem_append_left _ (List.mem_map_of_mem hr))), FD, ?_⟩
    exact bindG_of FD hB.1 hB.2.1 (leaf_ok hB.2.2.1) hB.2.2.2
  · have hm : (x, d) ∈ cs := PySem.mem_of_lookup hx
    have := c2 _ hm
    unfold cstOk at this
    split at this
    · rename_i v hv
      obtain ⟨y, r1, r2⟩ := (cst_ok 60).1 v d this
      exact ⟨v, y, PySem.W.mg_of X G hv, r1, r2⟩
    · cases this
  · exact He.free_ok X G (c1.facts (List.mem_append_right _ (List.mem_map_of_mem hx)))
/-- the promise of the law, by mini's -/
theorem law_ok {P : PySem.Program} {w : PySem.World} {K : PySem.W.Frag} {F : FnS} {id : Nat} (hL : ∀ (c : Cell) (ns : List Int), (c = .lst (ns.map D.int) ∨ c = .ro (ns.map D.int)) → ns.length ≤ 63 → F id [.ref 0] [c] (fun d _ => d = .bl true) EN) (hF : FMono F) (H : LHp) (a : Addr) (ns : List Int) (hl : ns.length ≤ 63) (hS : L2.SqL K H a (ns.map L2.V.int)) :
    spF P w K F id [.ref a] H (fun v _ => v = .bl true) E0 := by
  have rv : ∀ ρ H, RVs K ρ H (ns.map D.int) (ns.map L2.V.int) := fun ρ H => ints_rv ns
  have go : ∀ c, (c = .lst (ns.map D.int) ∨ c = .ro (ns.map D.int)) → CellOk P w K [a] H a c → spF P w K F id [.ref a] H (fun v _ => v = .bl true) E0 := fun c hc ok => by
    refine ⟨[a], [c], [.ref 0], ⟨rfl, fun i b c' h1 h2 => ?_, fun i j b c1 c2 h1 h2 h3 h4 _ _ => ?_⟩, .cons (.ref rfl) .nil, hF _ _ _ _ _ _ (hL c ns hc hl) fun d h' e ρ' H' v p t hr rv => ?_⟩
    · cases i with
      | zero => simp at h1 h2; subst h1 h2; exact ok
      | succ i => simp at h1
    · cases i <;> cases j <;> simp at h1 h2 <;> rfl
    · subst e
      cases rv
      rfl
  rcases hS with (hS | ⟨o, hS⟩) | hS
  · exact go _ (.inl rfl) ⟨_, hS, rv _ _⟩
  · exact go _ (.inr rfl) ⟨_, .inl ⟨o, hS⟩, rv _ _⟩
  · exact go _ (.inr rfl) ⟨_, .inr hS, rv _ _⟩
where
  ints_rv {K : PySem.W.Frag} {ρ : List Addr} {H : LHp} : ∀ ns : List Int, RVs K ρ H (ns.map D.int) (ns.map L2.V.int)
  | [] => .nil
  | n :: ns => .cons (.int n) (ints_rv ns)
/-- mini's program of a table -/
def progOf (tab : List Row) (G : Gm) : Prog := tab.filterMap fun r => (r.def_ G).map fun d => (r.fi.id, d)
theorem prog_ok {tab : List Row} {G : Gm} (h : (tab.all fun r => (r.def_ G).isSome) = true) (nd : (tab.map fun r => r.fi.id).Nodup) : ∀ r ∈ tab, ∃ d, r.def_ G = some d ∧ (progOf tab G).lookup r.fi.id = some d := by
  induction tab with
  | nil => intro r hr; cases hr
  | cons a tab ih =>
    intro r hr
    rw [List.all_cons, Bool.and_eq_true] at h
    rw [List.map_cons, List.nodup_cons] at nd
    obtain ⟨d, hd⟩ := Option.isSome_iff_exists.mp h.1
    have e : progOf (a :: tab) G = (a.fi.id, d) :: progOf tab G := by
      unfold progOf
      rw [List.filterMap_cons, hd]
      rfl
    rcases List.mem_cons.mp hr with rfl | hr
    · exact ⟨d, hd, by rw [e, List.lookup_cons, beq_self_eq_true]⟩
    · obtain ⟨d', h1, h2⟩ := ih h.2 nd.2 r hr
      have hne : (r.fi.id == a.fi.id) = false := by
        rw [beq_eq_false_iff_ne]
        intro z
        exact nd.1 (by rw [← z]; exact List.mem_map_of_mem hr)
      exact ⟨d', h1, by rw [e, List.lookup_cons, hne]; exact h2⟩
/-- the law's end: its row, its number -/
theorem law_end {P : PySem.Program} {w : PySem.World} {h : PySem.Heap} {mg : Str → Option Value} {fa : Addr} {K : PySem.W.Frag} {tab : List Row} {cs : List (Str × D)} {Pm : Prog} {r : Row} {id i : Nat} (n : Nat) (KX : K.In h) (G : h.Ns mainGlobals mg) (hmg : mg (S "law") = some (.ref fa)) (c : SaysM (faOf tab) cs (fnOfTab tab) K) (hb : tab.all rowB = true)
    (hP : ∀ r ∈ tab, ∃ d, r.def_ (gmOf tab cs) = some d ∧ Pm.lookup r.fi.id = some d) (hri : tab[i]? = some r) (hid : r.fi.id = id) (hx : r.x = S "law") (hps : r.fi.ps = [S "script"]) (hd : r.fi.dfl = []) (hL : ∀ (c : Cell) (ns : List Int), (c = .lst (ns.map D.int) ∨ c = .ro (ns.map D.int)) → ns.length ≤ 63 → FW Pm n id [.ref 0] [c] (fun d _ => d = .bl true) EN) :
    ∃ (K : PySem.W.Frag) (fd : FuncData) (sp : L2.Sp), K.In h ∧ (∀ (s : PySem.Shared) (u : Value), PySem.BindsTo s fd ⟨[u], []⟩ [(S "script", u)]) ∧
        (∀ (H : LHp) (a : Addr) (ns : List Int), ns.length ≤ 63 → L2.Only H → L2.SqL K H a (ns.map L2.V.int) → sp [.ref a] H (fun v _ => v = .bl true) fun _ _ _ => False) ∧
        ∀ base : PySem.Heap, K.In base → base.Ns mainGlobals mg → L2.FnOk P w K mg base CXN n fa fd [S "script"] sp := by
  subst hid
  have hr := List.mem_of_getElem? hri
  have Fc := facts_of (tab := tab) KX G c hb
  obtain ⟨c1, c2⟩ := c.says
  obtain ⟨fd, FD⟩ := c1.defs (d := defD r) (List.mem_map_of_mem hr)
  have hg := He.glo_ok KX G (c1.facts (f := .glo r.x) (List.mem_append_left _ (List.mem_map_of_mem hr)))
  rw [hx, hmg] at hg
  have hfa : fa = He.ga K r.x := by
    rw [hx]
    exact Value.ref.inj (Option.some.inj hg)
  have hB := List.all_eq_true.mp hb r hr
  unfold rowB at hB
  simp only [Bool.and_eq_true, decide_eq_true_eq] at hB
  have FD' : L2.FunD K r.x r.x r.args r.body r.scope ((r.fi.dfl.map dvOf).map (He.Dv.v K)) [] fa fd := by rw [hfa]; exact FD
  have B := bindG_of FD' hB.1 hB.2.1 (leaf_ok hB.2.2.1) hB.2.2.2
  refine ⟨K, fd, spF P w K (FW Pm n) r.fi.id, KX, ?_, fun H a ns hl _ hS => law_ok hL (FW_mono Pm n) H a ns hl hS, fun base _ _ => by rw [← hps]; exact ok_all Fc hP n r hr _ _ _ _ FD'⟩
  have FD0 : L2.FunD K r.x r.x r.args r.body r.scope [] [] fa fd := by rw [hd] at FD'; exact FD'
  intro s u
  have a := hB.1
  unfold okA at a
  simp only [Bool.and_eq_true, decide_eq_true_eq, List.isEmpty_iff, Option.isNone_iff_eq_none] at a
  obtain ⟨⟨⟨⟨a1, a2⟩, a3⟩, a4⟩, a5⟩ := a
  refine L2.FunD.bindsA (ps := [S "script"]) FD0 (fun kV doc pm an cdv ct us hl => ?_) s [u] rfl
  obtain ⟨k, e1, _, e3⟩ := bind_gen (fd := PySem.W.fnOf r.x r.x r.args r.body r.scope .none kV doc pm an cdv ct) (ps := [S "script"]) a1 (by rw [← hps]; exact a2) a3 a4 a5 (by simp) (us := us) (ws := []) (ks := []) (by simp) rfl (by simp at hl; simp [hl])
  have e0 : PySem.bindArgs (PySem.W.fnOf r.x r.x r.args r.body r.scope .none kV doc pm an cdv ct) ⟨us, []⟩ = PySem.seqItems? .none >>= k := e1
  rw [e0, show PySem.seqItems? .none = pure none from rfl, pure_bind, e3 (by simpa using hl), List.append_nil]
end M

end
section
set_option Elab.async false
set_option linter.all false
set_option autoImplicit false
/-! tools for laws about mini's meaning -/
namespace M
theorem fw_open {P : Prog} {n f : Nat} {ds : List D} {h : Hm} {Q : VQ} {E : XP} {d : Def} (hl : P.lookup f = some d) (hp : ds.length = d.params) (w : wpSs (FW P n) E d.body (ds.map some ++ List.replicate (d.slots - d.params) none) h { nx := fun _ h' => Q .non h', rt := Q, bk := fun _ _ => False, ct := fun _ _ => False }) : FW P (n + 1) f ds h Q E := by
  unfold FW
  rw [hl]
  exact ⟨hp, w⟩
theorem getM_set {h : Hm} {a : Nat} {xs ys : List D} (e : getM h a = some xs) : getM (h.set a (.lst ys)) a = some ys := by
  have : a < h.length := by
    unfold getM at e
    split at e
    · rename_i z e2; exact (List.getElem?_eq_some_iff.mp e2).1
    · cases e
  unfold getM
  rw [List.getElem?_set_self this]
theorem getM_at' {h : Hm} {a : Nat} {xs : List D} (e : getM h a = some xs) : h[a]? = some (.lst xs) := by
  unfold getM at e
  split at e
  · rename_i z e2; cases e; exact e2
  · cases e
/-! readings of the partial functions -/
section
variable {h : Hm} {a : Nat} {xs ys : List D} {i j k : Int} {x y v : D}
theorem jn {d : D} : (some (some d)).join = some d := rfl
theorem idx_lst (e : h[a]? = some (.lst xs)) : idxS (.ref a) (.int k) h = atI xs k := by simp [idxS, e]
theorem idx_ro (e : h[a]? = some (.ro xs)) : idxS (.ref a) (.int k) h = atI xs k := by simp [idxS, e]
theorem idx_tup : idxS (.tup xs) (.int k) h = atI xs k := rfl
theorem at_nat {n : Nat} (e : xs[n]? = some x) : atI xs (n : Int) = some x := by
  have := (List.getElem?_eq_some_iff.mp e).1
  unfold atI ixN
  rw [if_pos (by omega), if_pos (by omega)]
  show xs[((n : Int)).toNat]? = some x
  rw [Int.toNat_natCast]; exact e
theorem at_pos {n : Int} (h0 : 0 ≤ n) (e : xs[n.toNat]? = some x) : atI xs n = some x := by
  have := at_nat e
  rwa [Int.toNat_of_nonneg h0] at this
theorem at0 : atI (x :: xs) 0 = some x := at_nat (n := 0) rfl
theorem at1 : atI (x :: y :: xs) 1 = some y := at_nat (n := 1) rfl
theorem at2 {z : D} : atI (x :: y :: z :: xs) 2 = some z := at_nat (n := 2) rfl
theorem c_gt : cmpS .gt (.int i) (.int j) h = some (decide (j < i)) := rfl
theorem c_lt : cmpS .lt (.int i) (.int j) h = some (decide (i < j)) := rfl
theorem c_le : cmpS .le (.int i) (.int j) h = some (decide (i ≤ j)) := rfl
theorem c_ge : cmpS .ge (.int i) (.int j) h = some (decide (j ≤ i)) := rfl
theorem c_is : cmpS .is x y h = isS x y := rfl
theorem c_isnt : cmpS .isnt x y h = (isS x y).map not := rfl
theorem c_eqI : cmpS .eq (.int i) (.int j) h = some (decide (i = j)) := by simp [cmpS, eqv, snap, snapD, dep, eqD]
theorem c_neI : cmpS .ne (.int i) (.int j) h = some (!decide (i = j)) := by simp [cmpS, eqv, snap, snapD, dep, eqD]
theorem c_eqS {s t : List Nat} : cmpS .eq (.str s) (.str t) h = some (decide (s = t)) := by simp [cmpS, eqv, snap, snapD, dep, eqD]
theorem c_neS {s t : List Nat} : cmpS .ne (.str s) (.str t) h = some (!decide (s = t)) := by simp [cmpS, eqv, snap, snapD, dep, eqD]
theorem c_eqB {b c : Bool} : cmpS .eq (.bl b) (.bl c) h = some (b == c) := by simp [cmpS, eqv, snap, snapD, dep, eqD]
theorem c_neB {b c : Bool} : cmpS .ne (.bl b) (.bl c) h = some (!(b == c)) := by simp [cmpS, eqv, snap, snapD, dep, eqD]
theorem t_bl {b : Bool} : truth h (.bl b) = some b := rfl
theorem b_int : bltS .int [.int i] h = some (.int i, h) := rfl
theorem b_abs : bltS .abs [.int i] h = some (.int (if i < 0 then -i else i), h) := rfl
theorem b_max2 : bltS .max2 [.int i, .int j] h = some (.int (if j > i then j else i), h) := rfl
theorem b_min2 : bltS .min2 [.int i, .int j] h = some (.int (if j < i then j else i), h) := rfl
theorem b_lenT : bltS .len [.tup xs] h = some (.int xs.length, h) := rfl
theorem b_lenL (e : h[a]? = some (.lst xs)) : bltS .len [.ref a] h = some (.int xs.length, h) := by simp [bltS, lenS, e]
theorem b_lenR (e : h[a]? = some (.ro xs)) : bltS .len [.ref a] h = some (.int xs.length, h) := by simp [bltS, lenS, e]
theorem b_lenD {kvs : List (D × D)} (e : h[a]? = some (.dct kvs)) : bltS .len [.ref a] h = some (.int kvs.length, h) := by simp [bltS, lenS, e]
theorem o_add : binS .add (.int i) (.int j) h = some (.int (i + j), h) := rfl
theorem o_sub : binS .sub (.int i) (.int j) h = some (.int (i - j), h) := rfl
theorem o_mulR (l : -LINT < j ∧ j < LINT) : binS .mul (.int i) (.int j) h = some (.int (i * j), h) := by simp [binS, l]
theorem o_mulL (l : -LINT < i ∧ i < LINT) : binS .mul (.int i) (.int j) h = some (.int (i * j), h) := by simp [binS, l]
theorem o_mod (l : 0 < j) : binS .mod (.int i) (.int j) h = some (.int (i % j), h) := by
  have : j ≠ 0 := by omega
  simp [binS, this, Int.fmod_eq_emod_of_nonneg i (by omega : (0 : Int) ≤ j)]
theorem o_fdiv (l : 0 < j) (l2 : j < 1073741824) : binS .fdiv (.int i) (.int j) h = some (.int (i / j), h) := by
  have h1 : j ≠ 0 := by omega
  have h2 : j.natAbs < 1073741824 := by omega
  simp [binS, h1, h2, Int.fdiv_eq_ediv_of_nonneg i (by omega : (0 : Int) ≤ j)]
theorem s_lst {n : Nat} (e : h[a]? = some (.lst xs)) (l : ixN xs.length k = some n) : setS (.ref a) (.int k) v h = some (h.set a (.lst (xs.set n v))) := by simp [setS, e, l]
theorem ix00 {n : Nat} : ixN (n + 1) 0 = some 0 := by unfold ixN; rw [if_pos (by omega), if_pos (by omega)]; rfl
theorem ix01 {n : Nat} : ixN (n + 2) 1 = some 1 := by unfold ixN; rw [if_pos (by omega), if_pos (by omega)]; rfl
theorem set_at {c c' : Cell} (e : h[a]? = some c) : (h.set a c')[a]? = some c' := by
  rw [List.getElem?_set_self (List.getElem?_eq_some_iff.mp e).1]
theorem idx_cell {c : Cell} (e : h[a]? = some c) (hc : c = .lst xs ∨ c = .ro xs) : idxS (.ref a) (.int k) h = atI xs k := by
  rcases hc with rfl | rfl
  · exact idx_lst e
  · exact idx_ro e
theorem b_lenC {c : Cell} (e : h[a]? = some c) (hc : c = .lst xs ∨ c = .ro xs) : bltS .len [.ref a] h = some (.int xs.length, h) := by
  rcases hc with rfl | rfl
  · exact b_lenL e
  · exact b_lenR e
theorem at_ints {ns : List Int} (h0 : 0 ≤ k) (h1 : k < ns.length) : atI (ns.map D.int) k = some (.int (ns[k.toNat]'(by omega))) :=
  at_pos h0 (by rw [List.getElem?_map, List.getElem?_eq_getElem (by omega)]; rfl)
theorem o_pow10 : binS .pow (.int 10) (.int 18) h = some (.int (10 ^ 18), h) := by simp [binS]
end
/-! kinds -/
/-- a value whose reference, if it is one, is a list's -/
def okR (h : Hm) : D → Prop
  | .ref a => ∃ xs, h[a]? = some (.lst xs) ∨ h[a]? = some (.ro xs)
  | .lst _ => False
  | _ => True
def kindB (t : Ty) : D → Bool
  | .non => false
  | .bl _ => t = .int ∨ t = .bool
  | .int _ => t = .int
  | .str _ => t = .str
  | .tup _ => t = .tuple
  | .ref _ => t = .list
  | .lst _ => false
theorem isi_ok {h : Hm} {d : D} (ok : okR h d) (t : Ty) : bltS (.isi t) [d] h = some (.bl (kindB t d), h) := by
  have e : isiS h t d = some (kindB t d) := by
    cases d <;> first | rfl | skip
    · exact ok.elim
    · obtain ⟨xs, e | e⟩ := ok <;> simp [isiS, e, kindB]
  simp [bltS, e]
def isInt : D → Bool
  | .int _ => true
  | _ => false
def isTupD : D → Bool
  | .tup _ => true
  | _ => false
def isStr : D → Bool
  | .str _ => true
  | _ => false
/-- a whole number from lo, to hi if it is said -/
def numB (lo : Int) (hi : Option Int) : D → Bool
  | .int i => decide (lo ≤ i) && (match hi with
    | none => true
    | some m => decide (i ≤ m))
  | _ => false
def hiD : Option Int → D
  | none => .non
  | some m => .int m
/-! ### comprehensions that only make new cells -/
theorem pre_at {h0 h : Hm} (p : h0 <+: h) {i : Nat} {c : Cell} (e : h0[i]? = some c) : h[i]? = some c := by
  obtain ⟨t, rfl⟩ := p
  rw [List.getElem?_append_left (List.getElem?_eq_some_iff.mp e).1]; exact e
theorem still_pre {g : List (Nat × Cell)} {h0 h : Hm} (s : still g h0) (p : h0 <+: h) : still g h := fun x hx => pre_at p (s x hx)
theorem pre_set {h0 h : Hm} (p : h0 <+: h) {i : Nat} (hi : h0.length ≤ i) (c : Cell) : h0 <+: h.set i c := by
  obtain ⟨t, rfl⟩ := p
  rw [List.set_append_right _ _ hi]
  exact ⟨_, rfl⟩
theorem comp_fm {g : List (Nat × Cell)} {h0 : Hm} {step : D → Hm → (Option D → Hm → Prop) → Prop} {Q : Hm → Prop} (f : D → Option D) (st : still g h0) :
    ∀ (xs acc : List D) (h : Hm), (∀ x ∈ xs, ∀ (h : Hm) (R : Option D → Hm → Prop), h0 <+: h → (∀ h', h <+: h' → R (f x) h') → step x h R) → acc.length + xs.length ≤ LIM → h0 <+: h → h[h0.length]? = some (.lst acc) →
      (∀ h', h0 <+: h' → h'[h0.length]? = some (.lst (acc ++ xs.filterMap f)) → Q h') → compL g h0.length step Q xs h
  | [], acc, h, hs, hl, p, e, q => ⟨still_pre st p, q h p (by rw [List.filterMap_nil, List.append_nil]; exact e)⟩
  | x :: xs, acc, h, hs, hl, p, e, q => by
    refine ⟨still_pre st p, hs x List.mem_cons_self h _ p fun h' p' => ?_⟩
    have e' := pre_at p' e
    rw [List.length_cons] at hl
    cases hf : f x with
    | none =>
      refine comp_fm f st xs acc h' (fun y hy => hs y (List.mem_cons_of_mem _ hy)) (by omega) (p.trans p') e' fun h'' p'' e'' => q h'' p'' ?_
      rw [List.filterMap_cons, hf]; exact e''
    | some y =>
      have em : getM h' h0.length = some acc := by unfold getM; rw [e']
      show ws (getM h' h0.length) _
      rw [em]
      refine ⟨by omega, comp_fm f st xs (acc ++ [y]) _ (fun y hy => hs y (List.mem_cons_of_mem _ hy)) (by rw [List.length_append]; simp; omega) (pre_set (p.trans p') (Nat.le_refl _) _) (set_at e') fun h'' p'' e'' => q h'' p'' ?_⟩
      rw [List.filterMap_cons, hf]
      rw [List.append_assoc] at e''
      exact e''
/-- the whole comprehension -/
theorem comp_new {g : List (Nat × Cell)} {h0 : Hm} {step : D → Hm → (Option D → Hm → Prop) → Prop} {Q : Hm → Prop} (f : D → Option D) (st : still g h0) {xs : List D} (hl : xs.length ≤ LIM)
    (hs : ∀ x ∈ xs, ∀ (h : Hm) (R : Option D → Hm → Prop), h0 <+: h → (∀ h', h <+: h' → R (f x) h') → step x h R) (q : ∀ h', h0 <+: h' → h'[h0.length]? = some (.lst (xs.filterMap f)) → Q h') : compL g h0.length step Q xs (h0 ++ [.lst []]) :=
  comp_fm f st xs [] _ hs (by simpa using hl) ⟨_, rfl⟩ (by simp) fun h' p e => q h' p (by simpa using e)
/-- a for loop by an invariant over the items that are left -/
theorem forL_inv {g : List (Nat × Cell)} {step : D → Env → Hm → (Env → Hm → Prop) → Prop} {nx : Env → Hm → Prop} (I : List D → Env → Hm → Prop) (hg : ∀ l env h, I l env h → still g h) (hs : ∀ x l env h (R : Env → Hm → Prop), I (x :: l) env h → (∀ e h, I l e h → R e h) → step x env h R) (hn : ∀ env h, I [] env h → nx env h) :
    ∀ (xs : List D) (env : Env) (h : Hm), I xs env h → forL g step nx xs env h
  | [], env, h, hi => ⟨hg _ _ _ hi, hn env h hi⟩
  | x :: xs, env, h, hi => ⟨hg _ _ _ hi, hs x xs env h _ hi fun e h' hi' => forL_inv I hg hs hn xs e h' hi'⟩
/-! ### dict comprehensions: the keys, first come -/
def dk (ks : List D) (k : D) : List D := if (ks.any fun p => eqD p k) = true then ks else ks ++ [k]
theorem dput_keys (kvs : List (D × D)) (k v : D) : (dput kvs k v).map (·.1) = dk (kvs.map (·.1)) k := by
  unfold dput dk
  rw [List.any_map]
  by_cases c : (kvs.any ((fun p => eqD p k) ∘ (·.1))) = true
  · have c' : (kvs.any fun p => eqD p.1 k) = true := c
    rw [if_pos c, if_pos c', List.map_map]
    refine List.map_congr_left fun p _ => ?_
    show (if eqD p.1 k = true then (p.1, v) else p).1 = p.1
    split <;> rfl
  · have c' : ¬ (kvs.any fun p => eqD p.1 k) = true := c
    rw [if_neg c, if_neg c', List.map_append]
    rfl
theorem dk_length (ks : List D) (k : D) : (dk ks k).length ≤ ks.length + 1 := by
  unfold dk
  split
  · omega
  · simp
theorem dcomp_fm {g : List (Nat × Cell)} {h0 : Hm} {step : D → Hm → (Option (D × D) → Hm → Prop) → Prop} {Q : Hm → Prop} (f : D → D × D) (st : still g h0) :
    ∀ (xs : List D) (acc : List (D × D)) (h : Hm), (∀ x ∈ xs, ∀ (h : Hm) (R : Option (D × D) → Hm → Prop), h0 <+: h → (∀ h', h <+: h' → R (some (f x)) h') → step x h R) → (∀ x ∈ xs, leafB (f x).1 = true) → (∀ p ∈ acc, leafB p.1 = true) → acc.length + xs.length ≤ LIM → h0 <+: h → h[h0.length]? = some (.dct acc) →
      (∀ h' kvs, h0 <+: h' → kvs.map (·.1) = (xs.map fun x => (f x).1).foldl dk (acc.map (·.1)) → h'[h0.length]? = some (.dct kvs) → Q h') → dcompL g h0.length step Q xs h
  | [], acc, h, hs, hk, ha, hl, p, e, q => ⟨still_pre st p, q h acc p rfl e⟩
  | x :: xs, acc, h, hs, hk, ha, hl, p, e, q => by
    refine ⟨still_pre st p, hs x List.mem_cons_self h _ p fun h' p' => ?_⟩
    have e' := pre_at p' e
    rw [List.length_cons] at hl
    have em : getK h' h0.length = some acc := by unfold getK; rw [e']
    show ws (getK h' h0.length) _
    rw [em]
    have hx := hk x List.mem_cons_self
    have leaf_key : ∀ d : D, leafB d = true → keyOK d = true ∧ isTup d = false := fun d h => by
      cases d <;> first | exact ⟨rfl, rfl⟩ | exact Bool.noConfusion h
    have hin : keyIn acc (f x).1 = true := by
      unfold keyIn
      rw [Bool.and_eq_true]
      refine ⟨(leaf_key _ hx).1, List.all_eq_true.mpr fun q hq => ?_⟩
      rw [(leaf_key _ (ha q hq)).2, (leaf_key _ hx).2]; rfl
    have hlen : (dput acc (f x).1 (f x).2).length ≤ acc.length + 1 := by
      have := dk_length (acc.map (·.1)) (f x).1
      rw [← dput_keys acc (f x).1 (f x).2, List.length_map, List.length_map] at this
      exact this
    refine ⟨hin, by omega, dcomp_fm f st xs _ _ (fun y hy => hs y (List.mem_cons_of_mem _ hy)) (fun y hy => hk y (List.mem_cons_of_mem _ hy)) (fun q hq => ?_) (by omega) (pre_set (p.trans p') (Nat.le_refl _) _) (set_at e') fun h'' kvs p'' e1 e'' => q h'' kvs p'' ?_ e''⟩
    · have hm : q.1 ∈ (dput acc (f x).1 (f x).2).map (·.1) := List.mem_map_of_mem hq
      rw [dput_keys] at hm
      unfold dk at hm
      split at hm
      · obtain ⟨r, hr, e⟩ := List.mem_map.mp hm
        rw [← e]; exact ha r hr
      · rcases List.mem_append.mp hm with hm | hm
        · obtain ⟨r, hr, e⟩ := List.mem_map.mp hm
          rw [← e]; exact ha r hr
        · rw [List.mem_singleton.mp hm]; exact hx
    · rw [e1, dput_keys, List.map_cons, List.foldl_cons]
theorem dcomp_new {g : List (Nat × Cell)} {h0 : Hm} {step : D → Hm → (Option (D × D) → Hm → Prop) → Prop} {Q : Hm → Prop} (f : D → D × D) (st : still g h0) {xs : List D} (hl : xs.length ≤ LIM) (hk : ∀ x ∈ xs, leafB (f x).1 = true)
    (hs : ∀ x ∈ xs, ∀ (h : Hm) (R : Option (D × D) → Hm → Prop), h0 <+: h → (∀ h', h <+: h' → R (some (f x)) h') → step x h R) (q : ∀ h' kvs, h0 <+: h' → kvs.map (·.1) = (xs.map fun x => (f x).1).foldl dk [] → h'[h0.length]? = some (.dct kvs) → Q h') : dcompL g h0.length step Q xs (h0 ++ [.dct []]) :=
  dcomp_fm f st xs [] _ hs hk (fun _ h => nomatch h) (by simpa using hl) ⟨_, rfl⟩ (by simp) fun h' kvs p e1 e => q h' kvs p e1 e
/-- the keys of pairs put one behind another -/
theorem merge_keys : ∀ (ps kvs : List (D × D)), (∀ p ∈ ps, leafB p.1 = true) → (∀ p ∈ kvs, leafB p.1 = true) → ∃ r, mergeK kvs ps = some r ∧ r.map (·.1) = (ps.map (·.1)).foldl dk (kvs.map (·.1))
  | [], kvs, _, _ => ⟨kvs, rfl, rfl⟩
  | (k, v) :: ps, kvs, hp, hk => by
    have leaf_key : ∀ d : D, leafB d = true → keyOK d = true ∧ isTup d = false := fun d h => by
      cases d <;> first | exact ⟨rfl, rfl⟩ | exact Bool.noConfusion h
    have hx : leafB k = true := hp (k, v) List.mem_cons_self
    have hin : keyIn kvs k = true := by
      unfold keyIn
      rw [Bool.and_eq_true]
      refine ⟨(leaf_key _ hx).1, List.all_eq_true.mpr fun q hq => ?_⟩
      rw [(leaf_key _ (hk q hq)).2, (leaf_key _ hx).2]; rfl
    have hk2 : ∀ q ∈ dput kvs k v, leafB q.1 = true := fun q hq => by
      have hm : q.1 ∈ (dput kvs k v).map (·.1) := List.mem_map_of_mem hq
      rw [dput_keys] at hm
      unfold dk at hm
      split at hm
      · obtain ⟨r, hr, e⟩ := List.mem_map.mp hm
        rw [← e]; exact hk r hr
      · rcases List.mem_append.mp hm with hm | hm
        · obtain ⟨r, hr, e⟩ := List.mem_map.mp hm
          rw [← e]; exact hk r hr
        · rw [List.mem_singleton.mp hm]; exact hx
    obtain ⟨r, h1, h2⟩ := merge_keys ps (dput kvs k v) (fun p hp' => hp p (List.mem_cons_of_mem _ hp')) hk2
    refine ⟨r, ?_, ?_⟩
    · rw [mergeK, if_pos hin]; exact h1
    · rw [h2, dput_keys]; rfl
/-! ### ints: distinct, in order -/
def uq (acc : List Int) (k : Int) : List Int := if k ∈ acc then acc else acc ++ [k]
def insI (x : Int) : List Int → List Int
  | [] => [x]
  | y :: ys => if y < x then y :: insI x ys else x :: y :: ys
def sortI : List Int → List Int
  | [] => []
  | x :: xs => insI x (sortI xs)
/-- the distinct ones, in order -/
def lin (ks : List Int) : List Int := sortI (ks.foldl uq [])
theorem any_int (acc : List Int) (k : Int) : ((acc.map D.int).any fun p => eqD p (.int k)) = decide (k ∈ acc) := by
  induction acc with
  | nil => rfl
  | cons a acc ih =>
    rw [List.map_cons, List.any_cons, ih]
    by_cases h : k = a
    · subst h; simp [eqD]
    · have : a ≠ k := fun e => h e.symm
      simp [eqD, h, this]
theorem dk_int (acc : List Int) (k : Int) : dk (acc.map D.int) (.int k) = (uq acc k).map D.int := by
  unfold dk uq
  rw [any_int]
  by_cases h : k ∈ acc
  · simp [h]
  · simp [h]
theorem dk_ints : ∀ (ks acc : List Int), (ks.map D.int).foldl dk (acc.map D.int) = (ks.foldl uq acc).map D.int
  | [], _ => rfl
  | k :: ks, acc => by rw [List.map_cons, List.foldl_cons, List.foldl_cons, dk_int, dk_ints ks]
theorem ltB_int (a b : Int) : ltB (.int a) (.int b) = decide (a < b) := by
  unfold ltB
  simp [toks, ltT, ltI]
theorem insD_int (x : Int) : ∀ ys : List Int, insD (.int x) (ys.map D.int) = (insI x ys).map D.int
  | [] => rfl
  | y :: ys => by
    rw [List.map_cons, insD, insI, ltB_int]
    by_cases h : y < x
    · simp [h, insD_int x ys]
    · simp [h]
theorem sortD_int : ∀ xs : List Int, sortD (xs.map D.int) = (sortI xs).map D.int
  | [] => rfl
  | x :: xs => by rw [List.map_cons, sortD, sortI, sortD_int xs, insD_int]
theorem pure_ints : ∀ xs : List Int, pureDs (xs.map D.int) = true ∧ deps (xs.map D.int) = 0
  | [] => ⟨rfl, rfl⟩
  | x :: xs => by
    obtain ⟨a, b⟩ := pure_ints xs
    exact ⟨by rw [List.map_cons, pureDs, a]; rfl, by rw [List.map_cons, deps, b]; rfl⟩
theorem sortOK_ints (xs : List Int) : sortOK (xs.map D.int) = true := by
  obtain ⟨a, b⟩ := pure_ints xs
  unfold sortOK
  rw [a, b]
  have h1 : ((xs.map D.int).all fun x => (xs.map D.int).all fun y => alikeD x y) = true := by
    rw [List.all_eq_true]
    intro x hx
    rw [List.all_eq_true]
    intro y hy
    obtain ⟨i, _, rfl⟩ := List.mem_map.mp hx
    obtain ⟨j, _, rfl⟩ := List.mem_map.mp hy
    rfl
  have h2 : (xs.map D.int).all flatD = true := by
    rw [List.all_eq_true]
    intro x hx
    obtain ⟨i, _, rfl⟩ := List.mem_map.mp hx
    rfl
  rw [h1, h2]
  simp
theorem b_sortedD {h : Hm} {a : Nat} {kvs : List (D × D)} {ks : List Int} (e : h[a]? = some (.dct kvs)) (hk : kvs.map (·.1) = ks.map D.int) : bltS .sorted [.ref a] h = some (.ref h.length, h ++ [.lst ((sortI ks).map D.int)]) := by
  simp only [bltS, itemsOf, e, Option.bind_some]
  have : kvs.map (fun p => p.1) = ks.map D.int := hk
  rw [this, if_pos (sortOK_ints ks), sortD_int]
  rfl
theorem b_tupleL {h : Hm} {a : Nat} {xs : List D} (e : h[a]? = some (.lst xs)) : bltS .tuple [.ref a] h = some (.tup xs, h) := by simp [bltS, seqOf, getL, e]
theorem it_tup {h : Hm} {xs : List D} : iterS .val [.tup xs] h = some (xs, []) := rfl
theorem it_lst {h : Hm} {a : Nat} {xs : List D} (e : h[a]? = some (.lst xs)) : iterS .val [.ref a] h = some (xs, [(a, .lst xs)]) := by simp [iterS, seqOf, getL, leanOn, e]
theorem still_nil {h : Hm} : still [] h := fun _ h => nomatch h
theorem still_one {h : Hm} {a : Nat} {c : Cell} (e : h[a]? = some c) : still [(a, c)] h := fun p hp => by rw [List.mem_singleton.mp hp]; exact e
theorem last_at {h : Hm} {c : Cell} : (h ++ [c])[h.length]? = some c := by simp
theorem pre_one {h : Hm} {c : Cell} : h <+: h ++ [c] := ⟨[c], rfl⟩
theorem pairs_ok (ps : List (D × D)) : pairsOf (ps.map fun p => D.tup [p.1, p.2]) = some ps := by
  induction ps with
  | nil => rfl
  | cons p ps ih => rw [List.map_cons, pairsOf, ih]; rfl
theorem b_dictL {h : Hm} {a : Nat} {ps : List (D × D)} (e : h[a]? = some (.lst (ps.map fun p => D.tup [p.1, p.2]))) (hl : ps.length ≤ LIM) (hk : ∀ p ∈ ps, leafB p.1 = true) : ∃ kvs, bltS .dict [.ref a] h = some (.ref h.length, h ++ [.dct kvs]) ∧ kvs.map (·.1) = (ps.map (·.1)).foldl dk [] := by
  obtain ⟨kvs, h1, h2⟩ := merge_keys ps [] hk fun _ h => nomatch h
  refine ⟨kvs, ?_, h2⟩
  have e1 : lstOf h (.ref a) = some (ps.map fun p => D.tup [p.1, p.2]) := by simp [lstOf, getL, e]
  have e2 : (ps.all fun p => leafB p.1) = true := List.all_eq_true.mpr hk
  simp only [bltS, e1, Option.bind_some, pairs_ok]
  rw [if_pos ⟨.inl e2, hl⟩, h1]
  rfl
/-! ### dicts with keys from outside -/
structure Enc (α : Type) [DecidableEq α] where
  e : α → D
  eq : ∀ a b, eqD (e a) (e b) = decide (a = b)
  ok : ∀ a, keyOK (e a) = true
  tup : Bool
  tp : ∀ a, isTup (e a) = tup
section
variable {α β : Type} [DecidableEq α]
def look (ps : List (α × β)) (k : α) : Option β := (ps.find? fun p => decide (p.1 = k)).map (·.2)
def put (ps : List (α × β)) (k : α) (v : β) : List (α × β) := if (ps.any fun p => decide (p.1 = k)) = true then ps.map (fun p => if p.1 = k then (p.1, v) else p) else ps ++ [(k, v)]
def encL (E : Enc α) (f : β → D) (ps : List (α × β)) : List (D × D) := ps.map fun p => (E.e p.1, f p.2)
theorem look_put_same (ps : List (α × β)) (k : α) (v : β) : look (put ps k v) k = some v := by
  unfold put
  split
  · rename_i h
    unfold look
    induction ps with
    | nil => simp at h
    | cons p ps ih =>
      rw [List.map_cons, List.find?_cons]
      by_cases hp : p.1 = k
      · simp [hp]
      · rw [if_neg hp]
        simp only [hp, decide_false]
        refine ih ?_
        simpa [hp] using h
  · rename_i h
    unfold look
    rw [List.find?_append]
    have : ps.find? (fun p => decide (p.1 = k)) = none := by
      rw [List.find?_eq_none]
      intro x hx hk
      exact h (List.any_eq_true.mpr ⟨x, hx, hk⟩)
    rw [this]
    simp
theorem look_put_ne (ps : List (α × β)) {k k' : α} (v : β) (hne : k' ≠ k) : look (put ps k v) k' = look ps k' := by
  unfold put
  split
  · unfold look
    induction ps with
    | nil => rfl
    | cons p ps ih =>
      rename_i h
      rw [List.map_cons, List.find?_cons, List.find?_cons]
      by_cases hp : p.1 = k
      · have h1 : ¬ p.1 = k' := fun z => hne (z.symm.trans hp)
        have h2 : ¬ k = k' := fun z => hne z.symm
        simp only [hp, if_true, h2, decide_false]
        clear ih
        induction ps with
        | nil => rfl
        | cons q ps ih2 =>
          rw [List.map_cons, List.find?_cons, List.find?_cons]
          by_cases hq : q.1 = k
          · simp only [hq, if_true, h2, decide_false]
            exact ih2 (by simp [hp])
          · rw [if_neg hq]
            by_cases hq2 : q.1 = k'
            · simp [hq2]
            · simp only [hq2, decide_false]
              exact ih2 (by simp [hp])
      · rw [if_neg hp]
        by_cases hp2 : p.1 = k'
        · simp [hp2]
        · simp only [hp2, decide_false]
          exact ih (by simpa [hp] using h)
  · unfold look
    rw [List.find?_append]
    cases hq : ps.find? (fun p => decide (p.1 = k')) with
    | some q => rfl
    | none =>
      have h2 : ¬ k = k' := fun z => hne z.symm
      simp [h2]
theorem put_length (ps : List (α × β)) (k : α) (v : β) : (put ps k v).length ≤ ps.length + 1 := by
  unfold put
  split <;> simp
variable (E : Enc α) (f : β → D)
theorem enc_get (ps : List (α × β)) (k : α) : dget (encL E f ps) (E.e k) = (look ps k).map f := by
  unfold dget look encL
  induction ps with
  | nil => rfl
  | cons p ps ih =>
    rw [List.map_cons, List.find?_cons, List.find?_cons, E.eq]
    by_cases h : p.1 = k
    · simp [h]
    · simpa [h] using ih
theorem enc_put (ps : List (α × β)) (k : α) (v : β) : dput (encL E f ps) (E.e k) (f v) = encL E f (put ps k v) := by
  have ha : ((encL E f ps).any fun p => eqD p.1 (E.e k)) = ps.any fun p => decide (p.1 = k) := by
    unfold encL
    rw [List.any_map]
    congr 1
    funext p
    exact E.eq _ _
  unfold dput put
  rw [ha]
  split
  · unfold encL
    rw [List.map_map, List.map_map]
    refine List.map_congr_left fun p _ => ?_
    show (if eqD (E.e p.1) (E.e k) = true then (E.e p.1, f v) else (E.e p.1, f p.2)) = _
    rw [E.eq]
    by_cases h : p.1 = k
    · simp [h]
    · simp [h]
  · unfold encL
    rw [List.map_append]
    rfl
theorem enc_in (ps : List (α × β)) (k : α) : keyIn (encL E f ps) (E.e k) = true := by
  unfold keyIn
  rw [E.ok, Bool.true_and, List.all_eq_true]
  intro p hp
  obtain ⟨q, _, rfl⟩ := List.mem_map.mp hp
  show (isTup (E.e q.1) == isTup (E.e k)) = true
  rw [E.tp, E.tp]
  exact beq_self_eq_true _
end
/-- a comprehension by an invariant over the items that are left and the list so far -/
theorem comp_inv {g : List (Nat × Cell)} {a : Nat} {step : D → Hm → (Option D → Hm → Prop) → Prop} {Q : Hm → Prop} (I : List D → List D → Hm → Prop) (hg : ∀ l acc h, I l acc h → still g h)
    (hs : ∀ x l acc h (R : Option D → Hm → Prop), I (x :: l) acc h → (∀ y h', h'[a]? = some (.lst acc) → acc.length < LIM → I l (acc ++ [y]) (h'.set a (.lst (acc ++ [y]))) → R (some y) h') → (∀ h', I l acc h' → R none h') → step x h R) (hQ : ∀ acc h, I [] acc h → Q h) :
    ∀ (xs acc : List D) (h : Hm), I xs acc h → compL g a step Q xs h
  | [], acc, h, hi => ⟨hg _ _ _ hi, hQ _ _ hi⟩
  | x :: xs, acc, h, hi => ⟨hg _ _ _ hi, hs x xs acc h _ hi (fun y h' e l hi' => by
      have em : getM h' a = some acc := by unfold getM; rw [e]
      show ws (getM h' a) _
      rw [em]
      exact ⟨l, comp_inv I hg hs hQ xs _ _ hi'⟩) fun h' hi' => comp_inv I hg hs hQ xs acc h' hi'⟩
/-! ### heaps that grow, one cell changing -/
structure MX (m : Nat) (h h' : Hm) : Prop where
  len : h.length ≤ h'.length
  at_ : ∀ i, i < h.length → i ≠ m → h'[i]? = h[i]?
theorem MX.refl (m : Nat) (h : Hm) : MX m h h := ⟨Nat.le_refl _, fun _ _ _ => rfl⟩
theorem MX.trans {m : Nat} {h h1 h2 : Hm} (a : MX m h h1) (b : MX m h1 h2) : MX m h h2 :=
  ⟨Nat.le_trans a.len b.len, fun i hi hm => (b.at_ i (Nat.lt_of_lt_of_le hi a.len) hm).trans (a.at_ i hi hm)⟩
theorem MX.pre {m : Nat} {h h' : Hm} (p : h <+: h') : MX m h h' := by
  obtain ⟨t, rfl⟩ := p
  exact ⟨by simp, fun i hi _ => List.getElem?_append_left hi⟩
theorem MX.set {m : Nat} {h h' : Hm} (a : MX m h h') (c : Cell) : MX m h (h'.set m c) :=
  ⟨by rw [List.length_set]; exact a.len, fun i hi hm => by rw [List.getElem?_set_ne (Ne.symm hm)]; exact a.at_ i hi hm⟩
/-- a cell made behind h changes -/
theorem MX.set_new {m : Nat} {h h' : Hm} (a : MX m h h') {i : Nat} (hi : h.length ≤ i) (c : Cell) : MX m h (h'.set i c) :=
  ⟨by rw [List.length_set]; exact a.len, fun j hj hm => by rw [List.getElem?_set_ne (by omega)]; exact a.at_ j hj hm⟩
theorem MX.cell {m : Nat} {h h' : Hm} (a : MX m h h') {i : Nat} {c : Cell} (e : h[i]? = some c) (hm : i ≠ m) : h'[i]? = some c := by
  rw [a.at_ i (List.getElem?_eq_some_iff.mp e).1 hm]; exact e
/-! ### all the parts of a list -/
def subs {α : Type} : List α → List (List α)
  | [] => [[]]
  | x :: xs => subs xs ++ (subs xs).map (x :: ·)
theorem subs_length {α : Type} : ∀ l : List α, (subs l).length = 2 ^ l.length
  | [] => rfl
  | x :: xs => by rw [subs, List.length_append, List.length_map, subs_length xs, List.length_cons, Nat.pow_succ]; omega
theorem mem_subs {α : Type} : ∀ {l s : List α}, s.Sublist l → s ∈ subs l
  | _, _, .slnil => by simp [subs]
  | _, _, .cons x h => by rw [subs]; exact List.mem_append_left _ (mem_subs h)
  | _, _, .cons₂ x h => by rw [subs]; exact List.mem_append_right _ (List.mem_map_of_mem (mem_subs h))
theorem put_keys {α β : Type} [DecidableEq α] (ps : List (α × β)) (k : α) (v : β) : (put ps k v).map (·.1) = if k ∈ ps.map (·.1) then ps.map (·.1) else ps.map (·.1) ++ [k] := by
  have e : (ps.any fun p => decide (p.1 = k)) = decide (k ∈ ps.map (·.1)) := by
    induction ps with
    | nil => rfl
    | cons p ps ih =>
      rw [List.any_cons, ih, List.map_cons]
      by_cases h : p.1 = k
      · simp [h]
      · have h2 : ¬ k = p.1 := fun z => h z.symm
        simp [h, h2]
  unfold put
  rw [e]
  by_cases h : k ∈ ps.map (·.1)
  · rw [if_pos (by simpa using h), if_pos h, List.map_map]
    refine List.map_congr_left fun p _ => ?_
    show (if p.1 = k then (p.1, v) else p).1 = p.1
    split <;> rfl
  · rw [if_neg (by simpa using h), if_neg h, List.map_append]
    rfl
theorem it_range {h : Hm} {j : Int} (h0 : -1000000 ≤ j) (h1 : j ≤ 1000000) : iterS .range [.int j] h = some (rngD 0 j.toNat, []) := by
  have : small j = true := by simp [small, h0, h1]
  simp [iterS, this]
theorem rng_drop {n j : Nat} (h : j < n) : (rngD 0 n).drop j = .int (j : Int) :: (rngD 0 n).drop (j + 1) := by
  have hl : (rngD 0 n).length = n := by simp [rngD]
  rw [List.drop_eq_getElem_cons (by rw [hl]; exact h)]
  congr 1
  simp [rngD]
theorem rng_end {n j : Nat} (h : n ≤ j) : (rngD 0 n).drop j = [] := List.drop_eq_nil_of_le (by simp [rngD]; exact h)
end M

end
section
set_option Elab.async false
set_option linter.all false
set_option autoImplicit false
/-! the defs of the law k11, in mini -/
namespace M11
open M
def D150 : Def := ⟨2, 4, [
  .asg (.slot 2) (.lit (.int (0))),
  .for_ (.slot 3) .val [(.loc 1)] [
    .asg (.slot 2) (.ife (.cmp .is (.loc 2) (.lit .non)) (.lit .non) (.idx (.idx (.idx (.loc 0) (.lit (.int (0)))) (.loc 2)) (.loc 3)))],
  .ret (.loc 2)]⟩
def D151 : Def := ⟨2, 3, [
  .asg (.slot 2) (.call 150 [(.loc 0), (.loc 1)] [] [0, 1]),
  .ret (.ife (.cmp .isnt (.loc 2) (.lit .non)) (.idx (.idx (.loc 0) (.lit (.int (2)))) (.loc 2)) (.lit .non))]⟩
def D152 : Def := ⟨2, 2, [
  .ret (.ife (.cmp .is (.loc 1) (.lit .non)) (.lit .non) (.idx (.idx (.loc 0) (.lit (.int (2)))) (.loc 1)))]⟩
def D153 : Def := ⟨3, 11, [
  .asg (.tup [(.slot 3), (.slot 4), (.slot 5)]) (.tup [(.lst [(.tup [(.tup []), (.loc 1), (.loc 2)])]), (.lit (.int (0))), (.dctP [(.tup [(.loc 1), (.loc 2)]), (.lit (.bl true))])]),
  .whil (.cmp .lt (.loc 4) (.blt .len [(.loc 3)])) [
    .asg (.tup [(.slot 7), (.slot 8), (.slot 9)]) (.idx (.loc 3) (.loc 4)),
    .ite (.cmp .ne (.call 152 [(.loc 0), (.loc 8)] [] [0, 1]) (.call 152 [(.loc 0), (.loc 9)] [] [0, 1])) [
      .ret (.loc 7)] [],
    .for_ (.slot 6) .range [(.blt .len [(.idx (.idx (.loc 0) (.lit (.int (0)))) (.lit (.int (0))))])] [
      .asg (.slot 10) (.blt .tuple [(.comp [1] (.slot 1) .val [(.tup [(.loc 8), (.loc 9)])] [] (.ife (.cmp .is (.loc 1) (.lit .non)) (.lit .non) (.idx (.idx (.idx (.loc 0) (.lit (.int (0)))) (.loc 1)) (.loc 6))))]),
      .ite (.cmp .notin (.loc 10) (.loc 5)) [
        .set (.loc 5) (.loc 10) (.lit (.bl true)),
        .expr (.meth .append (.loc 3) [(.bin .add (.tup [(.bin .add (.loc 7) (.tup [(.loc 6)]))]) (.loc 10))])] []],
    .aug 4 .add (.lit (.int (1)))],
  .ret (.lit .non)]⟩
def D154 : Def := ⟨1, 7, [
  .asg (.tup [(.slot 1), (.slot 2), (.slot 3)]) (.tup [(.dctP [(.lit (.int (0))), (.tup [])]), (.lst [(.lit (.int (0)))]), (.lit (.int (0)))]),
  .whil (.cmp .lt (.loc 3) (.blt .len [(.loc 2)])) [
    .for_ (.tup [(.slot 4), (.slot 5)]) .enum [(.idx (.idx (.loc 0) (.lit (.int (0)))) (.idx (.loc 2) (.loc 3)))] [
      .ite (.and (.cmp .isnt (.loc 5) (.lit .non)) (.cmp .notin (.loc 5) (.loc 1))) [
        .set (.loc 1) (.loc 5) (.bin .add (.idx (.loc 1) (.idx (.loc 2) (.loc 3))) (.tup [(.loc 4)])),
        .expr (.meth .append (.loc 2) [(.loc 5)])] []],
    .aug 3 .add (.lit (.int (1)))],
  .ret (.blt .tuple [(.comp [6] (.slot 6) .range [(.blt .len [(.idx (.loc 0) (.lit (.int (0))))])] [] (.idx (.loc 1) (.loc 6)))])]⟩
def D112 : Def := ⟨2, 4, [
  .asg (.slot 2) (.bin .add (.bin .mul (.lit (.int (27011))) (.loc 1)) (.lit (.int (8101)))),
  .ite (.cmp .lt (.loc 1) (.blt .len [(.loc 0)])) [
    .asg (.slot 2) (.blt .abs [(.blt .int [(.idx (.loc 0) (.loc 1))])])] [
    .ite (.cmp .gt (.blt .len [(.loc 0)]) (.lit (.int (0)))) [
      .asg (.slot 2) (.bin .add (.loc 2) (.bin .mul (.bin .mod (.blt .int [(.blt .abs [(.blt .int [(.idx (.loc 0) (.bin .mod (.blt .int [(.loc 1)]) (.blt .len [(.loc 0)])))])])]) (.lit (.int (2147483563)))) (.lit (.int (96137)))))] []],
  .asg (.slot 3) (.ife (.cmp .ge (.loc 2) (.bin .pow (.lit (.int (10))) (.lit (.int (18))))) (.loc 2) (.lit (.int (0)))),
  .ret (.lst [(.loc 3), (.bin .add (.bin .mod (.blt .int [(.bin .add (.bin .mul (.bin .mod (.blt .int [(.loc 2)]) (.lit (.int (2147483563)))) (.lit (.int (54250027)))) (.bin .mul (.lit (.int (8101))) (.loc 1)))]) (.lit (.int (2147483563)))) (.lit (.int (1))))])]⟩
def D113 : Def := ⟨2, 4, [
  .ite (.cmp .gt (.idx (.loc 0) (.lit (.int (0)))) (.lit (.int (0)))) [
    .asg (.slot 3) (.bin .mod (.blt .int [(.idx (.loc 0) (.lit (.int (0))))]) (.loc 1)),
    .set (.loc 0) (.lit (.int (0))) (.bin .fdiv (.idx (.loc 0) (.lit (.int (0)))) (.loc 1)),
    .ret (.loc 3)] [],
  .asg (.slot 2) (.bin .mod (.blt .int [(.bin .add (.bin .mul (.idx (.loc 0) (.lit (.int (1)))) (.lit (.int (39373)))) (.lit (.int (229))))]) (.lit (.int (2147483647)))),
  .set (.loc 0) (.lit (.int (1))) (.bin .add (.bin .mod (.blt .int [(.bin .add (.bin .mul (.loc 2) (.lit (.int (40692)))) (.lit (.int (103))))]) (.lit (.int (2147483563)))) (.lit (.int (1)))),
  .ret (.bin .mod (.blt .int [(.bin .fdiv (.bin .add (.bin .mul (.loc 2) (.lit (.int (2147483629)))) (.idx (.loc 0) (.lit (.int (1))))) (.lit (.int (8273))))]) (.loc 1))]⟩
def D18 : Def := ⟨2, 2, [
  .ret (.idx (.loc 1) (.call 113 [(.loc 0), (.blt .len [(.loc 1)])] [] [0, 1]))]⟩
def D19 : Def := ⟨2, 4, [
  .ite (.blt (.isi .tuple) [(.loc 1)]) [
    .ite (.or (.not (.blt (.isi .tuple) [(.loc 0)])) (.cmp .ne (.blt .len [(.loc 0)]) (.blt .len [(.loc 1)]))) [
      .ret (.lit (.bl false))] [],
    .for_ (.tup [(.slot 2), (.slot 3)]) .zip [(.loc 0), (.loc 1)] [
      .ite (.not (.call 19 [(.loc 2), (.loc 3)] [] [0, 1])) [
        .ret (.lit (.bl false))] []],
    .ret (.lit (.bl true))] [],
  .ite (.cmp .is (.loc 1) (.lit .non)) [
    .ret (.cmp .is (.loc 0) (.lit .non))] [],
  .ite (.or (.cmp .is (.loc 1) (.lit (.bl true))) (.cmp .is (.loc 1) (.lit (.bl false)))) [
    .ret (.and (.blt (.isi .bool) [(.loc 0)]) (.cmp .eq (.loc 0) (.loc 1)))] [],
  .ite (.blt (.isi .int) [(.loc 1)]) [
    .ret (.and (.blt (.isi .int) [(.loc 0)]) (.and (.not (.blt (.isi .bool) [(.loc 0)])) (.cmp .eq (.loc 0) (.loc 1))))] [],
  .ret (.and (.blt (.isi .str) [(.loc 0)]) (.and (.blt (.isi .str) [(.loc 1)]) (.cmp .eq (.loc 0) (.loc 1))))]⟩
def D138 : Def := ⟨2, 5, [
  .asg (.tup [(.slot 3), (.slot 4)]) (.tup [(.blt .list [(.loc 1)]), (.lst [])]),
  .for_ (.slot 2) .range [(.blt .len [(.loc 1)])] [
    .expr (.meth .append (.loc 4) [(.meth .popI (.loc 3) [(.call 113 [(.loc 0), (.blt .len [(.loc 3)])] [] [0, 1])])])],
  .ret (.loc 4)]⟩
def D155 : Def := ⟨2, 4, [
  .ite (.cmp .eq (.idx (.loc 0) (.lit (.int (0)))) (.lit (.str [110, 117, 109, 98, 101, 114]))) [
    .ret (.idx (.loc 0) (.lit (.int (1))))] [],
  .ite (.cmp .eq (.idx (.loc 0) (.lit (.int (0)))) (.lit (.str [99, 111, 117, 110, 116]))) [
    .ret (.idx (.loc 1) (.idx (.loc 0) (.lit (.int (1)))))] [],
  .asg (.tup [(.slot 2), (.slot 3)]) (.tup [(.call 155 [(.idx (.loc 0) (.lit (.int (1)))), (.loc 1)] [] [0, 1]), (.call 155 [(.idx (.loc 0) (.lit (.int (2)))), (.loc 1)] [] [0, 1])]),
  .ite (.cmp .isin (.idx (.loc 0) (.lit (.int (0)))) (.tup [(.lit (.str [112, 108, 117, 115])), (.lit (.str [109, 105, 110, 117, 115]))])) [
    .ret (.ife (.cmp .eq (.idx (.loc 0) (.lit (.int (0)))) (.lit (.str [112, 108, 117, 115]))) (.bin .add (.loc 2) (.loc 3)) (.bin .sub (.loc 2) (.loc 3)))] [],
  .ite (.cmp .eq (.idx (.loc 0) (.lit (.int (0)))) (.lit (.str [116, 105, 109, 101, 115]))) [
    .ret (.bin .mul (.loc 2) (.loc 3))] [],
  .ret (.ife (.cmp .eq (.idx (.loc 0) (.lit (.int (0)))) (.lit (.str [108, 101, 97, 115, 116]))) (.blt .min2 [(.loc 2), (.loc 3)]) (.blt .max2 [(.loc 2), (.loc 3)]))]⟩
def D156 : Def := ⟨2, 4, [
  .ite (.cmp .eq (.idx (.loc 0) (.lit (.int (0)))) (.lit (.str [121, 101, 115]))) [
    .ret (.lit (.bl true))] [],
  .ite (.cmp .eq (.idx (.loc 0) (.lit (.int (0)))) (.lit (.str [110, 111, 116]))) [
    .ret (.not (.call 156 [(.idx (.loc 0) (.lit (.int (1)))), (.loc 1)] [] [0, 1]))] [],
  .ite (.cmp .isin (.idx (.loc 0) (.lit (.int (0)))) (.tup [(.lit (.str [97, 110, 100])), (.lit (.str [111, 114]))])) [
    .asg (.tup [(.slot 2), (.slot 3)]) (.tup [(.call 156 [(.idx (.loc 0) (.lit (.int (1)))), (.loc 1)] [] [0, 1]), (.call 156 [(.idx (.loc 0) (.lit (.int (2)))), (.loc 1)] [] [0, 1])]),
    .ret (.ife (.cmp .eq (.idx (.loc 0) (.lit (.int (0)))) (.lit (.str [97, 110, 100]))) (.and (.loc 2) (.loc 3)) (.or (.loc 2) (.loc 3)))] [],
  .asg (.tup [(.slot 2), (.slot 3)]) (.tup [(.call 155 [(.idx (.loc 0) (.lit (.int (1)))), (.loc 1)] [] [0, 1]), (.call 155 [(.idx (.loc 0) (.lit (.int (2)))), (.loc 1)] [] [0, 1])]),
  .ret (.ife (.cmp .eq (.idx (.loc 0) (.lit (.int (0)))) (.lit (.str [108, 101, 115, 115]))) (.cmp .lt (.loc 2) (.loc 3)) (.cmp .eq (.loc 2) (.loc 3)))]⟩
def D157 : Def := ⟨2, 2, [
  .ret (.ife (.cmp .eq (.idx (.loc 0) (.lit (.int (3)))) (.lit (.str [114, 111, 117, 110, 100]))) (.bin .mod (.blt .int [(.loc 1)]) (.bin .add (.idx (.loc 0) (.lit (.int (1)))) (.lit (.int (1))))) (.blt .max2 [(.lit (.int (0))), (.blt .min2 [(.loc 1), (.idx (.loc 0) (.lit (.int (1))))])]))]⟩
def D158 : Def := ⟨3, 5, [
  .ret (.cmp .eq (.comp [3, 4] (.tup [(.slot 3), (.slot 4)]) .val [(.idx (.loc 0) (.lit (.int (2))))] [(.and (.cmp .eq (.loc 3) (.loc 1)) (.not (.call 156 [(.loc 4), (.loc 2)] [] [0, 1])))] (.lit (.int (1)))) (.lst []))]⟩
def D159 : Def := ⟨3, 8, [
  .ite (.not (.call 156 [(.idx (.idx (.idx (.loc 0) (.lit (.int (1)))) (.loc 2)) (.lit (.int (1)))), (.loc 1)] [] [0, 1])) [
    .ret (.lit .non)] [],
  .asg (.slot 3) (.blt .list [(.loc 1)]),
  .for_ (.tup [(.slot 4), (.slot 5)]) .val [(.idx (.idx (.idx (.loc 0) (.lit (.int (1)))) (.loc 2)) (.lit (.int (2))))] [
    .ite (.call 156 [(.loc 4), (.loc 1)] [] [0, 1]) [
      .for_ (.tup [(.slot 6), (.slot 7)]) .val [(.loc 5)] [
        .set (.loc 3) (.loc 6) (.call 157 [(.idx (.idx (.loc 0) (.lit (.int (0)))) (.loc 6)), (.call 155 [(.loc 7), (.loc 1)] [] [0, 1])] [] [0, 1])]] []],
  .ret (.ife (.call 158 [(.loc 0), (.lit (.str [97, 108, 119, 97, 121, 115])), (.blt .tuple [(.loc 3)])] [] [0, 1, 2]) (.blt .tuple [(.loc 3)]) (.lit .non))]⟩
def D160 : Def := ⟨3, 4, [
  .asg (.slot 3) (.idx (.idx (.idx (.loc 0) (.lit (.int (3)))) (.loc 1)) (.lit (.int (1)))),
  .ite (.cmp .eq (.idx (.loc 3) (.lit (.int (0)))) (.lit (.str [121, 101, 115]))) [
    .ret (.ife (.call 156 [(.idx (.loc 3) (.lit (.int (1)))), (.loc 2)] [] [0, 1]) (.lit (.int (1))) (.lit (.int (0))))] [],
  .ret (.blt .max2 [(.lit (.int (0))), (.blt .min2 [(.lit (.int (9))), (.call 155 [(.idx (.loc 3) (.lit (.int (1)))), (.loc 2)] [] [0, 1])])])]⟩
def D161 : Def := ⟨1, 5, [
  .ret (.blt .tuple [(.comp [1, 2, 3, 4] (.tup [(.slot 1), (.slot 2), (.slot 3), (.slot 4)]) .val [(.idx (.loc 0) (.lit (.int (0))))] [] (.loc 3))])]⟩
def D162 : Def := ⟨2, 4, [
  .asg (.slot 2) (.ife (.call 158 [(.loc 0), (.lit (.str [97, 108, 119, 97, 121, 115])), (.call 161 [(.loc 0)] [] [0])] [] [0, 1, 2]) (.call 161 [(.loc 0)] [] [0]) (.lit .non)),
  .for_ (.slot 3) .val [(.loc 1)] [
    .asg (.slot 2) (.ife (.cmp .is (.loc 2) (.lit .non)) (.lit .non) (.call 159 [(.loc 0), (.loc 2), (.loc 3)] [] [0, 1, 2]))],
  .ret (.loc 2)]⟩
def D163 : Def := ⟨1, 7, [
  .ite (.cmp .is (.call 162 [(.loc 0), (.tup [])] [] [0, 1]) (.lit .non)) [
    .ret (.tup [(.lst []), (.lst [])])] [],
  .asg (.tup [(.slot 1), (.slot 2), (.slot 3)]) (.tup [(.lst [(.call 161 [(.loc 0)] [] [0])]), (.dctP [(.call 161 [(.loc 0)] [] [0]), (.lit (.int (0)))]), (.lst [])]),
  .whil (.cmp .lt (.blt .len [(.loc 3)]) (.blt .len [(.loc 1)])) [
    .asg (.slot 4) (.lst []),
    .for_ (.slot 5) .range [(.blt .len [(.idx (.loc 0) (.lit (.int (1))))])] [
      .asg (.slot 6) (.call 159 [(.loc 0), (.idx (.loc 1) (.blt .len [(.loc 3)])), (.loc 5)] [] [0, 1, 2]),
      .ite (.and (.cmp .isnt (.loc 6) (.lit .non)) (.cmp .notin (.loc 6) (.loc 2))) [
        .set (.loc 2) (.loc 6) (.blt .len [(.loc 1)]),
        .expr (.meth .append (.loc 1) [(.loc 6)])] [],
      .expr (.meth .append (.loc 4) [(.ife (.cmp .is (.loc 6) (.lit .non)) (.lit .non) (.idx (.loc 2) (.loc 6)))])],
    .expr (.meth .append (.loc 3) [(.blt .tuple [(.loc 4)])])],
  .ret (.tup [(.loc 1), (.loc 3)])]⟩
def D47 : Def := ⟨2, 7, [
  .asg (.slot 2) (.comp [4, 5] (.tup [(.slot 4), (.slot 5)]) .enum [(.loc 1)] [(.loc 5)] (.loc 4)),
  .for_ (.slot 3) .range [(.blt .len [(.loc 0)])] [
    .asg (.slot 2) (.comp [4] (.slot 4) .range [(.blt .len [(.loc 0)])] [(.or (.cmp .isin (.loc 4) (.loc 2)) (.cmp .ne (.comp [6] (.slot 6) .val [(.idx (.loc 0) (.loc 4))] [(.cmp .isin (.loc 6) (.loc 2))] (.lit (.int (1)))) (.lst [])))] (.loc 4))],
  .ret (.loc 2)]⟩
def D164 : Def := ⟨1, 19, [
  .asg (.tup [(.slot 7), (.slot 3)]) (.call 163 [(.loc 0)] [] [0]),
  .asg (.slot 1) (.comp [11] (.slot 11) .val [(.loc 7)] [] (.call 158 [(.loc 0), (.lit (.str [101, 110, 100, 115])), (.loc 11)] [] [0, 1, 2])),
  .asg (.slot 2) (.call 47 [(.loc 3), (.loc 1)] [] [0, 1]),
  .ite (.cmp .notin (.lit (.int (0))) (.loc 2)) [
    .ret (.lit .non)] [],
  .asg (.slot 3) (.comp [11] (.slot 11) .val [(.loc 3)] [] (.blt .tuple [(.comp [12] (.slot 12) .val [(.loc 11)] [] (.ife (.cmp .isin (.loc 12) (.loc 2)) (.loc 12) (.lit .non)))])),
  .asg (.slot 4) (.comp [11] (.slot 11) .val [(.loc 7)] [] (.blt .tuple [(.comp [18] (.slot 18) .range [(.blt .len [(.idx (.loc 0) (.lit (.int (3))))])] [] (.call 160 [(.loc 0), (.loc 18), (.loc 11)] [] [0, 1, 2]))])),
  .asg (.slot 5) (.comp [16, 17] (.tup [(.slot 16), (.slot 17)]) .zip [(.loc 1), (.loc 4)] [] (.tup [(.loc 16), (.ife (.loc 16) (.loc 17) (.lit .non))])),
  .for_ (.slot 6) .range [(.bin .add (.blt .len [(.loc 7)]) (.lit (.int (1))))] [
    .asg (.tup [(.slot 13), (.slot 14)]) (.tup [(.dct []), (.lst [])]),
    .for_ (.tup [(.slot 15), (.slot 11)]) .enum [(.loc 3)] [
      .expr (.meth .append (.loc 14) [(.meth .setdefault (.loc 13) [(.tup [(.idx (.loc 5) (.loc 15)), (.blt .tuple [(.comp [12] (.slot 12) .val [(.loc 11)] [] (.ife (.cmp .is (.loc 12) (.lit .non)) (.lit .non) (.idx (.loc 5) (.loc 12))))])]), (.blt .len [(.loc 13)])])])],
    .asg (.slot 5) (.loc 14)],
  .asg (.tup [(.slot 8), (.slot 9), (.slot 10)]) (.tup [(.lst [(.lit (.int (0)))]), (.dctP [(.idx (.loc 5) (.lit (.int (0)))), (.lit (.int (0)))]), (.lst [])]),
  .whil (.cmp .lt (.blt .len [(.loc 10)]) (.blt .len [(.loc 8)])) [
    .asg (.slot 11) (.lst []),
    .for_ (.slot 12) .val [(.idx (.loc 3) (.idx (.loc 8) (.blt .len [(.loc 10)])))] [
      .ite (.and (.cmp .isnt (.loc 12) (.lit .non)) (.cmp .notin (.idx (.loc 5) (.loc 12)) (.loc 9))) [
        .set (.loc 9) (.idx (.loc 5) (.loc 12)) (.blt .len [(.loc 8)]),
        .expr (.meth .append (.loc 8) [(.loc 12)])] [],
      .expr (.meth .append (.loc 11) [(.ife (.cmp .is (.loc 12) (.lit .non)) (.lit .non) (.idx (.loc 9) (.idx (.loc 5) (.loc 12))))])],
    .expr (.meth .append (.loc 10) [(.blt .tuple [(.loc 11)])])],
  .ret (.tup [(.blt .tuple [(.loc 10)]), (.blt .tuple [(.comp [15] (.slot 15) .val [(.loc 8)] [] (.idx (.loc 1) (.loc 15)))]), (.blt .tuple [(.comp [15] (.slot 15) .val [(.loc 8)] [] (.ife (.idx (.loc 1) (.loc 15)) (.idx (.loc 4) (.loc 15)) (.lit .non)))])])]⟩
def D165 : Def := ⟨2, 4, [
  .asg (.tup [(.slot 2), (.slot 3)]) (.tup [(.call 113 [(.loc 0), (.blt .len [(.loc 1)])] [] [0, 1]), (.call 113 [(.loc 0), (.lit (.int (6)))] [] [0, 1])]),
  .ite (.cmp .eq (.loc 3) (.lit (.int (0)))) [
    .ret (.tup [(.lit (.str [110, 117, 109, 98, 101, 114])), (.call 113 [(.loc 0), (.lit (.int (3)))] [] [0, 1])])] [],
  .ite (.cmp .eq (.loc 3) (.lit (.int (1)))) [
    .ret (.tup [(.lit (.str [99, 111, 117, 110, 116])), (.loc 2)])] [],
  .ite (.cmp .lt (.loc 3) (.lit (.int (4)))) [
    .ret (.tup [(.lit (.str [112, 108, 117, 115])), (.tup [(.lit (.str [99, 111, 117, 110, 116])), (.loc 2)]), (.tup [(.lit (.str [110, 117, 109, 98, 101, 114])), (.bin .add (.lit (.int (1))) (.call 113 [(.loc 0), (.lit (.int (2)))] [] [0, 1]))])])] [],
  .ite (.cmp .eq (.loc 3) (.lit (.int (4)))) [
    .ret (.tup [(.lit (.str [109, 105, 110, 117, 115])), (.tup [(.lit (.str [99, 111, 117, 110, 116])), (.loc 2)]), (.tup [(.lit (.str [110, 117, 109, 98, 101, 114])), (.lit (.int (1)))])])] [],
  .ret (.tup [(.call 18 [(.loc 0), (.lst [(.lit (.str [108, 101, 97, 115, 116])), (.lit (.str [109, 111, 115, 116])), (.lit (.str [112, 108, 117, 115]))])] [] [0, 1]), (.tup [(.lit (.str [99, 111, 117, 110, 116])), (.loc 2)]), (.tup [(.lit (.str [99, 111, 117, 110, 116])), (.call 113 [(.loc 0), (.blt .len [(.loc 1)])] [] [0, 1])])])]⟩
def D166 : Def := ⟨3, 4, [
  .asg (.slot 3) (.call 113 [(.loc 0), (.ife (.cmp .gt (.loc 2) (.lit (.int (0)))) (.lit (.int (6))) (.lit (.int (4))))] [] [0, 1]),
  .ite (.cmp .lt (.loc 3) (.lit (.int (3)))) [
    .ret (.tup [(.call 18 [(.loc 0), (.lst [(.lit (.str [108, 101, 115, 115])), (.lit (.str [115, 97, 109, 101]))])] [] [0, 1]), (.tup [(.lit (.str [99, 111, 117, 110, 116])), (.call 113 [(.loc 0), (.blt .len [(.loc 1)])] [] [0, 1])]), (.tup [(.lit (.str [110, 117, 109, 98, 101, 114])), (.call 113 [(.loc 0), (.lit (.int (3)))] [] [0, 1])])])] [],
  .ite (.cmp .eq (.loc 3) (.lit (.int (3)))) [
    .ret (.tup [(.call 18 [(.loc 0), (.lst [(.lit (.str [108, 101, 115, 115])), (.lit (.str [115, 97, 109, 101]))])] [] [0, 1]), (.call 165 [(.loc 0), (.loc 1)] [] [0, 1]), (.call 165 [(.loc 0), (.loc 1)] [] [0, 1])])] [],
  .ite (.cmp .eq (.loc 3) (.lit (.int (4)))) [
    .ret (.tup [(.lit (.str [110, 111, 116])), (.call 166 [(.loc 0), (.loc 1), (.bin .sub (.loc 2) (.lit (.int (1))))] [] [0, 1, 2])])] [],
  .ret (.tup [(.call 18 [(.loc 0), (.lst [(.lit (.str [97, 110, 100])), (.lit (.str [111, 114]))])] [] [0, 1]), (.call 166 [(.loc 0), (.loc 1), (.bin .sub (.loc 2) (.lit (.int (1))))] [] [0, 1, 2]), (.call 166 [(.loc 0), (.loc 1), (.bin .sub (.loc 2) (.lit (.int (1))))] [] [0, 1, 2])])]⟩
def D167 : Def := ⟨1, 16, [
  .asg (.tup [(.slot 3), (.slot 4), (.slot 5), (.slot 6)]) (.tup [(.lst []), (.lst []), (.lst []), (.lst [])]),
  .for_ (.slot 1) .range [(.bin .add (.lit (.int (1))) (.call 113 [(.loc 0), (.lit (.int (2)))] [] [0, 1]))] [
    .asg (.slot 7) (.bin .add (.lit (.int (1))) (.call 113 [(.loc 0), (.lit (.int (2)))] [] [0, 1])),
    .expr (.meth .append (.loc 3) [(.tup [(.bin .add (.lit (.str [114])) (.blt .str1 [(.loc 1)])), (.loc 7), (.call 18 [(.loc 0), (.lst [(.lit (.int (0))), (.lit (.int (0))), (.lit (.int (1)))])] [] [0, 1]), (.call 18 [(.loc 0), (.lst [(.lit (.str [104, 101, 108, 100])), (.lit (.str [114, 111, 117, 110, 100])), (.lit (.str [114, 111, 117, 110, 100]))])] [] [0, 1])])])],
  .for_ (.slot 1) .range [(.bin .add (.lit (.int (2))) (.call 113 [(.loc 0), (.lit (.int (2)))] [] [0, 1]))] [
    .asg (.slot 8) (.call 138 [(.loc 0), (.blt .lstRange [(.blt .len [(.loc 3)])])] [] [0, 1]),
    .asg (.slot 9) (.tup [(.tup [(.meth .pop0 (.loc 8) []), (.call 165 [(.loc 0), (.loc 3)] [] [0, 1])])]),
    .ite (.and (.cmp .ne (.loc 8) (.lst [])) (.cmp .eq (.call 113 [(.loc 0), (.lit (.int (3)))] [] [0, 1]) (.lit (.int (0))))) [
      .asg (.slot 9) (.bin .add (.loc 9) (.tup [(.tup [(.meth .pop0 (.loc 8) []), (.call 165 [(.loc 0), (.loc 3)] [] [0, 1])])]))] [],
    .asg (.slot 10) (.tup [(.tup [(.ife (.cmp .gt (.call 113 [(.loc 0), (.lit (.int (3)))] [] [0, 1]) (.lit (.int (0)))) (.tup [(.lit (.str [121, 101, 115]))]) (.call 166 [(.loc 0), (.loc 3), (.lit (.int (0)))] [] [0, 1, 2])), (.loc 9)])]),
    .expr (.meth .append (.loc 4) [(.tup [(.bin .add (.lit (.str [100])) (.blt .str1 [(.loc 1)])), (.ife (.cmp .eq (.call 113 [(.loc 0), (.lit (.int (2)))] [] [0, 1]) (.lit (.int (0)))) (.tup [(.lit (.str [121, 101, 115]))]) (.call 166 [(.loc 0), (.loc 3), (.lit (.int (1)))] [] [0, 1, 2])), (.loc 10)])])],
  .for_ (.slot 2) .val [(.tup [(.lit (.str [97, 108, 119, 97, 121, 115])), (.lit (.str [101, 110, 100, 115]))])] [
    .ite (.cmp .eq (.call 113 [(.loc 0), (.lit (.int (3)))] [] [0, 1]) (.lit (.int (0)))) [
      .asg (.slot 11) (.call 166 [(.loc 0), (.loc 3), (.lit (.int (0)))] [] [0, 1, 2]),
      .asg (.slot 12) (.call 156 [(.loc 11), (.comp [13, 7, 14, 15] (.tup [(.slot 13), (.slot 7), (.slot 14), (.slot 15)]) .val [(.loc 3)] [] (.loc 14))] [] [0, 1]),
      .expr (.meth .append (.loc 5) [(.tup [(.loc 2), (.ife (.or (.loc 12) (.cmp .eq (.loc 2) (.lit (.str [101, 110, 100, 115])))) (.loc 11) (.tup [(.lit (.str [110, 111, 116])), (.loc 11)]))])])] []],
  .for_ (.slot 1) .range [(.bin .add (.lit (.int (1))) (.call 113 [(.loc 0), (.lit (.int (2)))] [] [0, 1]))] [
    .expr (.meth .append (.loc 6) [(.tup [(.bin .add (.lit (.str [113])) (.blt .str1 [(.loc 1)])), (.ife (.cmp .eq (.call 113 [(.loc 0), (.lit (.int (2)))] [] [0, 1]) (.lit (.int (0)))) (.tup [(.lit (.str [121, 101, 115])), (.call 166 [(.loc 0), (.loc 3), (.lit (.int (0)))] [] [0, 1, 2])]) (.tup [(.lit (.str [116, 101, 108, 108, 115])), (.call 165 [(.loc 0), (.loc 3)] [] [0, 1])]))])])],
  .ret (.tup [(.blt .tuple [(.loc 3)]), (.blt .tuple [(.loc 4)]), (.blt .tuple [(.loc 5)]), (.blt .tuple [(.loc 6)])])]⟩
def D168 : Def := ⟨3, 3, [
  .ret (.tup [(.loc 0), (.tup [(.lit (.str [121, 101, 115]))]), (.tup [(.tup [(.tup [(.lit (.str [121, 101, 115]))]), (.tup [(.tup [(.loc 1), (.tup [(.lit (.str [112, 108, 117, 115])), (.tup [(.lit (.str [99, 111, 117, 110, 116])), (.loc 1)]), (.tup [(.lit (.str [110, 117, 109, 98, 101, 114])), (.loc 2)])])])])])])])]⟩
def D169 : Def := ⟨1, 9, [
  .ite (.cmp .eq (.loc 0) (.lit (.int (0)))) [
    .asg (.tup [(.slot 5), (.slot 6)]) (.tup [(.tup [(.lit (.str [108, 101, 115, 115])), (.tup [(.lit (.str [99, 111, 117, 110, 116])), (.lit (.int (0)))]), (.tup [(.lit (.str [110, 117, 109, 98, 101, 114])), (.lit (.int (2)))])]), (.tup [(.lit (.str [108, 101, 115, 115])), (.tup [(.lit (.str [110, 117, 109, 98, 101, 114])), (.lit (.int (0)))]), (.tup [(.lit (.str [99, 111, 117, 110, 116])), (.lit (.int (0)))])])]),
    .asg (.slot 2) (.tup [(.lit (.str [100, 49])), (.loc 6), (.tup [(.tup [(.tup [(.lit (.str [121, 101, 115]))]), (.tup [(.tup [(.lit (.int (0))), (.tup [(.lit (.str [109, 105, 110, 117, 115])), (.tup [(.lit (.str [99, 111, 117, 110, 116])), (.lit (.int (0)))]), (.tup [(.lit (.str [110, 117, 109, 98, 101, 114])), (.lit (.int (1)))])])])])])])]),
    .ret (.tup [(.tup [(.tup [(.lit (.str [114, 48])), (.lit (.int (2))), (.lit (.int (0))), (.lit (.str [104, 101, 108, 100]))])]), (.tup [(.bin .add (.bin .add (.slc (.call 168 [(.lit (.str [100, 48])), (.lit (.int (0))), (.lit (.int (1)))] [] [0, 1, 2]) (.lit .non) (.lit (.int (1)))) (.tup [(.loc 5)])) (.slc (.call 168 [(.lit (.str [100, 48])), (.lit (.int (0))), (.lit (.int (1)))] [] [0, 1, 2]) (.lit (.int (2))) (.lit .non))), (.loc 2)]), (.tup []), (.tup [(.tup [(.lit (.str [113, 48])), (.tup [(.lit (.str [116, 101, 108, 108, 115])), (.tup [(.lit (.str [99, 111, 117, 110, 116])), (.lit (.int (0)))])])])])])] [],
  .ite (.cmp .eq (.loc 0) (.lit (.int (1)))) [
    .asg (.slot 3) (.tup [(.tup [(.lit (.str [114, 48])), (.lit (.int (1))), (.lit (.int (0))), (.lit (.str [114, 111, 117, 110, 100]))]), (.tup [(.lit (.str [114, 49])), (.lit (.int (1))), (.lit (.int (0))), (.lit (.str [114, 111, 117, 110, 100]))])]),
    .ret (.tup [(.loc 3), (.tup [(.call 168 [(.lit (.str [100, 48])), (.lit (.int (0))), (.lit (.int (1)))] [] [0, 1, 2]), (.call 168 [(.lit (.str [100, 49])), (.lit (.int (1))), (.lit (.int (1)))] [] [0, 1, 2])]), (.tup []), (.tup [(.tup [(.lit (.str [113, 48])), (.tup [(.lit (.str [116, 101, 108, 108, 115])), (.tup [(.lit (.str [112, 108, 117, 115])), (.tup [(.lit (.str [99, 111, 117, 110, 116])), (.lit (.int (0)))]), (.tup [(.lit (.str [99, 111, 117, 110, 116])), (.lit (.int (1)))])])])])])])] [],
  .ite (.cmp .eq (.loc 0) (.lit (.int (2)))) [
    .ret (.tup [(.tup [(.tup [(.lit (.str [114, 48])), (.lit (.int (2))), (.lit (.int (0))), (.lit (.str [114, 111, 117, 110, 100]))])]), (.tup [(.call 168 [(.lit (.str [100, 48])), (.lit (.int (0))), (.lit (.int (1)))] [] [0, 1, 2]), (.call 168 [(.lit (.str [100, 49])), (.lit (.int (0))), (.lit (.int (2)))] [] [0, 1, 2])]), (.tup []), (.tup [(.tup [(.lit (.str [113, 48])), (.tup [(.lit (.str [121, 101, 115])), (.tup [(.lit (.str [115, 97, 109, 101])), (.tup [(.lit (.str [99, 111, 117, 110, 116])), (.lit (.int (0)))]), (.tup [(.lit (.str [110, 117, 109, 98, 101, 114])), (.lit (.int (0)))])])])])])])] [],
  .ite (.cmp .eq (.loc 0) (.lit (.int (3)))) [
    .asg (.slot 4) (.tup [(.lit (.str [100, 50])), (.tup [(.lit (.str [108, 101, 115, 115])), (.tup [(.lit (.str [99, 111, 117, 110, 116])), (.lit (.int (0)))]), (.tup [(.lit (.str [110, 117, 109, 98, 101, 114])), (.lit (.int (0)))])]), (.tup [])]),
    .ret (.tup [(.tup [(.tup [(.lit (.str [114, 48])), (.lit (.int (1))), (.lit (.int (0))), (.lit (.str [114, 111, 117, 110, 100]))])]), (.tup [(.call 168 [(.lit (.str [100, 48])), (.lit (.int (0))), (.lit (.int (1)))] [] [0, 1, 2]), (.call 168 [(.lit (.str [100, 49])), (.lit (.int (0))), (.lit (.int (3)))] [] [0, 1, 2]), (.loc 4), (.tup [(.lit (.str [100, 51])), (.tup [(.lit (.str [121, 101, 115]))]), (.tup [])])]), (.tup []), (.tup [(.tup [(.lit (.str [113, 48])), (.tup [(.lit (.str [116, 101, 108, 108, 115])), (.tup [(.lit (.str [99, 111, 117, 110, 116])), (.lit (.int (0)))])])])])])] [],
  .ite (.cmp .eq (.loc 0) (.lit (.int (5)))) [
    .asg (.tup [(.slot 3), (.slot 7)]) (.tup [(.blt .tuple [(.comp [8] (.slot 8) .range [(.lit (.int (3)))] [] (.tup [(.bin .add (.lit (.str [114])) (.blt .str1 [(.loc 8)])), (.lit (.int (1))), (.lit (.int (0))), (.lit (.str [114, 111, 117, 110, 100]))]))]), (.tup [(.lit (.str [112, 108, 117, 115])), (.tup [(.lit (.str [112, 108, 117, 115])), (.tup [(.lit (.str [99, 111, 117, 110, 116])), (.lit (.int (0)))]), (.tup [(.lit (.str [99, 111, 117, 110, 116])), (.lit (.int (1)))])]), (.tup [(.lit (.str [99, 111, 117, 110, 116])), (.lit (.int (2)))])])]),
    .ret (.tup [(.loc 3), (.blt .tuple [(.comp [8] (.slot 8) .range [(.lit (.int (3)))] [] (.call 168 [(.bin .add (.lit (.str [100])) (.blt .str1 [(.loc 8)])), (.loc 8), (.lit (.int (1)))] [] [0, 1, 2]))]), (.tup []), (.tup [(.tup [(.lit (.str [113, 48])), (.tup [(.lit (.str [116, 101, 108, 108, 115])), (.loc 7)])])])])] [],
  .asg (.slot 1) (.tup [(.tup [(.lit (.str [101, 110, 100, 115])), (.tup [(.lit (.str [115, 97, 109, 101])), (.tup [(.lit (.str [99, 111, 117, 110, 116])), (.lit (.int (0)))]), (.tup [(.lit (.str [110, 117, 109, 98, 101, 114])), (.lit (.int (0)))])])]), (.tup [(.lit (.str [97, 108, 119, 97, 121, 115])), (.tup [(.lit (.str [108, 101, 115, 115])), (.tup [(.lit (.str [99, 111, 117, 110, 116])), (.lit (.int (1)))]), (.tup [(.lit (.str [110, 117, 109, 98, 101, 114])), (.lit (.int (2)))])])])]),
  .ret (.tup [(.tup [(.tup [(.lit (.str [114, 48])), (.lit (.int (1))), (.lit (.int (0))), (.lit (.str [114, 111, 117, 110, 100]))]), (.tup [(.lit (.str [114, 49])), (.lit (.int (2))), (.lit (.int (0))), (.lit (.str [104, 101, 108, 100]))])]), (.tup [(.call 168 [(.lit (.str [100, 48])), (.lit (.int (0))), (.lit (.int (1)))] [] [0, 1, 2]), (.call 168 [(.lit (.str [100, 49])), (.lit (.int (1))), (.lit (.int (1)))] [] [0, 1, 2])]), (.loc 1), (.tup [(.tup [(.lit (.str [113, 48])), (.tup [(.lit (.str [116, 101, 108, 108, 115])), (.tup [(.lit (.str [99, 111, 117, 110, 116])), (.lit (.int (1)))])])])])])]⟩
def D170 : Def := ⟨2, 5, [
  .for_ (.slot 2) .range [(.lit (.int (6)))] [
    .asg (.slot 3) (.ife (.cmp .gt (.call 113 [(.loc 0), (.lit (.int (3)))] [] [0, 1]) (.lit (.int (0)))) (.call 167 [(.loc 0)] [] [0]) (.call 169 [(.call 113 [(.loc 0), (.lit (.int (5)))] [] [0, 1])] [] [0])),
    .asg (.slot 4) (.call 164 [(.loc 3)] [] [0]),
    .ite (.and (.cmp .isnt (.loc 4) (.lit .non)) (.chn .le .le (.lit (.int (2))) (.blt .len [(.idx (.loc 4) (.lit (.int (0))))]) (.loc 1))) [
      .ret (.loc 3)] []],
  .ret (.call 169 [(.ife (.cmp .gt (.loc 1) (.lit (.int (3)))) (.call 113 [(.loc 0), (.lit (.int (4)))] [] [0, 1]) (.lit (.int (2))))] [] [0])]⟩
def D171 : Def := ⟨2, 8, [
  .asg (.tup [(.slot 3), (.slot 4)]) (.tup [(.lst [(.tup [])]), (.lst [(.tup [])])]),
  .for_ (.slot 2) .range [(.loc 1)] [
    .asg (.slot 5) (.lst []),
    .for_ (.slot 6) .val [(.loc 4)] [
      .expr (.meth .extend (.loc 5) [(.comp [7] (.slot 7) .range [(.loc 0)] [] (.bin .add (.loc 6) (.tup [(.loc 7)])))])],
    .asg (.slot 4) (.loc 5),
    .asg (.slot 3) (.bin .add (.loc 3) (.loc 4))],
  .ret (.loc 3)]⟩
def D172 : Def := ⟨3, 4, [
  .for_ (.slot 3) .val [(.loc 2)] [
    .asg (.slot 1) (.ife (.cmp .is (.loc 1) (.lit .non)) (.lit .non) (.idx (.idx (.idx (.loc 0) (.lit (.int (0)))) (.loc 1)) (.loc 3)))],
  .ret (.loc 1)]⟩
def D173 : Def := ⟨3, 4, [
  .asg (.slot 3) (.call 172 [(.loc 0), (.loc 1), (.loc 2)] [] [0, 1, 2]),
  .ret (.ife (.cmp .is (.loc 3) (.lit .non)) (.lit .non) (.idx (.idx (.loc 0) (.lit (.int (2)))) (.loc 3)))]⟩
def D174 : Def := ⟨1, 15, [
  .for_ (.slot 1) .range [(.blt .max2 [(.lit (.int (3))), (.blt .min2 [(.blt .len [(.loc 0)]), (.lit (.int (7)))])])] [
    .asg (.slot 2) (.call 112 [(.loc 0), (.loc 1)] [] [0, 1]),
    .asg (.slot 3) (.call 170 [(.loc 2), (.lit (.int (5)))] [] [0, 1]),
    .asg (.slot 4) (.call 164 [(.loc 3)] [] [0]),
    .asg (.tup [(.slot 8), (.slot 9)]) (.tup [(.blt .len [(.idx (.loc 4) (.lit (.int (0))))]), (.call 171 [(.blt .len [(.idx (.loc 3) (.lit (.int (1))))]), (.blt .len [(.idx (.loc 4) (.lit (.int (0))))])] [] [0, 1])]),
    .asg (.slot 5) (.call 154 [(.loc 4)] [] [0]),
    .for_ (.slot 6) .range [(.loc 8)] [
      .ite (.not (.call 19 [(.idx (.loc 5) (.loc 6)), (.idx (.comp [13] (.slot 13) .val [(.loc 9)] [(.cmp .eq (.call 172 [(.loc 4), (.lit (.int (0))), (.loc 13)] [] [0, 1, 2]) (.loc 6))] (.loc 13)) (.lit (.int (0))))] [] [0, 1])) [
        .ret (.lit (.bl false))] [],
      .for_ (.slot 10) .val [(.bin .add (.blt .lstRange [(.loc 8)]) (.lst [(.lit .non)]))] [
        .asg (.slot 12) (.comp [13] (.slot 13) .val [(.loc 9)] [(.cmp .ne (.call 173 [(.loc 4), (.loc 6), (.loc 13)] [] [0, 1, 2]) (.call 173 [(.loc 4), (.loc 10), (.loc 13)] [] [0, 1, 2]))] (.loc 13)),
        .ite (.or (.not (.call 19 [(.call 153 [(.loc 4), (.loc 6), (.loc 10)] [] [0, 1, 2]), (.ife (.cmp .ne (.loc 12) (.lst [])) (.idx (.loc 12) (.lit (.int (0)))) (.lit .non))] [] [0, 1])) (.cmp .ne (.cmp .eq (.loc 12) (.lst [])) (.cmp .eq (.loc 6) (.loc 10)))) [
          .ret (.lit (.bl false))] []]],
    .for_ (.slot 7) .range [(.lit (.int (6)))] [
      .asg (.slot 11) (.blt .tuple [(.comp [14] (.slot 14) .range [(.call 113 [(.loc 2), (.lit (.int (8)))] [] [0, 1])] [] (.call 113 [(.loc 2), (.blt .len [(.idx (.loc 3) (.lit (.int (1))))])] [] [0, 1]))]),
      .ite (.or (.not (.call 19 [(.call 150 [(.loc 4), (.loc 11)] [] [0, 1]), (.call 172 [(.loc 4), (.lit (.int (0))), (.loc 11)] [] [0, 1, 2])] [] [0, 1])) (.not (.call 19 [(.call 151 [(.loc 4), (.loc 11)] [] [0, 1]), (.call 173 [(.loc 4), (.lit (.int (0))), (.loc 11)] [] [0, 1, 2])] [] [0, 1]))) [
        .ret (.lit (.bl false))] []]],
  .ret (.cmp .is (.call 153 [(.tup [(.tup [(.tup [(.lit (.int (0)))])]), (.tup [(.lit (.bl true))]), (.tup [(.tup [(.lit (.int (0)))])])]), (.lit .non), (.lit .non)] [] [0, 1, 2]) (.lit .non))]⟩
def P : Prog := [(150, D150), (151, D151), (152, D152), (153, D153), (154, D154), (112, D112), (113, D113), (18, D18), (19, D19), (138, D138), (155, D155), (156, D156), (157, D157), (158, D158), (159, D159), (160, D160), (161, D161), (162, D162), (163, D163), (47, D47), (164, D164), (165, D165), (166, D166), (167, D167), (168, D168), (169, D169), (170, D170), (171, D171), (172, D172), (173, D173), (174, D174)]
end M11

end
section
set_option Elab.async false
set_option linter.all false
set_option autoImplicit false
namespace M11
open M
theorem take_spec {n : Nat} {h : Hm} {a : Nat} {b0 b1 many : Int} {Q : VQ} {E : XP} (hb : getM h a = some [.int b0, .int b1]) (hm : 0 < many) (hm2 : many < 1000000) (k : ∀ d c0 c1 : Int, 0 ≤ d → d < many → Q (.int d) (h.set a (.lst [.int c0, .int c1]))) : FW P (n + 1) 113 [.ref a, .int many] h Q E := by
  have ha := getM_at' hb
  have ha2 : ∀ xs : List D, (h.set a (.lst xs))[a]? = some (.lst xs) := fun xs => by
    have : a < h.length := (List.getElem?_eq_some_iff.mp ha).1
    rw [List.getElem?_set_self this]
  refine fw_open (d := D113) rfl rfl ?_
  unfold D113
  have m1 : -LINT < (39373 : Int) ∧ (39373 : Int) < LINT := by decide
  have m2 : -LINT < (40692 : Int) ∧ (40692 : Int) < LINT := by decide
  have m3 : -LINT < (2147483629 : Int) ∧ (2147483629 : Int) < LINT := by decide
  simp only [wpSs, wpS, wpE, wpEs, wpP, List.map, List.replicate, List.cons_append, List.nil_append, List.append_nil, List.getElem?_cons_zero, List.getElem?_cons_succ, jn, ws_some, idx_lst ha, at0, at1, c_gt, t_bl, b_int, o_add, List.length_cons, List.length_nil, List.set, o_mulR m1, o_mulR m2, o_mulR m3, o_mod hm, o_fdiv hm (by omega), o_mod (by decide : (0 : Int) < 2147483647), o_mod (by decide : (0 : Int) < 2147483563), o_fdiv (by decide : (0 : Int) < 8273) (by decide), s_lst ha ix00, s_lst ha ix01, idx_lst (ha2 _)]
  by_cases c : (0 : Int) < b0
  · simp only [c, decide_true, if_true]
    refine ⟨by simp, ?_⟩
    exact k _ _ _ (Int.emod_nonneg _ (by omega)) (Int.emod_lt_of_pos _ hm)
  · simp only [c, decide_false, Bool.false_eq_true, if_false]
    refine ⟨by simp, ?_⟩
    exact k _ _ _ (Int.emod_nonneg _ (by omega)) (Int.emod_lt_of_pos _ hm)
theorem pick_spec {n : Nat} {h : Hm} {a : Nat} {b0 b1 : Int} {some : D} {xs : List D} {Q : VQ} {E : XP} (hb : getM h a = Option.some [.int b0, .int b1]) (hs : some = .tup xs ∨ ∃ r, some = .ref r ∧ r ≠ a ∧ h[r]? = Option.some (.lst xs)) (h0 : xs ≠ []) (hl : xs.length < 1000000) (k : ∀ d ∈ xs, ∀ c0 c1 : Int, Q d (h.set a (.lst [.int c0, .int c1]))) : FW P (n + 2) 18 [.ref a, some] h Q E := by
  have hx : 0 < xs.length := List.length_pos_iff.mpr h0
  refine fw_open (d := D18) rfl rfl ?_
  unfold D18
  have fin : ∀ d c0 c1 : Int, 0 ≤ d → d < xs.length → ∀ x, atI xs d = Option.some x → Q x (h.set a (.lst [.int c0, .int c1])) := fun d c0 c1 h1 h2 x hx => by
    have : xs[d.toNat]? = Option.some xs[d.toNat] := List.getElem?_eq_getElem (by omega)
    rw [at_pos h1 this] at hx
    cases hx
    exact k _ (List.getElem_mem _) c0 c1
  have some_at : ∀ d : Int, 0 ≤ d → d < xs.length → ∃ x, atI xs d = Option.some x := fun d h1 h2 => ⟨xs[d.toNat]'(by omega), at_pos h1 (List.getElem?_eq_getElem (by omega))⟩
  rcases hs with rfl | ⟨r, rfl, hr, e⟩
  · simp only [wpSs, wpS, wpE, wpEs, wpCs, wpP, wpPs, List.map, List.replicate, List.cons_append, List.nil_append, List.append_nil, List.getElem?_cons_zero, List.getElem?_cons_succ, jn, ws_some, List.length_cons, List.length_nil, List.set, at0, at1, at2, idx_tup, c_gt, c_lt, c_le, c_ge, c_is, c_isnt, c_eqI, c_neI, c_eqS, c_neS, c_eqB, c_neB, isS, isNonD, isBlD, t_bl, b_int, b_abs, b_max2, b_min2, b_lenT, o_add, o_sub, permD, Option.map_some]
    refine take_spec hb (by omega) (by omega) fun d c0 c1 h1 h2 => ?_
    obtain ⟨x, hx⟩ := some_at d h1 h2
    rw [idx_tup, hx]
    exact fin d c0 c1 h1 h2 x hx
  · simp only [wpSs, wpS, wpE, wpEs, wpCs, wpP, wpPs, List.map, List.replicate, List.cons_append, List.nil_append, List.append_nil, List.getElem?_cons_zero, List.getElem?_cons_succ, jn, ws_some, List.length_cons, List.length_nil, List.set, at0, at1, at2, idx_tup, c_gt, c_lt, c_le, c_ge, c_is, c_isnt, c_eqI, c_neI, c_eqS, c_neS, c_eqB, c_neB, isS, isNonD, isBlD, t_bl, b_int, b_abs, b_max2, b_min2, b_lenT, o_add, o_sub, permD, Option.map_some, b_lenL e]
    refine take_spec hb (by omega) (by omega) fun d c0 c1 h1 h2 => ?_
    have e2 : (h.set a (.lst [.int c0, .int c1]))[r]? = Option.some (.lst xs) := by rw [List.getElem?_set_ne (Ne.symm hr)]; exact e
    obtain ⟨x, hx⟩ := some_at d h1 h2
    rw [idx_lst e2, hx]
    exact fin d c0 c1 h1 h2 x hx
theorem box_spec {n : Nat} {h : Hm} {c : Cell} {ns : List Int} {k : Int} {Q : VQ} {E : XP} (hc : h[0]? = some c) (cc : c = .lst (ns.map D.int) ∨ c = .ro (ns.map D.int)) (h0 : 0 ≤ k) (q : ∀ b0 b1 : Int, Q (.ref h.length) (h ++ [.lst [.int b0, .int b1]])) : FW P (n + 1) 112 [.ref 0, .int k] h Q E := by
  refine fw_open (d := D112) rfl rfl ?_
  unfold D112
  have m1 : -LINT < (27011 : Int) ∧ (27011 : Int) < LINT := by decide
  have m2 : -LINT < (96137 : Int) ∧ (96137 : Int) < LINT := by decide
  have m3 : -LINT < (54250027 : Int) ∧ (54250027 : Int) < LINT := by decide
  have m4 : -LINT < (8101 : Int) ∧ (8101 : Int) < LINT := by decide
  have p1 : (0 : Int) < 2147483563 := by decide
  simp only [wpSs, wpS, wpE, wpEs, wpCs, wpP, wpPs, List.map, List.replicate, List.cons_append, List.nil_append, List.append_nil, List.getElem?_cons_zero, List.getElem?_cons_succ, jn, ws_some, List.length_cons, List.length_nil, List.set, at0, at1, at2, idx_tup, c_gt, c_lt, c_le, c_ge, c_is, c_isnt, c_eqI, c_neI, c_eqS, c_neS, c_eqB, c_neB, isS, isNonD, isBlD, t_bl, b_int, b_abs, b_max2, b_min2, b_lenT, o_add, o_sub, permD, Option.map_some, o_mulL m1, b_lenC hc cc, List.length_map]
  refine ⟨by simp, ?_⟩
  by_cases c1 : k < (ns.length : Int)
  · simp only [wpSs, wpS, wpE, wpEs, wpCs, wpP, wpPs, List.map, List.replicate, List.cons_append, List.nil_append, List.append_nil, List.getElem?_cons_zero, List.getElem?_cons_succ, jn, ws_some, List.length_cons, List.length_nil, List.set, at0, at1, at2, idx_tup, c_gt, c_lt, c_le, c_ge, c_is, c_isnt, c_eqI, c_neI, c_eqS, c_neS, c_eqB, c_neB, isS, isNonD, isBlD, t_bl, b_int, b_abs, b_max2, b_min2, b_lenT, o_add, o_sub, permD, Option.map_some, c1, decide_true, if_true, idx_cell hc cc, at_ints h0 c1]
    refine ⟨by simp, ?_⟩
    simp only [wpSs, wpS, wpE, wpEs, wpCs, wpP, wpPs, List.map, List.replicate, List.cons_append, List.nil_append, List.append_nil, List.getElem?_cons_zero, List.getElem?_cons_succ, jn, ws_some, List.length_cons, List.length_nil, List.set, at0, at1, at2, idx_tup, c_gt, c_lt, c_le, c_ge, c_is, c_isnt, c_eqI, c_neI, c_eqS, c_neS, c_eqB, c_neB, isS, isNonD, isBlD, t_bl, b_int, b_abs, b_max2, b_min2, b_lenT, o_add, o_sub, permD, Option.map_some, o_pow10, o_mulR m3, o_mod p1, o_mulL m4]
    (repeat' split) <;> exact ⟨by simp, q _ _⟩
  · simp only [wpSs, wpS, wpE, wpEs, wpCs, wpP, wpPs, List.map, List.replicate, List.cons_append, List.nil_append, List.append_nil, List.getElem?_cons_zero, List.getElem?_cons_succ, jn, ws_some, List.length_cons, List.length_nil, List.set, at0, at1, at2, idx_tup, c_gt, c_lt, c_le, c_ge, c_is, c_isnt, c_eqI, c_neI, c_eqS, c_neS, c_eqB, c_neB, isS, isNonD, isBlD, t_bl, b_int, b_abs, b_max2, b_min2, b_lenT, o_add, o_sub, permD, Option.map_some, c1, decide_false, Bool.false_eq_true, if_false]
    by_cases c2 : (0 : Int) < ns.length
    · have c3 := Int.emod_nonneg k (by omega : (ns.length : Int) ≠ 0)
      have c4 := Int.emod_lt_of_pos k c2
      simp only [c2, decide_true, if_true, o_mod c2, idx_cell hc cc, at_ints c3 c4, wpSs, wpS, wpE, wpEs, wpCs, wpP, wpPs, List.map, List.replicate, List.cons_append, List.nil_append, List.append_nil, List.getElem?_cons_zero, List.getElem?_cons_succ, jn, ws_some, List.length_cons, List.length_nil, List.set, at0, at1, at2, idx_tup, c_gt, c_lt, c_le, c_ge, c_is, c_isnt, c_eqI, c_neI, c_eqS, c_neS, c_eqB, c_neB, isS, isNonD, isBlD, t_bl, b_int, b_abs, b_max2, b_min2, b_lenT, o_add, o_sub, permD, Option.map_some, o_mod p1, o_mulR m2]
      refine ⟨by simp, ?_⟩
      simp only [wpSs, wpS, wpE, wpEs, wpCs, wpP, wpPs, List.map, List.replicate, List.cons_append, List.nil_append, List.append_nil, List.getElem?_cons_zero, List.getElem?_cons_succ, jn, ws_some, List.length_cons, List.length_nil, List.set, at0, at1, at2, idx_tup, c_gt, c_lt, c_le, c_ge, c_is, c_isnt, c_eqI, c_neI, c_eqS, c_neS, c_eqB, c_neB, isS, isNonD, isBlD, t_bl, b_int, b_abs, b_max2, b_min2, b_lenT, o_add, o_sub, permD, Option.map_some, o_pow10, o_mulR m3, o_mod p1, o_mulL m4]
      (repeat' split) <;> exact ⟨by simp, q _ _⟩
    · simp only [c2, decide_false, Bool.false_eq_true, if_false]
      simp only [wpSs, wpS, wpE, wpEs, wpCs, wpP, wpPs, List.map, List.replicate, List.cons_append, List.nil_append, List.append_nil, List.getElem?_cons_zero, List.getElem?_cons_succ, jn, ws_some, List.length_cons, List.length_nil, List.set, at0, at1, at2, idx_tup, c_gt, c_lt, c_le, c_ge, c_is, c_isnt, c_eqI, c_neI, c_eqS, c_neS, c_eqB, c_neB, isS, isNonD, isBlD, t_bl, b_int, b_abs, b_max2, b_min2, b_lenT, o_add, o_sub, permD, Option.map_some, o_pow10, o_mulR m3, o_mod p1, o_mulL m4]
      (repeat' split) <;> exact ⟨by simp, q _ _⟩
theorem fm_congr {α β : Type} {f g : α → Option β} : ∀ {l : List α}, (∀ x ∈ l, f x = g x) → l.filterMap f = l.filterMap g
  | [], _ => rfl
  | x :: l, h => by
    rw [List.filterMap_cons, List.filterMap_cons, h x List.mem_cons_self, fm_congr fun y hy => h y (List.mem_cons_of_mem _ hy)]
theorem filterMap_map {α β γ : Type} (f : α → β) (g : β → Option γ) : ∀ l : List α, (l.map f).filterMap g = l.filterMap fun x => g (f x)
  | [] => rfl
  | x :: l => by rw [List.map_cons, List.filterMap_cons, List.filterMap_cons, filterMap_map f g l]
theorem filterMap_some {α β : Type} (f : α → β) : ∀ l : List α, l.filterMap (fun x => some (f x)) = l.map f
  | [] => rfl
  | x :: l => by rw [List.filterMap_cons, List.map_cons, filterMap_some f l]
theorem filterMap_if {α β : Type} (p : α → Bool) (f : α → β) : ∀ l : List α, l.filterMap (fun x => if p x = true then some (f x) else none) = (l.filter p).map f
  | [] => rfl
  | x :: l => by
    rw [List.filterMap_cons, List.filter_cons]
    cases p x with
    | true => simp [filterMap_if p f l]
    | false => simp [filterMap_if p f l]
theorem in_dict {h : Hm} {a : Nat} {kvs : List (D × D)} {x : D} (e : h[a]? = some (.dct kvs)) (hk : keyIn kvs x = true) : cmpS .notin x (.ref a) h = some (!(dget kvs x).isSome) := by
  simp [cmpS, inS, e, hk]
theorem ints_of : ∀ is : List Int, intsOf (is.map D.int) = some is
  | [] => rfl
  | i :: is => by rw [List.map_cons, intsOf, ints_of is]; rfl
theorem snap_ints {f : Nat → Option (List D)} : ∀ is : List Int, snapDs f (is.map D.int) = some (is.map D.int)
  | [] => rfl
  | i :: is => by rw [List.map_cons, snapDs, snap_ints is]; rfl
theorem ne_empty {h : Hm} {a b : Nat} {is : List Int} (e1 : h[a]? = some (.lst (is.map D.int))) (e2 : h[b]? = some (.lst [])) : cmpS .ne (.ref a) (.ref b) h = some (!decide (is = [])) := by
  have s1 : snap h (.ref a) = some (.lst (is.map D.int)) := by
    simp only [snap, snapD, snapN, getL, e1, snap_ints, Option.map_some]
  have s2 : snap h (.ref b) = some (.lst []) := by
    simp only [snap, snapD, snapN, getL, e2, snapDs, Option.map_some]
  have s3 : eqv h (.ref a) (.ref b) = some (decide (is = [])) := by
    simp only [eqv, s1, s2, dep, deps, (pure_ints is).2]
    rw [if_pos (by omega)]
    cases is <;> simp [eqD, eqDs]
  simp only [cmpS, s3, Option.map_some]
theorem eqDs_ints : ∀ a b : List Int, eqDs (a.map D.int) (b.map D.int) = decide (a = b)
  | [], [] => rfl
  | [], _ :: _ => rfl
  | _ :: _, [] => rfl
  | x :: a, y :: b => by
    rw [List.map_cons, List.map_cons, eqDs, eqDs_ints a b]
    simp only [eqD, List.cons.injEq]
    by_cases h : x = y <;> by_cases h2 : a = b <;> simp [h, h2]
theorem pre_iff {h h' : Hm} : h <+: h' ↔ h.length ≤ h'.length ∧ ∀ i, i < h.length → h'[i]? = h[i]? := by
  constructor
  · rintro ⟨t, rfl⟩
    exact ⟨by simp, fun i hi => List.getElem?_append_left hi⟩
  · rintro ⟨hl, he⟩
    rw [List.prefix_iff_eq_take]
    refine List.ext_getElem? fun i => ?_
    rw [List.getElem?_take]
    split
    · rename_i hi; exact (he i hi).symm
    · rename_i hi; exact List.getElem?_eq_none (by omega)
/-- only a cell behind h changes -/
theorem mx_pre {m : Nat} {h h1 h' : Hm} (p : h <+: h1) (hm : h.length ≤ m) (x : MX m h1 h') : h <+: h' := by
  obtain ⟨p1, p2⟩ := pre_iff.mp p
  exact pre_iff.mpr ⟨Nat.le_trans p1 x.len, fun i hi => (x.at_ i (by omega) (by omega)).trans (p2 i hi)⟩
def BX (h : Hm) (a : Nat) : Prop := ∃ b0 b1 : Int, h[a]? = some (.lst [.int b0, .int b1])
theorem BX.mx {m a : Nat} {h h' : Hm} (b : BX h a) (x : MX m h h') (hm : a ≠ m) : BX h' a := by
  obtain ⟨b0, b1, e⟩ := b
  exact ⟨b0, b1, x.cell e hm⟩
theorem BX.pre {a : Nat} {h h' : Hm} (b : BX h a) (x : h <+: h') : BX h' a := by
  obtain ⟨b0, b1, e⟩ := b
  exact ⟨b0, b1, pre_at x e⟩
theorem BX.set {a i : Nat} {h : Hm} (b : BX h a) (hi : i ≠ a) (c : Cell) : BX (h.set i c) a := by
  obtain ⟨b0, b1, e⟩ := b
  exact ⟨b0, b1, by rw [List.getElem?_set_ne hi]; exact e⟩
theorem BX.lt {a : Nat} {h : Hm} (b : BX h a) : a < h.length := by
  obtain ⟨b0, b1, e⟩ := b
  exact (List.getElem?_eq_some_iff.mp e).1
theorem take_bx {n : Nat} {h : Hm} {a : Nat} {many : Int} {Q : VQ} {E : XP} (hb : BX h a) (hm : 0 < many) (hm2 : many < 1000000) (k : ∀ (d : Int) h', 0 ≤ d → d < many → BX h' a → MX a h h' → Q (.int d) h') : FW P (n + 1) 113 [.ref a, .int many] h Q E := by
  obtain ⟨b0, b1, e⟩ := hb
  have em : getM h a = some [.int b0, .int b1] := by unfold getM; rw [e]
  exact take_spec em hm hm2 fun d c0 c1 h1 h2 => k d _ h1 h2 ⟨c0, c1, set_at e⟩ ((MX.refl a h).set _)
theorem pick_bx {n : Nat} {h : Hm} {a r : Nat} {xs : List D} {Q : VQ} {E : XP} (hb : BX h a) (hr : r ≠ a) (er : h[r]? = some (.lst xs)) (h0 : xs ≠ []) (hl : xs.length < 1000000) (k : ∀ d ∈ xs, ∀ h', BX h' a → MX a h h' → Q d h') : FW P (n + 2) 18 [.ref a, .ref r] h Q E := by
  obtain ⟨b0, b1, e⟩ := hb
  have em : getM h a = some [.int b0, .int b1] := by unfold getM; rw [e]
  exact pick_spec em (.inr ⟨r, rfl, hr, er⟩) h0 hl fun d hd c0 c1 => k d hd _ ⟨c0, c1, set_at e⟩ ((MX.refl a h).set _)
theorem eq_ints {h : Hm} {a b : Nat} {is js : List Int} (e1 : h[a]? = some (.lst (is.map D.int))) (e2 : h[b]? = some (.lst (js.map D.int))) : cmpS .eq (.ref a) (.ref b) h = some (decide (is = js)) := by
  have g1 : getL h a = some (is.map D.int) := by unfold getL; rw [e1]
  have g2 : getL h b = some (js.map D.int) := by unfold getL; rw [e2]
  have s1 : snap h (.ref a) = some (.lst (is.map D.int)) := by simp [snap, snapD, snapN, g1, snap_ints]
  have s2 : snap h (.ref b) = some (.lst (js.map D.int)) := by simp [snap, snapD, snapN, g2, snap_ints]
  obtain ⟨_, d1⟩ := pure_ints is
  obtain ⟨_, d2⟩ := pure_ints js
  simp only [cmpS, eqv, s1, s2, dep, d1, d2, eqD, eqDs_ints]
  rw [if_pos (by omega)]
theorem rep_ints (w : Int) : ∀ k : Nat, (List.replicate k [D.int w]).flatten = (List.replicate k w).map D.int
  | 0 => rfl
  | k + 1 => by rw [List.replicate_succ, List.replicate_succ, List.flatten_cons, rep_ints w k]; rfl
mutual
theorem snapD_pure (f : Nat → Option (List D)) : ∀ d : D, pureD d = true → snapD f d = some d
  | .non, _ => rfl
  | .bl _, _ => rfl
  | .int _, _ => rfl
  | .str _, _ => rfl
  | .tup xs, h => by rw [snapD, snapDs_pure f xs h]; rfl
  | .lst _, h => by cases h
  | .ref _, h => by cases h
theorem snapDs_pure (f : Nat → Option (List D)) : ∀ ds : List D, pureDs ds = true → snapDs f ds = some ds
  | [], _ => rfl
  | d :: ds, h => by
    simp only [pureDs, Bool.and_eq_true] at h
    simp only [snapDs, snapD_pure f d h.1, snapDs_pure f ds h.2]
end
theorem eqv_pure {h : Hm} {x y : D} (hx : pureD x = true) (hy : pureD y = true) (hd : dep x ≤ 60 ∨ dep y ≤ 60) : eqv h x y = some (eqD x y) := by
  have e1 : snap h x = some x := snapD_pure _ x hx
  have e2 : snap h y = some y := snapD_pure _ y hy
  simp only [eqv, e1, e2]
  rw [if_pos (by omega)]
theorem cut_mem {xs : List D} {lo hi : Option Int} {x : D} (h : x ∈ cutL xs lo hi) : x ∈ xs := List.mem_of_mem_drop (List.mem_of_mem_take h)
theorem cut_len {xs : List D} {lo hi : Option Int} : (cutL xs lo hi).length ≤ xs.length := by
  unfold cutL
  rw [List.length_take, List.length_drop]
  omega
theorem o_addT {h : Hm} {xs ys : List D} (hl : xs.length + ys.length ≤ LIM) : binS .add (.tup xs) (.tup ys) h = some (.tup (xs ++ ys), h) := by
  simp [binS, hl]
theorem slc_tup {h : Hm} {xs : List D} {o o' : Option Int} : slcS (.tup xs) o o' h = some (.tup (cutL xs o o'), h) := rfl
theorem optI_int {i : Int} : optI (.int i) = some (some i) := rfl
theorem optI_non : optI .non = some none := rfl
theorem o_addL {h : Hm} {a b : Nat} {xs ys : List D} (e1 : h[a]? = some (.lst xs)) (e2 : h[b]? = some (.lst ys)) (hl : xs.length + ys.length ≤ 1000) : binS .add (.ref a) (.ref b) h = some (.ref h.length, h ++ [.lst (xs ++ ys)]) := by
  have g1 : getM h a = some xs := by unfold getM; rw [e1]
  have g2 : getM h b = some ys := by unfold getM; rw [e2]
  simp only [binS, g1, g2]
  rw [if_pos (by unfold LIM; omega)]
  rfl
def optD : Option Nat → D
  | none => .non
  | some t => .int t
def stepD (r : List (Option Nat)) : D := .tup (r.map optD)
def stepsD (s : List (List (Option Nat))) : D := .tup (s.map stepD)
theorem comp_enc {α : Type} {g : List (Nat × Cell)} {h0 : Hm} {step : D → Hm → (Option D → Hm → Prop) → Prop} {Q : Hm → Prop} (enc : α → D) (f : α → Option D) (st : still g h0) {xs : List α} (hl : xs.length ≤ LIM)
    (hs : ∀ x ∈ xs, ∀ (h : Hm) (R : Option D → Hm → Prop), h0 <+: h → (∀ h', h <+: h' → R (f x) h') → step (enc x) h R) (q : ∀ h', h0 <+: h' → h'[h0.length]? = some (.lst (xs.filterMap f)) → Q h') : compL g h0.length step Q (xs.map enc) (h0 ++ [.lst []]) := by
  refine comp_inv (fun l acc hh => ∃ done rest, xs = done ++ rest ∧ l = rest.map enc ∧ acc = done.filterMap f ∧ h0 <+: hh ∧ hh[h0.length]? = some (.lst acc))
    (fun l acc hh ⟨_, _, _, _, _, pp, _⟩ => still_pre st pp) (fun x l acc hh R' hi k1 k2 => ?_) (fun acc hh hi => ?_) _ _ _ ⟨[], xs, rfl, rfl, rfl, pre_one, last_at⟩
  · obtain ⟨done, rest, hp, hx, rfl, pp, ca⟩ := hi
    cases rest with
    | nil => cases hx
    | cons p rest =>
      rw [List.map_cons] at hx
      cases hx
      refine hs p (by rw [hp]; simp) hh _ pp fun h' p' => ?_
      have ca' := pre_at p' ca
      cases hf : f p with
      | none => exact k2 h' ⟨done ++ [p], rest, by rw [hp]; simp, rfl, by rw [List.filterMap_append]; simp [hf], pp.trans p', ca'⟩
      | some y =>
        refine k1 _ h' ca' (by
          have h1 := List.length_filterMap_le f done
          have := congrArg List.length hp
          rw [List.length_append, List.length_cons] at this
          omega) ⟨done ++ [p], rest, by rw [hp]; simp, rfl, by rw [List.filterMap_append]; simp [hf], pre_set (pp.trans p') (Nat.le_refl _) _, set_at ca'⟩
  · obtain ⟨done, rest, hp, hx, rfl, pp, ca⟩ := hi
    have hr0 : rest = [] := List.map_eq_nil_iff.mp hx.symm
    subst hr0
    rw [List.append_nil] at hp
    rw [← hp] at ca
    exact q hh pp ca
def natsD (l : List Nat) : List D := l.map fun (k : Nat) => D.int (k : Int)
theorem nats_map (l : List Nat) : natsD l = (l.map fun (k : Nat) => (k : Int)).map D.int := by
  unfold natsD
  rw [List.map_map]
  rfl
theorem snap_nats {f : Nat → Option (List D)} (l : List Nat) : snapDs f (natsD l) = some (natsD l) := by
  rw [nats_map]; exact snap_ints _
theorem deps_nats (l : List Nat) : deps (natsD l) = 0 := by
  rw [nats_map]; exact (pure_ints _).2
def inO (g : List Nat) : Option Nat → Bool
  | none => false
  | some t => decide (t ∈ g)
theorem any_opt (g : List Nat) (o : Option Nat) : ((natsD g).any fun b => eqD b (optD o)) = inO g o := by
  cases o with
  | none =>
    unfold natsD
    rw [List.any_map]
    show g.any _ = false
    rw [List.any_eq_false]
    intro x _
    simp [optD, eqD]
  | some t =>
    induction g with
    | nil => rfl
    | cons x g ih =>
      unfold natsD at ih ⊢
      rw [List.map_cons, List.any_cons, ih]
      by_cases h : t = x
      · subst h; simp [eqD, optD, inO]
      · have h2 : ¬ (x : Int) = (t : Int) := by omega
        simp [eqD, optD, inO, h, h2]
theorem isin_opt {h : Hm} {a : Nat} {g : List Nat} (e : h[a]? = some (.lst (natsD g))) (o : Option Nat) : cmpS .isin (optD o) (.ref a) h = some (inO g o) := by
  have e1 : snap h (optD o) = some (optD o) := snapD_pure _ _ (by cases o <;> rfl)
  simp only [cmpS, inS, e, anyEq, e1, snap_nats, deps_nats]
  rw [if_pos (by omega), any_opt]
theorem isin_nat {h : Hm} {a : Nat} {g : List Nat} (e : h[a]? = some (.lst (natsD g))) (t : Nat) : cmpS .isin (.int (t : Int)) (.ref a) h = some (decide (t ∈ g)) := isin_opt e (some t)
theorem notin_nat {h : Hm} {a : Nat} {g : List Nat} (e : h[a]? = some (.lst (natsD g))) (t : Nat) : cmpS .notin (.int (t : Int)) (.ref a) h = some (!decide (t ∈ g)) := by
  have := isin_nat e t
  simp only [cmpS] at this ⊢
  rw [this]; rfl
def good0 (n : Nat) (ends : List Bool) : List Nat := (List.range n).filter fun b => ends.getD b false
def goodN (S : List (List (Option Nat))) (g : List Nat) : List Nat := (List.range S.length).filter fun b => decide (b ∈ g) || (S.getD b []).any (inO g)
def goodI (S : List (List (Option Nat))) (ends : List Bool) : Nat → List Nat
  | 0 => good0 S.length ends
  | i + 1 => goodN S (goodI S ends i)
theorem it_enum {h : Hm} {a : Nat} {xs : List D} (e : h[a]? = some (.lst xs)) : iterS .enum [.ref a] h = some (enumD xs, [(a, .lst xs)]) := by simp [iterS, getL, leanOn, e]
theorem range_map (n : Nat) : rngD 0 n = (List.range n).map fun (k : Nat) => D.int (k : Int) := by
  unfold rngD
  refine List.map_congr_left fun k _ => ?_
  rw [Int.zero_add]
theorem enum_map (xs : List D) : enumD xs = (List.range xs.length).map fun (k : Nat) => D.tup [.int (k : Int), xs.getD k .non] := by
  unfold enumD
  refine List.ext_getElem (by simp) fun i h1 h2 => ?_
  simp only [List.getElem_map, List.getElem_zipIdx, List.getElem_range, Nat.zero_add]
  have hi : i < xs.length := by simpa using h1
  rw [List.getD_eq_getElem?_getD, List.getElem?_eq_getElem hi]
  rfl
theorem s_at {h : Hm} {a : Nat} {S : List (List (Option Nat))} (e : h[a]? = some (.lst (S.map stepD))) {b : Nat} (hb : b < S.length) : idxS (.ref a) (.int (b : Int)) h = some (stepD (S.getD b [])) := by
  rw [idx_lst e]
  refine at_nat ?_
  rw [List.getElem?_map, List.getElem?_eq_getElem hb, List.getD_eq_getElem?_getD, List.getElem?_eq_getElem hb]
  rfl
theorem good_spec {S : List (List (Option Nat))} {ends : List Bool} (hl : S.length ≤ 100) (he : ends.length = S.length) (hw : ∀ r ∈ S, r.length ≤ 100) {N : Nat} {h : Hm} {a b : Nat} {Q : VQ} {E : XP} (ea : h[a]? = some (.lst (S.map stepD))) (eb : h[b]? = some (.lst (ends.map D.bl)))
    (k : ∀ r h', h <+: h' → h'[r]? = some (.lst (natsD (goodI S ends S.length))) → Q (.ref r) h') : FW P (N + 1) 47 [.ref a, .ref b] h Q E := by
  refine fw_open (d := D47) rfl rfl ?_
  unfold D47
  simp only [wpSs, wpS, wpE, wpEs, wpCs, wpP, wpPs, List.map, List.replicate, List.cons_append, List.nil_append, List.append_nil, List.getElem?_cons_zero, List.getElem?_cons_succ, jn, ws_some, List.length_cons, List.length_nil, List.set, at0, at1, at2, idx_tup, c_gt, c_lt, c_le, c_ge, c_is, c_isnt, c_eqI, c_neI, c_eqS, c_neS, c_eqB, c_neB, isS, isNonD, isBlD, t_bl, b_int, b_abs, b_max2, b_min2, b_lenT, o_add, o_sub, permD, Option.map_some]
  rw [it_enum eb]
  simp only [ws_some]
  rw [enum_map]
  refine comp_enc (xs := List.range (ends.map D.bl).length) _ (fun (k : Nat) => if ends.getD k false = true then some (D.int (k : Int)) else none) (still_one eb) (by simp; unfold LIM; omega) (fun x hx h1 R p1 kk => ?_) fun h1 p1 e1 => ?_
  · have hx' : x < ends.length := by simpa using hx
    have kk := kk h1 (List.prefix_refl _)
    have e : (ends.map D.bl).getD x .non = .bl (ends.getD x false) := by
      rw [List.getD_eq_getElem?_getD, List.getElem?_map, List.getElem?_eq_getElem hx', List.getD_eq_getElem?_getD, List.getElem?_eq_getElem hx']
      rfl
    rw [e]
    simp only [wpSs, wpS, wpE, wpEs, wpCs, wpP, wpPs, List.map, List.replicate, List.cons_append, List.nil_append, List.append_nil, List.getElem?_cons_zero, List.getElem?_cons_succ, jn, ws_some, List.length_cons, List.length_nil, List.set, at0, at1, at2, idx_tup, c_gt, c_lt, c_le, c_ge, c_is, c_isnt, c_eqI, c_neI, c_eqS, c_neS, c_eqB, c_neB, isS, isNonD, isBlD, t_bl, b_int, b_abs, b_max2, b_min2, b_lenT, o_add, o_sub, permD, Option.map_some, wipeE]
    refine ⟨by simp, by simp, ?_⟩
    cases hd : ends.getD x false with
    | true => simp only [hd, if_true] at kk ⊢; exact kk
    | false => simp only [hd, Bool.false_eq_true, if_false] at kk ⊢; exact kk
  · refine ⟨by simp, ?_⟩
    have e2 : (List.range (ends.map D.bl).length).filterMap (fun (k : Nat) => if ends.getD k false = true then some (D.int (k : Int)) else none) = natsD (goodI S ends 0) := by
      rw [List.length_map, he]
      exact filterMap_if (fun k => ends.getD k false) (fun (k : Nat) => D.int (k : Int)) _
    rw [e2] at e1
    rw [b_lenL (pre_at p1 ea)]
    simp only [ws_some, List.length_map]
    rw [it_range (by omega) (by omega)]
    simp only [ws_some, Int.toNat_natCast]
    refine forL_inv (fun l env h' => ∃ (j r : Nat) (e3 e4 e5 e6 : Option D), l = (rngD 0 S.length).drop j ∧ j ≤ S.length ∧ h <+: h' ∧ h'[r]? = some (.lst (natsD (goodI S ends j))) ∧ env = [some (.ref a), some (.ref b), some (.ref r), e3, e4, e5, e6])
      (fun _ _ _ _ => still_nil) (fun x l env h' R hi kk => ?_) (fun env h' hi => ?_) _ _ _ ⟨0, h.length, none, none, none, none, rfl, by omega, p1, e1, rfl⟩
    · obtain ⟨j, r, e3, e4, e5, e6, hj, hjl, ph, er, rfl⟩ := hi
      have hjn : j < S.length := by
        rcases Nat.lt_or_ge j S.length with z | z
        · exact z
        · rw [rng_end z] at hj; cases hj
      rw [rng_drop hjn] at hj
      cases hj
      simp only [wpSs, wpS, wpE, wpEs, wpCs, wpP, wpPs, List.map, List.replicate, List.cons_append, List.nil_append, List.append_nil, List.getElem?_cons_zero, List.getElem?_cons_succ, jn, ws_some, List.length_cons, List.length_nil, List.set, at0, at1, at2, idx_tup, c_gt, c_lt, c_le, c_ge, c_is, c_isnt, c_eqI, c_neI, c_eqS, c_neS, c_eqB, c_neB, isS, isNonD, isBlD, t_bl, b_int, b_abs, b_max2, b_min2, b_lenT, o_add, o_sub, permD, Option.map_some]
      refine ⟨by simp, ?_⟩
      rw [b_lenL (pre_at ph ea)]
      simp only [ws_some, List.length_map]
      rw [it_range (by omega) (by omega)]
      simp only [ws_some, Int.toNat_natCast]
      rw [range_map]
      refine comp_enc (xs := List.range S.length) (fun (k : Nat) => D.int (k : Int)) (fun (k : Nat) => if (decide (k ∈ goodI S ends j) || (S.getD k []).any (inO (goodI S ends j))) = true then some (D.int (k : Int)) else none) still_nil (by simp; unfold LIM; omega) (fun x hx h2 R' p2 kk2 => ?_) fun h2 p2 e2 => ?_
      · have hx' : x < S.length := List.mem_range.mp hx
        have er2 := pre_at p2 er
        simp only [wpSs, wpS, wpE, wpEs, wpCs, wpP, wpPs, List.map, List.replicate, List.cons_append, List.nil_append, List.append_nil, List.getElem?_cons_zero, List.getElem?_cons_succ, jn, ws_some, List.length_cons, List.length_nil, List.set, at0, at1, at2, idx_tup, c_gt, c_lt, c_le, c_ge, c_is, c_isnt, c_eqI, c_neI, c_eqS, c_neS, c_eqB, c_neB, isS, isNonD, isBlD, t_bl, b_int, b_abs, b_max2, b_min2, b_lenT, o_add, o_sub, permD, Option.map_some, wipeE]
        refine ⟨by simp, ?_⟩
        rw [isin_nat er2]
        simp only [ws_some, t_bl]
        by_cases c : x ∈ goodI S ends j
        · have := kk2 h2 (List.prefix_refl _)
          simp only [c, decide_true, Bool.true_or, if_true] at this ⊢
          exact this
        · simp only [c, decide_false, Bool.false_eq_true, if_false, Bool.false_or] at kk2 ⊢
          rw [s_at (pre_at (ph.trans p2) ea) hx']
          simp only [ws_some, stepD, it_tup]
          have hrow : (S.getD x []).length ≤ 100 := by
            rw [List.getD_eq_getElem?_getD, List.getElem?_eq_getElem hx']
            exact hw _ (List.getElem_mem hx')
          refine comp_enc (xs := S.getD x []) optD (fun o => if inO (goodI S ends j) o = true then some (.int 1) else none) still_nil (by unfold LIM; omega) (fun o ho h3 R3 p3 kk3 => ?_) fun h3 p3 e3 => ?_
          · have kk3 := kk3 h3 (List.prefix_refl _)
            refine ⟨by simp, ?_⟩
            rw [isin_opt (pre_at p3 er2)]
            simp only [ws_some, t_bl]
            cases hd : inO (goodI S ends j) o with
            | true => simp only [hd, if_true] at kk3 ⊢; exact kk3
            | false => simp only [hd, Bool.false_eq_true, if_false] at kk3 ⊢; exact kk3
          · have e4 : (S.getD x []).filterMap (fun o => if inO (goodI S ends j) o = true then some (D.int 1) else none) = (((S.getD x []).filter (inO (goodI S ends j))).map fun _ => (1 : Int)).map D.int := by
              rw [List.map_map]
              exact filterMap_if (inO (goodI S ends j)) (fun _ => D.int 1) _
            rw [e4] at e3
            rw [ne_empty (pre_at pre_one e3) last_at]
            simp only [ws_some, t_bl]
            have e5 : (!decide ((((S.getD x []).filter (inO (goodI S ends j))).map fun _ => (1 : Int)) = [])) = (S.getD x []).any (inO (goodI S ends j)) := by
              rw [Bool.eq_iff_iff, Bool.not_eq_true', decide_eq_false_iff_not, List.map_eq_nil_iff, List.filter_eq_nil_iff, List.any_eq_true]
              constructor
              · intro hh
                exact Classical.byContradiction fun z => hh fun y hy hz => z ⟨y, hy, hz⟩
              · rintro ⟨y, hy, hz⟩ hh
                exact hh y hy hz
            rw [e5]
            have kk2 := kk2 (h3 ++ [.lst []]) (p3.trans pre_one)
            cases hd : (S.getD x []).any (inO (goodI S ends j)) with
            | true => simp only [hd, if_true] at kk2 ⊢; exact kk2
            | false => simp only [hd, Bool.false_eq_true, if_false] at kk2 ⊢; exact kk2
      · have e3 : (List.range S.length).filterMap (fun (k : Nat) => if (decide (k ∈ goodI S ends j) || (S.getD k []).any (inO (goodI S ends j))) = true then some (D.int (k : Int)) else none) = natsD (goodI S ends (j + 1)) :=
          filterMap_if (fun k => decide (k ∈ goodI S ends j) || (S.getD k []).any (inO (goodI S ends j))) (fun (k : Nat) => D.int (k : Int)) _
        rw [e3] at e2
        refine ⟨by simp, ?_⟩
        exact kk _ _ ⟨j + 1, h'.length, _, _, _, _, rfl, by omega, ph.trans p2, e2, rfl⟩
    · obtain ⟨j, r, e3, e4, e5, e6, hj, hjl, ph, er, rfl⟩ := hi
      have hjn : S.length ≤ j := by
        rcases Nat.lt_or_ge j S.length with z | z
        · rw [rng_drop z] at hj; cases hj
        · exact z
      have : j = S.length := by omega
      subst this
      exact k r h' ph er
def encT : Enc (List Int) where
  e := fun ts => .tup (ts.map D.int)
  eq := fun a b => by simp only [eqD]; exact eqDs_ints a b
  ok := fun a => by
    obtain ⟨h1, h2⟩ := pure_ints a
    simp [keyOK, h1, h2]
  tup := true
  tp := fun _ => rfl
def encNat : Enc Nat where
  e := fun i => .int (i : Int)
  eq := fun a b => by
    simp only [eqD]
    rw [decide_eq_decide]
    omega
  ok := fun _ => rfl
  tup := false
  tp := fun _ => rfl
def natd (i : Nat) : D := .int (i : Int)
theorem look_mem {α β : Type} [DecidableEq α] : ∀ {ps : List (α × β)} {k : α} {v : β}, look ps k = some v → (k, v) ∈ ps
  | [], k, v, h => by simp [look] at h
  | p :: ps, k, v, h => by
    unfold look at h
    rw [List.find?_cons] at h
    by_cases hp : p.1 = k
    · simp only [hp, decide_true, Option.map_some, Option.some.injEq] at h
      subst hp h
      exact List.mem_cons_self
    · simp only [hp, decide_false] at h
      exact List.mem_cons_of_mem _ (look_mem h)
theorem look_none {α β : Type} [DecidableEq α] {ps : List (α × β)} {k : α} (h : look ps k = none) : k ∉ ps.map (·.1) := fun hm => by
  obtain ⟨p, hp, rfl⟩ := List.mem_map.mp hm
  unfold look at h
  rw [Option.map_eq_none_iff, List.find?_eq_none] at h
  exact h p hp (by simp)
theorem look_some_of {α β : Type} [DecidableEq α] {ps : List (α × β)} {k : α} (h : k ∈ ps.map (·.1)) : ∃ v, look ps k = some v := by
  cases e : look ps k with
  | none => exact absurd h (look_none e)
  | some v => exact ⟨v, rfl⟩
theorem put_new {α β : Type} [DecidableEq α] {ps : List (α × β)} {k : α} {v : β} (h : look ps k = none) : put ps k v = ps ++ [(k, v)] := by
  unfold put
  rw [if_neg]
  intro z
  obtain ⟨p, hp, e⟩ := List.any_eq_true.mp z
  exact look_none h (List.mem_map.mpr ⟨p, hp, of_decide_eq_true e⟩)
theorem vals_inj {α : Type} {ps : List (α × Nat)} {n : Nat} (h : ps.map (·.2) = List.range n) {p p' : α × Nat} (hp : p ∈ ps) (hp' : p' ∈ ps) (e : p.2 = p'.2) : p = p' := by
  obtain ⟨i, hi, rfl⟩ := List.mem_iff_getElem.mp hp
  obtain ⟨j, hj, rfl⟩ := List.mem_iff_getElem.mp hp'
  have gi : ∀ (i : Nat) (hi : i < ps.length), ps[i].2 = i := fun i hi => by
    have e1 : (ps.map (·.2))[i]? = (List.range n)[i]? := by rw [h]
    rw [List.getElem?_map, List.getElem?_eq_getElem hi] at e1
    have hl : ps.length = n := by rw [← List.length_map (f := (·.2)), h, List.length_range]
    rw [List.getElem?_range (by omega)] at e1
    exact Option.some.inj e1
  rw [gi i hi, gi j hj] at e
  subst e
  rfl
theorem getD_app {L : List Nat} {v b : Nat} (h : b < L.length) : (L ++ [v]).getD b 0 = L.getD b 0 := by
  rw [List.getD_eq_getElem?_getD, List.getElem?_append_left h, List.getD_eq_getElem?_getD]
theorem getD_last {L : List Nat} {v : Nat} : (L ++ [v]).getD L.length 0 = v := by
  rw [List.getD_eq_getElem?_getD]; simp
/-- the boards met: by kind their places -/
structure BI (L : List Nat) (order : List Nat) (ps : List (Nat × Nat)) : Prop where
  keys : ps.map (·.1) = order.map fun o => L.getD o 0
  vals : ps.map (·.2) = List.range order.length
  lt : ∀ o ∈ order, o < L.length
  nd : (order.map fun o => L.getD o 0).Nodup
theorem BI.start {L : List Nat} (h : 0 < L.length) : BI L [0] [(L.getD 0 0, 0)] := ⟨rfl, rfl, fun o ho => by rw [List.mem_singleton.mp ho]; exact h, by simp⟩
theorem BI.put_ {L order : List Nat} {ps : List (Nat × Nat)} (a : BI L order ps) {t : Nat} (ht : t < L.length) (h : look ps (L.getD t 0) = none) : BI L (order ++ [t]) (put ps (L.getD t 0) order.length) := by
  have hn := look_none h
  rw [a.keys] at hn
  refine ⟨by rw [put_new h]; simp [a.keys], by rw [put_new h]; simp [List.range_succ, a.vals], fun o ho => ?_, ?_⟩
  · rcases List.mem_append.mp ho with ho | ho
    · exact a.lt o ho
    · rw [List.mem_singleton.mp ho]; exact ht
  · rw [List.map_append, List.nodup_append]
    refine ⟨a.nd, by simp, fun x hx y hy e => ?_⟩
    rw [List.map_singleton, List.mem_singleton] at hy
    rw [e, hy] at hx
    exact hn hx
theorem BI.get {L order : List Nat} {ps : List (Nat × Nat)} (a : BI L order ps) {k v : Nat} (h : look ps k = some v) : v < order.length ∧ ∃ o ∈ order, L.getD o 0 = k := by
  have hm := look_mem h
  constructor
  · have : v ∈ ps.map (·.2) := List.mem_map.mpr ⟨_, hm, rfl⟩
    rw [a.vals] at this
    exact List.mem_range.mp this
  · have : k ∈ ps.map (·.1) := List.mem_map.mpr ⟨_, hm, rfl⟩
    rw [a.keys] at this
    obtain ⟨o, ho, e⟩ := List.mem_map.mp this
    exact ⟨o, ho, e⟩
theorem BI.len {L order : List Nat} {ps : List (Nat × Nat)} (a : BI L order ps) {n : Nat} (hL : ∀ x ∈ L, x < n) : order.length ≤ n := by
  have h1 : (order.map fun o => L.getD o 0).length ≤ (List.range n).length := a.nd.length_le_of_subset fun x hx => by
    obtain ⟨o, ho, rfl⟩ := List.mem_map.mp hx
    have hl := a.lt o ho
    rw [List.getD_eq_getElem?_getD, List.getElem?_eq_getElem hl]
    exact List.mem_range.mpr (hL _ (List.getElem_mem hl))
  rw [List.length_map, List.length_range] at h1
  exact h1
theorem BI.plen {L order : List Nat} {ps : List (Nat × Nat)} (a : BI L order ps) : ps.length = order.length := by
  rw [← List.length_map (f := (·.1)), a.keys, List.length_map]
theorem b_listL {h : Hm} {a : Nat} {xs : List D} (e : h[a]? = some (.lst xs)) : bltS .list [.ref a] h = some (.ref h.length, h ++ [.lst xs]) := by
  simp [bltS, itemsOf, e, newC]
theorem drop_range {α : Type} {n j : Nat} (f : Nat → α) (h : j < n) : ((List.range n).map f).drop j = f j :: ((List.range n).map f).drop (j + 1) := by
  have hl : ((List.range n).map f).length = n := by simp
  rw [List.drop_eq_getElem_cons (by omega)]
  simp
theorem drop_end {α : Type} {n j : Nat} (f : Nat → α) (h : n ≤ j) : ((List.range n).map f).drop j = [] := List.drop_eq_nil_of_le (by simp; exact h)
theorem dk_set {h : Hm} {a : Nat} {ps : List (Nat × Nat)} {k v : Nat} (e : h[a]? = some (.dct (encL encNat natd ps))) (hl : ps.length ≤ 1000) : setS (.ref a) (.int (k : Int)) (.int (v : Int)) h = some (h.set a (.dct (encL encNat natd (put ps k v)))) := by
  have hin : keyIn (encL encNat natd ps) (.int (k : Int)) = true := enc_in encNat natd ps k
  have hput : dput (encL encNat natd ps) (.int (k : Int)) (.int (v : Int)) = encL encNat natd (put ps k v) := enc_put encNat natd ps k v
  simp only [setS, e]
  rw [if_pos ⟨hin, by unfold encL; rw [List.length_map]; unfold LIM; omega⟩, hput]
theorem dk_get {h : Hm} {a : Nat} {ps : List (Nat × Nat)} {k v : Nat} (e : h[a]? = some (.dct (encL encNat natd ps))) (hk : look ps k = some v) : idxS (.ref a) (.int (k : Int)) h = some (.int (v : Int)) := by
  have hin : keyIn (encL encNat natd ps) (.int (k : Int)) = true := enc_in encNat natd ps k
  have hg : dget (encL encNat natd ps) (.int (k : Int)) = (look ps k).map natd := enc_get encNat natd ps k
  simp only [idxS, e, hin, if_true, hg, hk]
  rfl
theorem dk_in {h : Hm} {a : Nat} {ps : List (Nat × Nat)} {k : Nat} (e : h[a]? = some (.dct (encL encNat natd ps))) : cmpS .notin (.int (k : Int)) (.ref a) h = some (!(look ps k).isSome) := by
  have hin : keyIn (encL encNat natd ps) (.int (k : Int)) = true := enc_in encNat natd ps k
  have hg : dget (encL encNat natd ps) (.int (k : Int)) = (look ps k).map natd := enc_get encNat natd ps k
  rw [in_dict e hin, hg, Option.isSome_map]
theorem n_at {h : Hm} {a : Nat} {L : List Nat} (e : h[a]? = some (.lst (natsD L))) {b : Nat} (hb : b < L.length) : idxS (.ref a) (.int (b : Int)) h = some (.int ((L.getD b 0 : Nat) : Int)) := by
  rw [idx_lst e]
  refine at_nat ?_
  unfold natsD
  rw [List.getElem?_map, List.getElem?_eq_getElem hb, List.getD_eq_getElem?_getD, List.getElem?_eq_getElem hb]
  rfl
theorem app_at {h : Hm} {a : Nat} {xs : List D} {x : D} (e : h[a]? = some (.lst xs)) (hl : xs.length ≤ 1000) : bltS .append [.ref a, x] h = some (.non, h.set a (.lst (xs ++ [x]))) := by
  have g : getM h a = some xs := by unfold getM; rw [e]
  simp only [bltS, g, Option.bind_some]
  rw [if_pos (by unfold LIM; omega)]
theorem rec_app {h : Hm} {a : Nat} {xs : List D} (e : h[a]? = some (.lst xs)) : recvOK .append (.ref a) h = true := by
  show (getL h a).isSome = true
  unfold getL; rw [e]; rfl
end M11

end
section
set_option Elab.async false
set_option linter.all false
set_option autoImplicit false
/-! sums, conditions -/
namespace M11
open M
theorem isin_str {h : Hm} {s a b : List Nat} : cmpS .isin (.str s) (.tup [.str a, .str b]) h = some (decide (a = s) || decide (b = s)) := by
  simp [cmpS, inS, anyEq, snap, snapD, snapDs, dep, deps, eqD]
inductive So where
  | plus | minus | least | most
  deriving DecidableEq
inductive Sm where
  | num (i : Int)
  | cnt (k : Nat)
  | bin (o : So) (a b : Sm)
  deriving DecidableEq
inductive Wh where
  | yes
  | not (a : Wh)
  | and (a b : Wh)
  | or (a b : Wh)
  | less (s t : Sm)
  | same (s t : Sm)
  deriving DecidableEq
def numberS : List Nat := [110, 117, 109, 98, 101, 114]
def countS : List Nat := [99, 111, 117, 110, 116]
def soS : So → List Nat
  | .plus => [112, 108, 117, 115]
  | .minus => [109, 105, 110, 117, 115]
  | .least => [108, 101, 97, 115, 116]
  | .most => [109, 111, 115, 116]
def yesS : List Nat := [121, 101, 115]
def notS : List Nat := [110, 111, 116]
def andS : List Nat := [97, 110, 100]
def orS : List Nat := [111, 114]
def lessS : List Nat := [108, 101, 115, 115]
def sameS : List Nat := [115, 97, 109, 101]
def smD : Sm → D
  | .num i => .tup [.str numberS, .int i]
  | .cnt k => .tup [.str countS, .int (k : Int)]
  | .bin o a b => .tup [.str (soS o), smD a, smD b]
def whD : Wh → D
  | .yes => .tup [.str yesS]
  | .not a => .tup [.str notS, whD a]
  | .and a b => .tup [.str andS, whD a, whD b]
  | .or a b => .tup [.str orS, whD a, whD b]
  | .less s t => .tup [.str lessS, smD s, smD t]
  | .same s t => .tup [.str sameS, smD s, smD t]
def soF : So → Int → Int → Int
  | .plus, i, j => i + j
  | .minus, i, j => i - j
  | .least, i, j => if j < i then j else i
  | .most, i, j => if j > i then j else i
def sumF (row : List Int) : Sm → Int
  | .num i => i
  | .cnt k => row.getD k 0
  | .bin o a b => soF o (sumF row a) (sumF row b)
def OKS (w : Nat) : Sm → Prop
  | .num _ => True
  | .cnt k => k < w
  | .bin _ a b => OKS w a ∧ OKS w b
def dS : Sm → Nat
  | .bin _ a b => max (dS a) (dS b) + 1
  | _ => 0
def holdsF (row : List Int) : Wh → Bool
  | .yes => true
  | .not a => !holdsF row a
  | .and a b => holdsF row a && holdsF row b
  | .or a b => holdsF row a || holdsF row b
  | .less s t => decide (sumF row s < sumF row t)
  | .same s t => decide (sumF row s = sumF row t)
def OKW (w : Nat) : Wh → Prop
  | .yes => True
  | .not a => OKW w a
  | .and a b => OKW w a ∧ OKW w b
  | .or a b => OKW w a ∧ OKW w b
  | .less s t => OKS w s ∧ OKS w t
  | .same s t => OKS w s ∧ OKS w t
def dW : Wh → Nat
  | .yes => 0
  | .not a => dW a + 1
  | .and a b => max (dW a) (dW b) + 1
  | .or a b => max (dW a) (dW b) + 1
  | .less s t => max (dS s) (dS t) + 1
  | .same s t => max (dS s) (dS t) + 1
/-- a value that gives a row's counts -/
def RWV (h : Hm) (rv : D) (row : List Int) : Prop := rv = .tup (row.map D.int) ∨ ∃ r, rv = .ref r ∧ h[r]? = some (.lst (row.map D.int))
theorem RWV.pre {h h' : Hm} {rv : D} {row : List Int} (a : RWV h rv row) (p : h <+: h') : RWV h' rv row := by
  rcases a with rfl | ⟨r, rfl, e⟩
  · exact .inl rfl
  · exact .inr ⟨r, rfl, pre_at p e⟩
theorem RWV.at_ {h : Hm} {rv : D} {row : List Int} (a : RWV h rv row) {k : Nat} (hk : k < row.length) : idxS rv (.int (k : Int)) h = some (.int (row.getD k 0)) := by
  have e : (row.map D.int)[k]? = some (.int (row.getD k 0)) := by
    rw [List.getElem?_map, List.getElem?_eq_getElem hk, List.getD_eq_getElem?_getD, List.getElem?_eq_getElem hk]; rfl
  rcases a with rfl | ⟨r, rfl, e2⟩
  · rw [idx_tup]; exact at_nat e
  · rw [idx_lst e2]; exact at_nat e
theorem sum_spec {row : List Int} : ∀ (s : Sm) (N : Nat) (rv : D) (h : Hm) (Q : VQ) (E : XP), dS s + 1 ≤ N → OKS row.length s → RWV h rv row → Q (.int (sumF row s)) h → FW P N 155 [smD s, rv] h Q E
  | s, 0, rv, h, Q, E, hn, _, _, _ => by omega
  | .num i, N + 1, rv, h, Q, E, hn, ok, hr, q => by
    refine fw_open (d := D155) rfl rfl ?_
    unfold D155
    simp only [wpSs, wpS, wpE, wpEs, wpCs, wpP, wpPs, List.map, List.replicate, List.cons_append, List.nil_append, List.append_nil, List.getElem?_cons_zero, List.getElem?_cons_succ, jn, ws_some, List.length_cons, List.length_nil, List.set, at0, at1, at2, idx_tup, c_gt, c_lt, c_le, c_ge, c_is, c_isnt, c_eqI, c_neI, c_eqS, c_neS, c_eqB, c_neB, isS, isNonD, isBlD, t_bl, b_int, b_abs, b_max2, b_min2, b_lenT, o_add, o_sub, permD, Option.map_some, smD, numberS, decide_true, if_true]
    exact q
  | .cnt k, N + 1, rv, h, Q, E, hn, ok, hr, q => by
    refine fw_open (d := D155) rfl rfl ?_
    unfold D155
    simp only [wpSs, wpS, wpE, wpEs, wpCs, wpP, wpPs, List.map, List.replicate, List.cons_append, List.nil_append, List.append_nil, List.getElem?_cons_zero, List.getElem?_cons_succ, jn, ws_some, List.length_cons, List.length_nil, List.set, at0, at1, at2, idx_tup, c_gt, c_lt, c_le, c_ge, c_is, c_isnt, c_eqI, c_neI, c_eqS, c_neS, c_eqB, c_neB, isS, isNonD, isBlD, t_bl, b_int, b_abs, b_max2, b_min2, b_lenT, o_add, o_sub, permD, Option.map_some, smD, countS, show decide ([99, 111, 117, 110, 116] = [110, 117, 109, 98, 101, 114]) = false from by decide, Bool.false_eq_true, if_false, decide_true, if_true]
    rw [hr.at_ ok]
    exact q
  | .bin o a b, N + 1, rv, h, Q, E, hn, ok, hr, q => by
    have hn : max (dS a) (dS b) + 1 + 1 ≤ N + 1 := hn
    refine fw_open (d := D155) rfl rfl ?_
    unfold D155
    have n1 : ∀ o, decide (soS o = [110, 117, 109, 98, 101, 114]) = false := fun o => by cases o <;> decide
    have n2 : ∀ o, decide (soS o = [99, 111, 117, 110, 116]) = false := fun o => by cases o <;> decide
    have n3 : ∀ o, decide (soS o = [116, 105, 109, 101, 115]) = false := fun o => by cases o <;> decide
    simp only [wpSs, wpS, wpE, wpEs, wpCs, wpP, wpPs, List.map, List.replicate, List.cons_append, List.nil_append, List.append_nil, List.getElem?_cons_zero, List.getElem?_cons_succ, jn, ws_some, List.length_cons, List.length_nil, List.set, at0, at1, at2, idx_tup, c_gt, c_lt, c_le, c_ge, c_is, c_isnt, c_eqI, c_neI, c_eqS, c_neS, c_eqB, c_neB, isS, isNonD, isBlD, t_bl, b_int, b_abs, b_max2, b_min2, b_lenT, o_add, o_sub, permD, Option.map_some, smD, n1, n2, Bool.false_eq_true, if_false]
    refine sum_spec a N rv h _ _ (by omega) ok.1 hr ?_
    refine sum_spec b N rv h _ _ (by omega) ok.2 hr ?_
    refine ⟨by simp, by simp, ?_⟩
    simp only [isin_str, ws_some, t_bl, n3, Bool.false_eq_true, if_false]
    cases o with
    | plus => simp [soS, wpSs, wpS, wpE, wpEs, wpCs, wpP, wpPs, List.map, List.replicate, List.cons_append, List.nil_append, List.append_nil, List.getElem?_cons_zero, List.getElem?_cons_succ, jn, ws_some, List.length_cons, List.length_nil, List.set, at0, at1, at2, idx_tup, c_gt, c_lt, c_le, c_ge, c_is, c_isnt, c_eqI, c_neI, c_eqS, c_neS, c_eqB, c_neB, isS, isNonD, isBlD, t_bl, b_int, b_abs, b_max2, b_min2, b_lenT, o_add, o_sub, permD, Option.map_some]; exact q
    | minus => simp [soS, wpSs, wpS, wpE, wpEs, wpCs, wpP, wpPs, List.map, List.replicate, List.cons_append, List.nil_append, List.append_nil, List.getElem?_cons_zero, List.getElem?_cons_succ, jn, ws_some, List.length_cons, List.length_nil, List.set, at0, at1, at2, idx_tup, c_gt, c_lt, c_le, c_ge, c_is, c_isnt, c_eqI, c_neI, c_eqS, c_neS, c_eqB, c_neB, isS, isNonD, isBlD, t_bl, b_int, b_abs, b_max2, b_min2, b_lenT, o_add, o_sub, permD, Option.map_some]; exact q
    | least => simp [soS, wpSs, wpS, wpE, wpEs, wpCs, wpP, wpPs, List.map, List.replicate, List.cons_append, List.nil_append, List.append_nil, List.getElem?_cons_zero, List.getElem?_cons_succ, jn, ws_some, List.length_cons, List.length_nil, List.set, at0, at1, at2, idx_tup, c_gt, c_lt, c_le, c_ge, c_is, c_isnt, c_eqI, c_neI, c_eqS, c_neS, c_eqB, c_neB, isS, isNonD, isBlD, t_bl, b_int, b_abs, b_max2, b_min2, b_lenT, o_add, o_sub, permD, Option.map_some]; exact q
    | most => simp [soS, wpSs, wpS, wpE, wpEs, wpCs, wpP, wpPs, List.map, List.replicate, List.cons_append, List.nil_append, List.append_nil, List.getElem?_cons_zero, List.getElem?_cons_succ, jn, ws_some, List.length_cons, List.length_nil, List.set, at0, at1, at2, idx_tup, c_gt, c_lt, c_le, c_ge, c_is, c_isnt, c_eqI, c_neI, c_eqS, c_neS, c_eqB, c_neB, isS, isNonD, isBlD, t_bl, b_int, b_abs, b_max2, b_min2, b_lenT, o_add, o_sub, permD, Option.map_some]; exact q
theorem holds_spec {row : List Int} : ∀ (w : Wh) (N : Nat) (rv : D) (h : Hm) (Q : VQ) (E : XP), dW w + 1 ≤ N → OKW row.length w → RWV h rv row → Q (.bl (holdsF row w)) h → FW P N 156 [whD w, rv] h Q E
  | w, 0, rv, h, Q, E, hn, _, _, _ => by omega
  | .yes, N + 1, rv, h, Q, E, hn, ok, hr, q => by
    refine fw_open (d := D156) rfl rfl ?_
    unfold D156
    simp only [wpSs, wpS, wpE, wpEs, wpCs, wpP, wpPs, List.map, List.replicate, List.cons_append, List.nil_append, List.append_nil, List.getElem?_cons_zero, List.getElem?_cons_succ, jn, ws_some, List.length_cons, List.length_nil, List.set, at0, at1, at2, idx_tup, c_gt, c_lt, c_le, c_ge, c_is, c_isnt, c_eqI, c_neI, c_eqS, c_neS, c_eqB, c_neB, isS, isNonD, isBlD, t_bl, b_int, b_abs, b_max2, b_min2, b_lenT, o_add, o_sub, permD, Option.map_some, whD, yesS, decide_true, if_true]
    exact q
  | .not a, N + 1, rv, h, Q, E, hn, ok, hr, q => by
    have hn : dW a + 1 + 1 ≤ N + 1 := hn
    refine fw_open (d := D156) rfl rfl ?_
    unfold D156
    simp only [wpSs, wpS, wpE, wpEs, wpCs, wpP, wpPs, List.map, List.replicate, List.cons_append, List.nil_append, List.append_nil, List.getElem?_cons_zero, List.getElem?_cons_succ, jn, ws_some, List.length_cons, List.length_nil, List.set, at0, at1, at2, idx_tup, c_gt, c_lt, c_le, c_ge, c_is, c_isnt, c_eqI, c_neI, c_eqS, c_neS, c_eqB, c_neB, isS, isNonD, isBlD, t_bl, b_int, b_abs, b_max2, b_min2, b_lenT, o_add, o_sub, permD, Option.map_some, whD, notS, show decide ([110, 111, 116] = [121, 101, 115]) = false from by decide, Bool.false_eq_true, if_false, decide_true, if_true]
    refine holds_spec a N rv h _ _ (by omega) ok hr ?_
    exact q
  | .and a b, N + 1, rv, h, Q, E, hn, ok, hr, q => by
    have hn : max (dW a) (dW b) + 1 + 1 ≤ N + 1 := hn
    refine fw_open (d := D156) rfl rfl ?_
    unfold D156
    simp only [wpSs, wpS, wpE, wpEs, wpCs, wpP, wpPs, List.map, List.replicate, List.cons_append, List.nil_append, List.append_nil, List.getElem?_cons_zero, List.getElem?_cons_succ, jn, ws_some, List.length_cons, List.length_nil, List.set, at0, at1, at2, idx_tup, c_gt, c_lt, c_le, c_ge, c_is, c_isnt, c_eqI, c_neI, c_eqS, c_neS, c_eqB, c_neB, isS, isNonD, isBlD, t_bl, b_int, b_abs, b_max2, b_min2, b_lenT, o_add, o_sub, permD, Option.map_some, whD, andS, show decide ([97, 110, 100] = [121, 101, 115]) = false from by decide, show decide ([97, 110, 100] = [110, 111, 116]) = false from by decide, Bool.false_eq_true, if_false, isin_str, decide_true, Bool.true_or, if_true]
    refine holds_spec a N rv h _ _ (by omega) ok.1 hr ?_
    refine holds_spec b N rv h _ _ (by omega) ok.2 hr ?_
    refine ⟨by simp, by simp, ?_⟩
    unfold holdsF at q
    cases c : holdsF row a with
    | true => rw [c] at q; simpa [t_bl] using q
    | false => rw [c] at q; simpa [t_bl] using q
  | .or a b, N + 1, rv, h, Q, E, hn, ok, hr, q => by
    have hn : max (dW a) (dW b) + 1 + 1 ≤ N + 1 := hn
    refine fw_open (d := D156) rfl rfl ?_
    unfold D156
    simp only [wpSs, wpS, wpE, wpEs, wpCs, wpP, wpPs, List.map, List.replicate, List.cons_append, List.nil_append, List.append_nil, List.getElem?_cons_zero, List.getElem?_cons_succ, jn, ws_some, List.length_cons, List.length_nil, List.set, at0, at1, at2, idx_tup, c_gt, c_lt, c_le, c_ge, c_is, c_isnt, c_eqI, c_neI, c_eqS, c_neS, c_eqB, c_neB, isS, isNonD, isBlD, t_bl, b_int, b_abs, b_max2, b_min2, b_lenT, o_add, o_sub, permD, Option.map_some, whD, orS, show decide ([111, 114] = [121, 101, 115]) = false from by decide, show decide ([111, 114] = [110, 111, 116]) = false from by decide, show decide ([111, 114] = [97, 110, 100]) = false from by decide, Bool.false_eq_true, if_false, isin_str, decide_true, Bool.or_true, if_true]
    refine holds_spec a N rv h _ _ (by omega) ok.1 hr ?_
    refine holds_spec b N rv h _ _ (by omega) ok.2 hr ?_
    refine ⟨by simp, by simp, ?_⟩
    unfold holdsF at q
    cases c : holdsF row a with
    | true => rw [c] at q; simpa [t_bl] using q
    | false => rw [c] at q; simpa [t_bl] using q
  | .less a b, N + 1, rv, h, Q, E, hn, ok, hr, q => by
    have hn : max (dS a) (dS b) + 1 + 1 ≤ N + 1 := hn
    refine fw_open (d := D156) rfl rfl ?_
    unfold D156
    simp only [wpSs, wpS, wpE, wpEs, wpCs, wpP, wpPs, List.map, List.replicate, List.cons_append, List.nil_append, List.append_nil, List.getElem?_cons_zero, List.getElem?_cons_succ, jn, ws_some, List.length_cons, List.length_nil, List.set, at0, at1, at2, idx_tup, c_gt, c_lt, c_le, c_ge, c_is, c_isnt, c_eqI, c_neI, c_eqS, c_neS, c_eqB, c_neB, isS, isNonD, isBlD, t_bl, b_int, b_abs, b_max2, b_min2, b_lenT, o_add, o_sub, permD, Option.map_some, whD, lessS, show decide ([108, 101, 115, 115] = [121, 101, 115]) = false from by decide, show decide ([108, 101, 115, 115] = [110, 111, 116]) = false from by decide, show decide ([97, 110, 100] = [108, 101, 115, 115]) = false from by decide, show decide ([111, 114] = [108, 101, 115, 115]) = false from by decide, Bool.or_false, Bool.false_eq_true, if_false, isin_str]
    refine sum_spec a N rv h _ _ (by omega) ok.1 hr ?_
    refine sum_spec b N rv h _ _ (by omega) ok.2 hr ?_
    refine ⟨by simp, by simp, ?_⟩
    simp [c_lt]
    exact q
  | .same a b, N + 1, rv, h, Q, E, hn, ok, hr, q => by
    have hn : max (dS a) (dS b) + 1 + 1 ≤ N + 1 := hn
    refine fw_open (d := D156) rfl rfl ?_
    unfold D156
    simp only [wpSs, wpS, wpE, wpEs, wpCs, wpP, wpPs, List.map, List.replicate, List.cons_append, List.nil_append, List.append_nil, List.getElem?_cons_zero, List.getElem?_cons_succ, jn, ws_some, List.length_cons, List.length_nil, List.set, at0, at1, at2, idx_tup, c_gt, c_lt, c_le, c_ge, c_is, c_isnt, c_eqI, c_neI, c_eqS, c_neS, c_eqB, c_neB, isS, isNonD, isBlD, t_bl, b_int, b_abs, b_max2, b_min2, b_lenT, o_add, o_sub, permD, Option.map_some, whD, sameS, show decide ([115, 97, 109, 101] = [121, 101, 115]) = false from by decide, show decide ([115, 97, 109, 101] = [110, 111, 116]) = false from by decide, show decide ([97, 110, 100] = [115, 97, 109, 101]) = false from by decide, show decide ([111, 114] = [115, 97, 109, 101]) = false from by decide, show decide ([115, 97, 109, 101] = [108, 101, 115, 115]) = false from by decide, Bool.or_false, Bool.false_eq_true, if_false, isin_str]
    refine sum_spec a N rv h _ _ (by omega) ok.1 hr ?_
    refine sum_spec b N rv h _ _ (by omega) ok.2 hr ?_
    refine ⟨by simp, by simp, ?_⟩
    simp [c_eqI]
    exact q
end M11

end
section
set_option Elab.async false
set_option linter.all false
set_option autoImplicit false
/-! rules: what is kept, lawful, done, told -/
namespace M11
open M
structure Rg where
  name : List Nat
  top : Nat
  first : Nat
  rnd : Bool
structure Dd where
  name : List Nat
  whn : Wh
  parts : List (Wh × List (Nat × Sm))
inductive Ql where
  | yes (w : Wh)
  | tells (s : Sm)
structure Rules where
  regs : List Rg
  deeds : List Dd
  laws : List (Bool × Wh)
  qs : List (List Nat × Ql)
def roundS : List Nat := [114, 111, 117, 110, 100]
def heldS : List Nat := [104, 101, 108, 100]
def alwaysS : List Nat := [97, 108, 119, 97, 121, 115]
def endsS : List Nat := [101, 110, 100, 115]
def tellsS : List Nat := [116, 101, 108, 108, 115]
def rgD (g : Rg) : D := .tup [.str g.name, .int (g.top : Int), .int (g.first : Int), .str (if g.rnd then roundS else heldS)]
def stD (s : Nat × Sm) : D := .tup [.int (s.1 : Int), smD s.2]
def ptD (p : Wh × List (Nat × Sm)) : D := .tup [whD p.1, .tup (p.2.map stD)]
def ddD (d : Dd) : D := .tup [.str d.name, whD d.whn, .tup (d.parts.map ptD)]
def wdS (b : Bool) : List Nat := if b then alwaysS else endsS
def lwD (l : Bool × Wh) : D := .tup [.str (wdS l.1), whD l.2]
def qlD : Ql → D
  | .yes w => .tup [.str yesS, whD w]
  | .tells s => .tup [.str tellsS, smD s]
def quD (q : List Nat × Ql) : D := .tup [.str q.1, qlD q.2]
def rulesD (r : Rules) : D := .tup [.tup (r.regs.map rgD), .tup (r.deeds.map ddD), .tup (r.laws.map lwD), .tup (r.qs.map quD)]
def nrg : Rg := ⟨[], 0, 0, false⟩
def ndd : Dd := ⟨[], .yes, []⟩
def keptF (g : Rg) (v : Int) : Int := if g.rnd then v % ((g.top : Int) + 1) else max 0 (min v (g.top : Int))
theorem kept_lo (g : Rg) (v : Int) : 0 ≤ keptF g v ∧ keptF g v ≤ g.top := by
  unfold keptF
  split
  · have h1 := Int.emod_nonneg v (show ((g.top : Int) + 1) ≠ 0 by omega)
    have h2 := Int.emod_lt_of_pos v (show 0 < ((g.top : Int) + 1) by omega)
    omega
  · omega
structure OKQ (w : Nat) (q : List Nat × Ql) : Prop where
  ok : match q.2 with
    | .yes a => OKW w a ∧ dW a ≤ 10
    | .tells s => OKS w s ∧ dS s ≤ 10
structure OKD (w : Nat) (d : Dd) : Prop where
  whn : OKW w d.whn ∧ dW d.whn ≤ 10
  pl : d.parts.length ≤ 10
  parts : ∀ p ∈ d.parts, (OKW w p.1 ∧ dW p.1 ≤ 10) ∧ ∀ s ∈ p.2, s.1 < w ∧ OKS w s.2 ∧ dS s.2 ≤ 10
structure OKR (r : Rules) : Prop where
  r1 : 1 ≤ r.regs.length
  r2 : r.regs.length ≤ 3
  rg : ∀ g ∈ r.regs, g.top ≤ 2 ∧ g.first ≤ g.top
  d1 : 1 ≤ r.deeds.length
  d2 : r.deeds.length ≤ 10
  dd : ∀ d ∈ r.deeds, OKD r.regs.length d
  l2 : r.laws.length ≤ 10
  lw : ∀ l ∈ r.laws, OKW r.regs.length l.2 ∧ dW l.2 ≤ 10
  q1 : 1 ≤ r.qs.length
  q2 : r.qs.length ≤ 10
  qs : ∀ q ∈ r.qs, OKQ r.regs.length q
def rowD (row : List Int) : D := .tup (row.map D.int)
theorem kept_spec {N : Nat} {g : Rg} {v : Int} {h : Hm} {Q : VQ} {E : XP} (q : Q (.int (keptF g v)) h) : FW P (N + 1) 157 [rgD g, .int v] h Q E := by
  refine fw_open (d := D157) rfl rfl ?_
  unfold D157
  have e3 : ∀ {a b c d : D}, atI [a, b, c, d] 3 = some d := fun {a b c d} => rfl
  simp only [wpSs, wpS, wpE, wpEs, wpCs, wpP, wpPs, List.map, List.replicate, List.cons_append, List.nil_append, List.append_nil, List.getElem?_cons_zero, List.getElem?_cons_succ, jn, ws_some, List.length_cons, List.length_nil, List.set, at0, at1, at2, idx_tup, c_gt, c_lt, c_le, c_ge, c_is, c_isnt, c_eqI, c_neI, c_eqS, c_neS, c_eqB, c_neB, isS, isNonD, isBlD, t_bl, b_int, b_abs, b_max2, b_min2, b_lenT, o_add, o_sub, permD, Option.map_some, rgD, e3]
  unfold keptF at q
  cases hr : g.rnd with
  | true =>
    rw [hr] at q
    simp only [if_true, roundS, decide_true]
    rw [o_mod (by omega)]
    exact q
  | false =>
    rw [hr] at q
    simp only [Bool.false_eq_true, if_false, heldS, show decide ([104, 101, 108, 100] = [114, 111, 117, 110, 100]) = false from by decide]
    have e : (if (if (g.top : Int) < v then (g.top : Int) else v) > 0 then (if (g.top : Int) < v then (g.top : Int) else v) else 0) = max 0 (min v (g.top : Int)) := by
      split <;> split at * <;> omega
    rw [e]
    exact q
/-- lawful by the laws of a word -/
def lawF (r : Rules) (b : Bool) (row : List Int) : Bool := r.laws.all fun l => !(l.1 == b) || holdsF row l.2
theorem wd_eq (a b : Bool) : decide (wdS a = wdS b) = (a == b) := by
  cases a <;> cases b <;> rfl
theorem eq_empty {h : Hm} {a b : Nat} {is : List Int} (e1 : h[a]? = some (.lst (is.map D.int))) (e2 : h[b]? = some (.lst [])) : cmpS .eq (.ref a) (.ref b) h = some (decide (is = [])) := eq_ints (js := []) e1 e2
theorem lawful_spec {N : Nat} {r : Rules} (ok : OKR r) {b : Bool} {row : List Int} (hl : row.length = r.regs.length) {rv : D} {h : Hm} {Q : VQ} {E : XP} (hr : RWV h rv row) (hn : 20 ≤ N) (q : ∀ h', h <+: h' → Q (.bl (lawF r b row)) h') : FW P (N + 1) 158 [rulesD r, .str (wdS b), rv] h Q E := by
  refine fw_open (d := D158) rfl rfl ?_
  unfold D158
  simp only [wpSs, wpS, wpE, wpEs, wpCs, wpP, wpPs, List.map, List.replicate, List.cons_append, List.nil_append, List.append_nil, List.getElem?_cons_zero, List.getElem?_cons_succ, jn, ws_some, List.length_cons, List.length_nil, List.set, at0, at1, at2, idx_tup, c_gt, c_lt, c_le, c_ge, c_is, c_isnt, c_eqI, c_neI, c_eqS, c_neS, c_eqB, c_neB, isS, isNonD, isBlD, t_bl, b_int, b_abs, b_max2, b_min2, b_lenT, o_add, o_sub, permD, Option.map_some, rulesD]
  rw [it_tup, ws_some]
  refine comp_enc (xs := r.laws) lwD (fun l => if (l.1 == b && !holdsF row l.2) = true then some (.int 1) else none) still_nil (by have := ok.l2; unfold LIM; omega) (fun l hm h2 R p k => ?_) fun h2 p2 e2 => ?_
  · have okl := ok.lw l hm
    have k := k h2 (List.prefix_refl _)
    simp only [lwD, wpSs, wpS, wpE, wpEs, wpCs, wpP, wpPs, List.map, List.replicate, List.cons_append, List.nil_append, List.append_nil, List.getElem?_cons_zero, List.getElem?_cons_succ, jn, ws_some, List.length_cons, List.length_nil, List.set, at0, at1, at2, idx_tup, c_gt, c_lt, c_le, c_ge, c_is, c_isnt, c_eqI, c_neI, c_eqS, c_neS, c_eqB, c_neB, isS, isNonD, isBlD, t_bl, b_int, b_abs, b_max2, b_min2, b_lenT, o_add, o_sub, permD, Option.map_some, wipeE]
    refine ⟨by simp, by simp, ?_⟩
    rw [wd_eq]
    cases c : (l.1 == b) with
    | false =>
      rw [c] at k
      simpa [t_bl] using k
    | true =>
      rw [c] at k
      simp only [if_true]
      refine holds_spec l.2 N rv h2 _ _ (by omega) (by rw [hl]; exact okl.1) (hr.pre p) ?_
      rw [t_bl, ws_some]
      cases c2 : holdsF row l.2 with
      | true =>
        rw [c2] at k
        simpa using k
      | false =>
        rw [c2] at k
        simpa using k
  · rw [filterMap_if] at e2
    have e3 : (r.laws.filter fun l => l.1 == b && !holdsF row l.2).map (fun _ => D.int 1) = ((r.laws.filter fun l => l.1 == b && !holdsF row l.2).map (fun _ => (1 : Int))).map D.int := by
      rw [List.map_map]; rfl
    rw [e3] at e2
    rw [eq_empty (pre_at pre_one e2) last_at, ws_some]
    have := q _ (p2.trans (pre_one (c := .lst [])))
    have e4 : decide ((r.laws.filter fun l => l.1 == b && !holdsF row l.2).map (fun _ => (1 : Int)) = []) = lawF r b row := by
      unfold lawF
      rw [Bool.eq_iff_iff, decide_eq_true_eq, List.map_eq_nil_iff, List.filter_eq_nil_iff, List.all_eq_true]
      refine forall_congr' fun l => forall_congr' fun _ => ?_
      cases (l.1 == b) <;> cases holdsF row l.2 <;> simp
    rw [e4]
    exact this
def stepsF (r : Rules) (row : List Int) (f : List Int) (ss : List (Nat × Sm)) : List Int := ss.foldl (fun f s => f.set s.1 (keptF (r.regs.getD s.1 nrg) (sumF row s.2))) f
def partsF (r : Rules) (row : List Int) (f : List Int) (ps : List (Wh × List (Nat × Sm))) : List Int := ps.foldl (fun f p => if holdsF row p.1 = true then stepsF r row f p.2 else f) f
def doneF (r : Rules) (row : List Int) (d : Dd) : Option (List Int) := if holdsF row d.whn = true then (if lawF r true (partsF r row row d.parts) = true then some (partsF r row row d.parts) else none) else none
theorem stepsF_len (r : Rules) (row : List Int) : ∀ (ss : List (Nat × Sm)) (f : List Int), (stepsF r row f ss).length = f.length
  | [], f => rfl
  | s :: ss, f => by
    show (stepsF r row (f.set _ _) ss).length = _
    rw [stepsF_len r row ss, List.length_set]
theorem partsF_len (r : Rules) (row : List Int) : ∀ (ps : List (Wh × List (Nat × Sm))) (f : List Int), (partsF r row f ps).length = f.length
  | [], f => rfl
  | p :: ps, f => by
    show (partsF r row (if holdsF row p.1 = true then stepsF r row f p.2 else f) ps).length = _
    rw [partsF_len r row ps]
    split
    · exact stepsF_len r row p.2 f
    · rfl
def optR : Option (List Int) → D
  | none => .non
  | some l => rowD l
theorem get_reg {r : Rules} {k : Nat} (hk : k < r.regs.length) : (r.regs.map rgD)[k]? = some (rgD (r.regs.getD k nrg)) := by
  rw [List.getElem?_map, List.getElem?_eq_getElem hk, List.getD_eq_getElem?_getD, List.getElem?_eq_getElem hk]; rfl
theorem get_deed {r : Rules} {k : Nat} (hk : k < r.deeds.length) : (r.deeds.map ddD)[k]? = some (ddD (r.deeds.getD k ndd)) := by
  rw [List.getElem?_map, List.getElem?_eq_getElem hk, List.getD_eq_getElem?_getD, List.getElem?_eq_getElem hk]; rfl
theorem deed_mem {r : Rules} {k : Nat} (hk : k < r.deeds.length) : r.deeds.getD k ndd ∈ r.deeds := by
  rw [List.getD_eq_getElem?_getD, List.getElem?_eq_getElem hk]
  exact List.getElem_mem hk
theorem set_int {h : Hm} {a k : Nat} {f : List Int} {v : Int} (e : h[a]? = some (.lst (f.map D.int))) (hk : k < f.length) : setS (.ref a) (.int (k : Int)) (.int v) h = some (h.set a (.lst ((f.set k v).map D.int))) := by
  have hx : ixN (f.map D.int).length (k : Int) = some k := by
    unfold ixN
    rw [List.length_map, if_pos (by omega), if_pos (by omega)]
    simp
  rw [s_lst e hx, List.map_set]
def T159 : List CS := [
  .asg (.slot 3) (.blt .list [(.loc 1)]),
  .for_ (.tup [(.slot 4), (.slot 5)]) .val [(.idx (.idx (.idx (.loc 0) (.lit (.int (1)))) (.loc 2)) (.lit (.int (2))))] [
    .ite (.call 156 [(.loc 4), (.loc 1)] [] [0, 1]) [
      .for_ (.tup [(.slot 6), (.slot 7)]) .val [(.loc 5)] [
        .set (.loc 3) (.loc 6) (.call 157 [(.idx (.idx (.loc 0) (.lit (.int (0)))) (.loc 6)), (.call 155 [(.loc 7), (.loc 1)] [] [0, 1])] [] [0, 1])]] []],
  .ret (.ife (.call 158 [(.loc 0), (.lit (.str [97, 108, 119, 97, 121, 115])), (.blt .tuple [(.loc 3)])] [] [0, 1, 2]) (.blt .tuple [(.loc 3)]) (.lit .non))]
theorem d159_eq : D159 = ⟨3, 8, .ite (.not (.call 156 [(.idx (.idx (.idx (.loc 0) (.lit (.int (1)))) (.loc 2)) (.lit (.int (1)))), (.loc 1)] [] [0, 1])) [
    .ret (.lit .non)] [] :: T159⟩ := rfl
theorem done_spec {N : Nat} {r : Rules} (ok : OKR r) {row : List Int} (hl : row.length = r.regs.length) {k : Nat} (hk : k < r.deeds.length) {h : Hm} {Q : VQ} {E : XP} (hn : 21 ≤ N) (q : ∀ h', h <+: h' → Q (optR (doneF r row (r.deeds.getD k ndd))) h') : FW P (N + 1) 159 [rulesD r, rowD row, .int (k : Int)] h Q E := by
  obtain ⟨N, rfl⟩ : ∃ N', N = N' + 1 := ⟨N - 1, by omega⟩
  refine fw_open (d := D159) rfl rfl ?_
  rw [d159_eq]
  have hd := at_nat (get_deed hk)
  have okd := ok.dd _ (deed_mem hk)
  generalize hD : r.deeds.getD k ndd = d at hd okd q
  have hrw : ∀ h, RWV h (rowD row) row := fun h => .inl rfl
  simp only [wpSs, wpS, wpE, wpEs, wpCs, wpP, wpPs, List.map, List.replicate, List.cons_append, List.nil_append, List.append_nil, List.getElem?_cons_zero, List.getElem?_cons_succ, jn, ws_some, List.length_cons, List.length_nil, List.set, at0, at1, at2, idx_tup, c_gt, c_lt, c_le, c_ge, c_is, c_isnt, c_eqI, c_neI, c_eqS, c_neS, c_eqB, c_neB, isS, isNonD, isBlD, t_bl, b_int, b_abs, b_max2, b_min2, b_lenT, o_add, o_sub, permD, Option.map_some, rulesD]
  rw [hd]
  simp only [wpSs, wpS, wpE, wpEs, wpCs, wpP, wpPs, List.map, List.replicate, List.cons_append, List.nil_append, List.append_nil, List.getElem?_cons_zero, List.getElem?_cons_succ, jn, ws_some, List.length_cons, List.length_nil, List.set, at0, at1, at2, idx_tup, c_gt, c_lt, c_le, c_ge, c_is, c_isnt, c_eqI, c_neI, c_eqS, c_neS, c_eqB, c_neB, isS, isNonD, isBlD, t_bl, b_int, b_abs, b_max2, b_min2, b_lenT, o_add, o_sub, permD, Option.map_some, ddD]
  refine holds_spec d.whn (N + 1) (rowD row) h _ _ (by have := okd.whn.2; omega) (by rw [hl]; exact okd.whn.1) (hrw h) ?_
  unfold doneF at q
  cases c : holdsF row d.whn with
  | false =>
    rw [c] at q
    rw [t_bl, ws_some, if_pos (by rfl)]
    exact q h (List.prefix_refl _)
  | true =>
    rw [c, if_pos rfl] at q
    rw [t_bl, ws_some, if_neg (by decide)]
    unfold T159
    simp only [wpSs, wpS, wpE, wpEs, wpCs, wpP, wpPs, List.map, List.replicate, List.cons_append, List.nil_append, List.append_nil, List.getElem?_cons_zero, List.getElem?_cons_succ, jn, ws_some, List.length_cons, List.length_nil, List.set, at0, at1, at2, idx_tup, c_gt, c_lt, c_le, c_ge, c_is, c_isnt, c_eqI, c_neI, c_eqS, c_neS, c_eqB, c_neB, isS, isNonD, isBlD, t_bl, b_int, b_abs, b_max2, b_min2, b_lenT, o_add, o_sub, permD, Option.map_some]
    have hb : bltS .list [rowD row] h = some (.ref h.length, h ++ [.lst (row.map D.int)]) := by simp [bltS, itemsOf, rowD, newC]
    rw [hb, ws_some]
    refine ⟨by simp, ?_⟩
    rw [hd]
    simp only [wpSs, wpS, wpE, wpEs, wpCs, wpP, wpPs, List.map, List.replicate, List.cons_append, List.nil_append, List.append_nil, List.getElem?_cons_zero, List.getElem?_cons_succ, jn, ws_some, List.length_cons, List.length_nil, List.set, at0, at1, at2, idx_tup, c_gt, c_lt, c_le, c_ge, c_is, c_isnt, c_eqI, c_neI, c_eqS, c_neS, c_eqB, c_neB, isS, isNonD, isBlD, t_bl, b_int, b_abs, b_max2, b_min2, b_lenT, o_add, o_sub, permD, Option.map_some, ddD]
    rw [it_tup, ws_some]
    refine forL_inv (fun l env h' => ∃ (dn rest : List (Wh × List (Nat × Sm))) (e4 e5 e6 e7 : Option D), d.parts = dn ++ rest ∧ l = rest.map ptD ∧ h <+: h' ∧ h'[h.length]? = some (.lst ((partsF r row row dn).map D.int)) ∧ env = [some (.tup [.tup (r.regs.map rgD), .tup (r.deeds.map ddD), .tup (r.laws.map lwD), .tup (r.qs.map quD)]), some (rowD row), some (.int (k : Int)), some (.ref h.length), e4, e5, e6, e7])
      (fun _ _ _ _ => still_nil) (fun x l env h' R hi kk => ?_) (fun env h' hi => ?_) _ _ _ ⟨[], d.parts, none, none, none, none, rfl, rfl, pre_one, last_at, rfl⟩
    · obtain ⟨dn, rest, e4, e5, e6, e7, hp, hx, pp, eR, rfl⟩ := hi
      cases rest with
      | nil => cases hx
      | cons p rest =>
        rw [List.map_cons] at hx
        cases hx
        have hpm : p ∈ d.parts := by rw [hp]; simp
        have okp := okd.parts p hpm
        have epf : partsF r row row (dn ++ [p]) = if holdsF row p.1 = true then stepsF r row (partsF r row row dn) p.2 else partsF r row row dn := by
          unfold partsF
          rw [List.foldl_append]; rfl
        simp only [ptD, wpSs, wpS, wpE, wpEs, wpCs, wpP, wpPs, List.map, List.replicate, List.cons_append, List.nil_append, List.append_nil, List.getElem?_cons_zero, List.getElem?_cons_succ, jn, ws_some, List.length_cons, List.length_nil, List.set, at0, at1, at2, idx_tup, c_gt, c_lt, c_le, c_ge, c_is, c_isnt, c_eqI, c_neI, c_eqS, c_neS, c_eqB, c_neB, isS, isNonD, isBlD, t_bl, b_int, b_abs, b_max2, b_min2, b_lenT, o_add, o_sub, permD, Option.map_some]
        refine ⟨by simp, by simp, ?_⟩
        refine holds_spec p.1 (N + 1) (rowD row) h' _ _ (by have := okp.1.2; omega) (by rw [hl]; exact okp.1.1) (hrw h') ?_
        rw [t_bl, ws_some]
        cases c2 : holdsF row p.1 with
        | false =>
          rw [c2, if_neg (by decide)] at epf
          rw [if_neg (by decide)]
          exact kk _ _ ⟨dn ++ [p], rest, _, _, _, _, by rw [hp]; simp, rfl, pp, by rw [epf]; exact eR, rfl⟩
        | true =>
          rw [c2, if_pos rfl] at epf
          rw [if_pos rfl, it_tup, ws_some]
          refine forL_inv (fun l env h' => ∃ (sd sr : List (Nat × Sm)) (e6 e7 : Option D), p.2 = sd ++ sr ∧ l = sr.map stD ∧ h <+: h' ∧ h'[h.length]? = some (.lst ((stepsF r row (partsF r row row dn) sd).map D.int)) ∧ env = [some (.tup [.tup (r.regs.map rgD), .tup (r.deeds.map ddD), .tup (r.laws.map lwD), .tup (r.qs.map quD)]), some (rowD row), some (.int (k : Int)), some (.ref h.length), some (whD p.1), some (.tup (p.2.map stD)), e6, e7])
            (fun _ _ _ _ => still_nil) (fun x l env h' R hi kk2 => ?_) (fun env h' hi => ?_) _ _ _ ⟨[], p.2, _, _, rfl, rfl, pp, eR, rfl⟩
          · obtain ⟨sd, sr, e6, e7, hp2, hx, pp, eR, rfl⟩ := hi
            cases sr with
            | nil => cases hx
            | cons s sr =>
              rw [List.map_cons] at hx
              cases hx
              have hsm : s ∈ p.2 := by rw [hp2]; simp
              obtain ⟨s1, s2, s3⟩ := okp.2 s hsm
              simp only [stD, wpSs, wpS, wpE, wpEs, wpCs, wpP, wpPs, List.map, List.replicate, List.cons_append, List.nil_append, List.append_nil, List.getElem?_cons_zero, List.getElem?_cons_succ, jn, ws_some, List.length_cons, List.length_nil, List.set, at0, at1, at2, idx_tup, c_gt, c_lt, c_le, c_ge, c_is, c_isnt, c_eqI, c_neI, c_eqS, c_neS, c_eqB, c_neB, isS, isNonD, isBlD, t_bl, b_int, b_abs, b_max2, b_min2, b_lenT, o_add, o_sub, permD, Option.map_some]
              refine ⟨by simp, by simp, ?_⟩
              rw [at_nat (get_reg s1), ws_some]
              refine sum_spec s.2 (N + 1) (rowD row) h' _ _ (by omega) (by rw [hl]; exact s2) (hrw h') ?_
              refine kept_spec (N := N) ?_
              rw [set_int eR (by rw [stepsF_len, partsF_len, hl]; exact s1), ws_some]
              refine kk2 _ _ ⟨sd ++ [s], sr, _, _, by rw [hp2]; simp, rfl, pre_set pp (Nat.le_refl _) _, ?_, rfl⟩
              rw [set_at eR]
              unfold stepsF
              rw [List.foldl_append]; rfl
          · obtain ⟨sd, sr, e6, e7, hp2, hx, pp, eR, rfl⟩ := hi
            have hr0 : sr = [] := List.map_eq_nil_iff.mp hx.symm
            subst hr0
            rw [List.append_nil] at hp2
            rw [← hp2] at eR
            exact kk _ _ ⟨dn ++ [p], rest, _, _, _, _, by rw [hp]; simp, rfl, pp, by rw [epf]; exact eR, rfl⟩
    · obtain ⟨dn, rest, e4, e5, e6, e7, hp, hx, pp, eR, rfl⟩ := hi
      have hr0 : rest = [] := List.map_eq_nil_iff.mp hx.symm
      subst hr0
      rw [List.append_nil] at hp
      rw [← hp] at eR
      simp only [wpSs, wpS, wpE, wpEs, wpCs, wpP, wpPs, List.map, List.replicate, List.cons_append, List.nil_append, List.append_nil, List.getElem?_cons_zero, List.getElem?_cons_succ, jn, ws_some, List.length_cons, List.length_nil, List.set, at0, at1, at2, idx_tup, c_gt, c_lt, c_le, c_ge, c_is, c_isnt, c_eqI, c_neI, c_eqS, c_neS, c_eqB, c_neB, isS, isNonD, isBlD, t_bl, b_int, b_abs, b_max2, b_min2, b_lenT, o_add, o_sub, permD, Option.map_some]
      rw [b_tupleL eR, ws_some]
      have hlen : (partsF r row row d.parts).length = r.regs.length := by rw [partsF_len, hl]
      generalize partsF r row row d.parts = f at eR q hlen
      refine lawful_spec (b := true) ok hlen (.inl rfl) (by omega) fun h3 p3 => ?_
      rw [t_bl, ws_some]
      cases c3 : lawF r true f with
      | true =>
        rw [c3, if_pos rfl] at q
        rw [if_pos rfl, b_tupleL (pre_at p3 eR), ws_some]
        exact q h3 (pp.trans p3)
      | false =>
        rw [c3, if_neg (by decide)] at q
        rw [if_neg (by decide)]
        exact q h3 (pp.trans p3)
theorem start_spec {N : Nat} {r : Rules} (ok : OKR r) {h : Hm} {Q : VQ} {E : XP} (q : ∀ h', h <+: h' → Q (rowD (r.regs.map fun g => (g.first : Int))) h') : FW P (N + 1) 161 [rulesD r] h Q E := by
  refine fw_open (d := D161) rfl rfl ?_
  unfold D161
  simp only [wpSs, wpS, wpE, wpEs, wpCs, wpP, wpPs, List.map, List.replicate, List.cons_append, List.nil_append, List.append_nil, List.getElem?_cons_zero, List.getElem?_cons_succ, jn, ws_some, List.length_cons, List.length_nil, List.set, at0, at1, at2, idx_tup, c_gt, c_lt, c_le, c_ge, c_is, c_isnt, c_eqI, c_neI, c_eqS, c_neS, c_eqB, c_neB, isS, isNonD, isBlD, t_bl, b_int, b_abs, b_max2, b_min2, b_lenT, o_add, o_sub, permD, Option.map_some, rulesD]
  rw [it_tup, ws_some]
  refine comp_enc (xs := r.regs) rgD (fun g => some (.int (g.first : Int))) still_nil (by have := ok.r2; unfold LIM; omega) (fun l hm h2 R p k => ?_) fun h2 p2 e2 => ?_
  · have k := k h2 (List.prefix_refl _)
    simp only [rgD, wpSs, wpS, wpE, wpEs, wpCs, wpP, wpPs, List.map, List.replicate, List.cons_append, List.nil_append, List.append_nil, List.getElem?_cons_zero, List.getElem?_cons_succ, jn, ws_some, List.length_cons, List.length_nil, List.set, at0, at1, at2, idx_tup, c_gt, c_lt, c_le, c_ge, c_is, c_isnt, c_eqI, c_neI, c_eqS, c_neS, c_eqB, c_neB, isS, isNonD, isBlD, t_bl, b_int, b_abs, b_max2, b_min2, b_lenT, o_add, o_sub, permD, Option.map_some, wipeE]
    exact ⟨by simp, by simp, by simp, by simp, k⟩
  · rw [filterMap_some] at e2
    rw [b_tupleL e2, ws_some]
    have := q h2 p2
    unfold rowD at this
    rw [List.map_map] at this
    exact this
end M11

end
section
set_option Elab.async false
set_option linter.all false
set_option autoImplicit false
/-! what is told; the boards met -/
namespace M11
open M
def toldQ (r : Rules) (row : List Int) (k : Nat) : Int := match r.qs[k]? with
  | some (_, .yes w) => if holdsF row w = true then 1 else 0
  | some (_, .tells s) => let y := sumF row s; let x := (if y < 9 then y else 9); if x > 0 then x else 0
  | none => 0
theorem told_spec {N : Nat} {r : Rules} (ok : OKR r) {row : List Int} (hl : row.length = r.regs.length) {k : Nat} (hk : k < r.qs.length) {h : Hm} {Q : VQ} {E : XP} (hn : 20 ≤ N) (q : Q (.int (toldQ r row k)) h) : FW P (N + 1) 160 [rulesD r, .int (k : Int), rowD row] h Q E := by
  refine fw_open (d := D160) rfl rfl ?_
  unfold D160
  have hq : (r.qs.map quD)[k]? = some (quD r.qs[k]) := by
    rw [List.getElem?_map, List.getElem?_eq_getElem hk]; rfl
  have okq := (ok.qs _ (List.getElem_mem hk)).ok
  have hqq : r.qs[k]? = some r.qs[k] := List.getElem?_eq_getElem hk
  unfold toldQ at q
  rw [hqq] at q
  generalize r.qs[k] = qu at hq okq q
  have e3 : ∀ {a b c d : D}, atI [a, b, c, d] 3 = some d := fun {a b c d} => rfl
  simp only [wpSs, wpS, wpE, wpEs, wpCs, wpP, wpPs, List.map, List.replicate, List.cons_append, List.nil_append, List.append_nil, List.getElem?_cons_zero, List.getElem?_cons_succ, jn, ws_some, List.length_cons, List.length_nil, List.set, at0, at1, at2, idx_tup, c_gt, c_lt, c_le, c_ge, c_is, c_isnt, c_eqI, c_neI, c_eqS, c_neS, c_eqB, c_neB, isS, isNonD, isBlD, t_bl, b_int, b_abs, b_max2, b_min2, b_lenT, o_add, o_sub, permD, Option.map_some, rulesD, e3]
  rw [at_nat hq]
  obtain ⟨nm, ql⟩ := qu
  cases ql with
  | yes w =>
    simp only [wpSs, wpS, wpE, wpEs, wpCs, wpP, wpPs, List.map, List.replicate, List.cons_append, List.nil_append, List.append_nil, List.getElem?_cons_zero, List.getElem?_cons_succ, jn, ws_some, List.length_cons, List.length_nil, List.set, at0, at1, at2, idx_tup, c_gt, c_lt, c_le, c_ge, c_is, c_isnt, c_eqI, c_neI, c_eqS, c_neS, c_eqB, c_neB, isS, isNonD, isBlD, t_bl, b_int, b_abs, b_max2, b_min2, b_lenT, o_add, o_sub, permD, Option.map_some, quD, qlD, yesS, decide_true, if_true]
    refine ⟨by simp, ?_⟩
    refine holds_spec w N (rowD row) h _ _ (by have := okq.2; omega) (by rw [hl]; exact okq.1) (.inl rfl) ?_
    rw [t_bl, ws_some]
    dsimp only at q
    split
    · rename_i hh
      rw [if_pos hh] at q
      exact q
    · rename_i hh
      rw [if_neg hh] at q
      exact q
  | tells s =>
    simp only [wpSs, wpS, wpE, wpEs, wpCs, wpP, wpPs, List.map, List.replicate, List.cons_append, List.nil_append, List.append_nil, List.getElem?_cons_zero, List.getElem?_cons_succ, jn, ws_some, List.length_cons, List.length_nil, List.set, at0, at1, at2, idx_tup, c_gt, c_lt, c_le, c_ge, c_is, c_isnt, c_eqI, c_neI, c_eqS, c_neS, c_eqB, c_neB, isS, isNonD, isBlD, t_bl, b_int, b_abs, b_max2, b_min2, b_lenT, o_add, o_sub, permD, Option.map_some, quD, qlD, tellsS, show decide ([116, 101, 108, 108, 115] = [121, 101, 115]) = false from by decide, Bool.false_eq_true, if_false]
    refine ⟨by simp, ?_⟩
    refine sum_spec s N (rowD row) h _ _ (by have := okq.2; omega) (by rw [hl]; exact okq.1) (.inl rfl) ?_
    exact q
def startF (r : Rules) : List Int := r.regs.map fun g => (g.first : Int)
theorem course_spec {N : Nat} {r : Rules} (ok : OKR r) {h : Hm} {Q : VQ} {E : XP} (hn : 22 ≤ N) (q : ∀ h', h <+: h' → Q (if lawF r true (startF r) = true then rowD (startF r) else .non) h') : FW P (N + 1) 162 [rulesD r, .tup []] h Q E := by
  obtain ⟨N, rfl⟩ : ∃ N', N = N' + 1 := ⟨N - 1, by omega⟩
  refine fw_open (d := D162) rfl rfl ?_
  unfold D162
  simp only [wpSs, wpS, wpE, wpEs, wpCs, wpP, wpPs, List.map, List.replicate, List.cons_append, List.nil_append, List.append_nil, List.getElem?_cons_zero, List.getElem?_cons_succ, jn, ws_some, List.length_cons, List.length_nil, List.set, at0, at1, at2, idx_tup, c_gt, c_lt, c_le, c_ge, c_is, c_isnt, c_eqI, c_neI, c_eqS, c_neS, c_eqB, c_neB, isS, isNonD, isBlD, t_bl, b_int, b_abs, b_max2, b_min2, b_lenT, o_add, o_sub, permD, Option.map_some]
  refine start_spec ok fun h1 p1 => ?_
  refine lawful_spec (b := true) (row := startF r) ok (by unfold startF; rw [List.length_map]) (.inl rfl) (by omega) fun h2 p2 => ?_
  rw [t_bl, ws_some]
  cases c : lawF r true (startF r) with
  | true =>
    rw [if_pos rfl]
    refine start_spec ok fun h3 p3 => ?_
    refine ⟨by simp, ?_⟩
    rw [it_tup, ws_some]
    have := q h3 (p1.trans (p2.trans p3))
    rw [c, if_pos rfl] at this
    exact ⟨still_nil, this⟩
  | false =>
    rw [if_neg (by decide)]
    refine ⟨by simp, ?_⟩
    rw [it_tup, ws_some]
    have := q h2 (p1.trans p2)
    rw [c, if_neg (by decide)] at this
    exact ⟨still_nil, this⟩
/-! ### one turn of the boards -/
abbrev Row := List Int
abbrev Stp := List (Option Nat)
def turn1 (r : Rules) (row : Row) (st : List Row × Stp) (d : Dd) : List Row × Stp := match doneF r row d with
  | none => (st.1, st.2 ++ [none])
  | some w => match look st.1.zipIdx w with
    | some i => (st.1, st.2 ++ [some i])
    | none => (st.1 ++ [w], st.2 ++ [some st.1.length])
def turnF (r : Rules) (row : Row) (rows : List Row) : List Row × Stp := r.deeds.foldl (turn1 r row) (rows, [])
inductive BRun (r : Rules) : List Row → List Stp → List Row × List Stp → Prop
  | done {rows : List Row} {steps : List Stp} : rows.length ≤ steps.length → BRun r rows steps (rows, steps)
  | step {rows : List Row} {steps : List Stp} {out : List Row × List Stp} : steps.length < rows.length → BRun r (turnF r (rows.getD steps.length []) rows).1 (steps ++ [(turnF r (rows.getD steps.length []) rows).2]) out → BRun r rows steps out
theorem BRun.det {r : Rules} {rows : List Row} {steps : List Stp} {o1 : List Row × List Stp} (a : BRun r rows steps o1) : ∀ {o2 : List Row × List Stp}, BRun r rows steps o2 → o1 = o2 := by
  induction a with
  | done h =>
    intro o2 b
    cases b with
    | done _ => rfl
    | step h2 _ => omega
  | step h _ ih =>
    intro o2 b
    cases b with
    | done h2 => omega
    | step _ b => exact ih b
def Bds (r : Rules) (out : List Row × List Stp) : Prop := if lawF r true (startF r) = true then BRun r [startF r] [] out else out = ([], [])
theorem Bds.det {r : Rules} {o1 o2 : List Row × List Stp} (a : Bds r o1) (b : Bds r o2) : o1 = o2 := by
  unfold Bds at a b
  split at a
  · rw [if_pos (by assumption)] at b
    exact a.det b
  · rw [if_neg (by assumption)] at b
    rw [a, b]
/-- rows of counts within their bounds -/
structure Box (w : Nat) (row : Row) : Prop where
  len : row.length = w
  lo : ∀ x ∈ row, 0 ≤ x ∧ x ≤ 2
def univ : Nat → List Row
  | 0 => [[]]
  | n + 1 => (univ n).flatMap fun l => [0 :: l, 1 :: l, 2 :: l]
theorem univ_len : ∀ n, (univ n).length = 3 ^ n
  | 0 => rfl
  | n + 1 => by
    have h : ∀ l : List Row, (l.flatMap fun l => [(0 : Int) :: l, 1 :: l, 2 :: l]).length = l.length * 3 := fun l => by
      induction l with
      | nil => rfl
      | cons x l ih => rw [List.flatMap_cons, List.length_append, ih, List.length_cons]; simp; omega
    rw [univ, h, univ_len n, Nat.pow_succ]
theorem mem_univ : ∀ {n : Nat} {row : Row}, Box n row → row ∈ univ n
  | 0, [], _ => by simp [univ]
  | 0, _ :: _, b => by have := b.len; simp at this
  | n + 1, [], b => by have := b.len; simp at this
  | n + 1, x :: row, b => by
    have hb : Box n row := ⟨by have := b.len; simpa using this, fun y hy => b.lo y (List.mem_cons_of_mem _ hy)⟩
    have hx := b.lo x List.mem_cons_self
    rw [univ, List.mem_flatMap]
    refine ⟨row, mem_univ hb, ?_⟩
    have : x = 0 ∨ x = 1 ∨ x = 2 := by omega
    rcases this with rfl | rfl | rfl <;> simp
theorem rows_le {w : Nat} (hw : w ≤ 3) {rows : List Row} (nd : rows.Nodup) (b : ∀ x ∈ rows, Box w x) : rows.length ≤ 27 := by
  have h1 := nd.length_le_of_subset fun x hx => mem_univ (b x hx)
  rw [univ_len] at h1
  have : 3 ^ w ≤ 3 ^ 3 := Nat.pow_le_pow_right (by omega) hw
  omega
theorem stepsF_box {r : Rules} (ok : OKR r) {row : Row} {w : Nat} : ∀ (ss : List (Nat × Sm)) (f : Row), (∀ s ∈ ss, s.1 < r.regs.length) → Box w f → Box w (stepsF r row f ss)
  | [], f, _, b => b
  | s :: ss, f, hs, b => by
    refine stepsF_box ok ss _ (fun s' h => hs s' (List.mem_cons_of_mem _ h)) ⟨by rw [List.length_set]; exact b.len, fun x hx => ?_⟩
    rcases List.mem_or_eq_of_mem_set hx with h | rfl
    · exact b.lo x h
    · have h1 := kept_lo (r.regs.getD s.1 nrg) (sumF row s.2)
      have hk := hs s List.mem_cons_self
      have hm : r.regs.getD s.1 nrg ∈ r.regs := by
        rw [List.getD_eq_getElem?_getD, List.getElem?_eq_getElem hk]
        exact List.getElem_mem hk
      have := (ok.rg _ hm).1
      omega
theorem partsF_box {r : Rules} (ok : OKR r) {row : Row} {w : Nat} : ∀ (ps : List (Wh × List (Nat × Sm))) (f : Row), (∀ p ∈ ps, ∀ s ∈ p.2, s.1 < r.regs.length) → Box w f → Box w (partsF r row f ps)
  | [], f, _, b => b
  | p :: ps, f, hp, b => by
    refine partsF_box ok ps _ (fun p' h => hp p' (List.mem_cons_of_mem _ h)) ?_
    show Box w (if holdsF row p.1 = true then stepsF r row f p.2 else f)
    split
    · exact stepsF_box ok p.2 f (hp p List.mem_cons_self) b
    · exact b
theorem done_box {r : Rules} (ok : OKR r) {row w : Row} {d : Dd} (hd : OKD r.regs.length d) (b : Box r.regs.length row) (h : doneF r row d = some w) : Box r.regs.length w := by
  unfold doneF at h
  split at h
  · split at h
    · cases h
      exact partsF_box ok _ _ (fun p hp s hs => ((hd.parts p hp).2 s hs).1) b
    · cases h
  · cases h
theorem start_box {r : Rules} (ok : OKR r) : Box r.regs.length (startF r) := by
  refine ⟨by unfold startF; rw [List.length_map], fun x hx => ?_⟩
  obtain ⟨g, hg, rfl⟩ := List.mem_map.mp hx
  have := ok.rg g hg
  omega
theorem look_zip_some {rows : List Row} {w : Row} {i : Nat} (h : look rows.zipIdx w = some i) : i < rows.length ∧ w ∈ rows := by
  have := look_mem h
  have h2 := List.mem_zipIdx this
  simp at h2
  refine ⟨h2.1, ?_⟩
  rw [h2.2]
  exact List.getElem_mem _
theorem look_zip_none {rows : List Row} {w : Row} (h : look rows.zipIdx w = none) : w ∉ rows := fun hm => by
  have := look_none h
  rw [List.zipIdx_map_fst] at this
  exact this hm
theorem zip_put {rows : List Row} {w : Row} (h : look rows.zipIdx w = none) : put rows.zipIdx w rows.length = (rows ++ [w]).zipIdx := by
  rw [put_new h, List.zipIdx_append]
  simp
theorem look_zip_last {rows : List Row} {w : Row} (h : look rows.zipIdx w = none) : look (rows ++ [w]).zipIdx w = some rows.length := by
  rw [← zip_put h]
  exact look_put_same _ _ _
/-- how the boards stand -/
structure BS (r : Rules) (rows : List Row) (steps : List Stp) : Prop where
  nd : rows.Nodup
  box : ∀ x ∈ rows, Box r.regs.length x
  wf : ∀ s ∈ steps, s.length = r.deeds.length ∧ ∀ t, some t ∈ s → t < rows.length
theorem o_len {rows : List Row} : (rows.map rowD).length = rows.length := List.length_map _
def rowsG (steps : List Stp) : List D := steps.map stepD
def F163 : CS := .for_ (.slot 5) .range [(.blt .len [(.idx (.loc 0) (.lit (.int (1))))])] [
      .asg (.slot 6) (.call 159 [(.loc 0), (.idx (.loc 1) (.blt .len [(.loc 3)])), (.loc 5)] [] [0, 1, 2]),
      .ite (.and (.cmp .isnt (.loc 6) (.lit .non)) (.cmp .notin (.loc 6) (.loc 2))) [
        .set (.loc 2) (.loc 6) (.blt .len [(.loc 1)]),
        .expr (.meth .append (.loc 1) [(.loc 6)])] [],
      .expr (.meth .append (.loc 4) [(.ife (.cmp .is (.loc 6) (.lit .non)) (.lit .non) (.idx (.loc 2) (.loc 6)))])]
def W163 : CS := .whil (.cmp .lt (.blt .len [(.loc 3)]) (.blt .len [(.loc 1)])) [
    .asg (.slot 4) (.lst []),
    F163,
    .expr (.meth .append (.loc 3) [(.blt .tuple [(.loc 4)])])]
theorem d163_eq : D163 = ⟨1, 7, [
  .ite (.cmp .is (.call 162 [(.loc 0), (.tup [])] [] [0, 1]) (.lit .non)) [
    .ret (.tup [(.lst []), (.lst [])])] [],
  .asg (.tup [(.slot 1), (.slot 2), (.slot 3)]) (.tup [(.lst [(.call 161 [(.loc 0)] [] [0])]), (.dctP [(.call 161 [(.loc 0)] [] [0]), (.lit (.int (0)))]), (.lst [])]),
  W163,
  .ret (.tup [(.loc 1), (.loc 3)])]⟩ := rfl
theorem deeds_at {r : Rules} : atI [.tup (r.regs.map rgD), .tup (r.deeds.map ddD), .tup (r.laws.map lwD), .tup (r.qs.map quD)] 1 = some (.tup (r.deeds.map ddD)) := at1
theorem f163 {N : Nat} {r : Rules} (ok : OKR r) (hn : 22 ≤ N) {rows0 : List Row} {steps : List Stp} (bs : BS r rows0 steps) (hs : steps.length < rows0.length) {h : Hm} {R Pd S L : Nat} (d1 : R ≠ Pd) (d2 : R ≠ S) (d3 : Pd ≠ S) (d4 : L ≠ R) (d5 : L ≠ Pd) (d6 : L ≠ S) (h0 : Nat) (l1 : h0 ≤ R) (l2 : h0 ≤ Pd) (l4 : h0 ≤ L) {hb : Hm} (hb0 : hb.length ≤ h0) (pb : hb <+: h)
    (eR : h[R]? = some (.lst (rows0.map rowD))) (eP : h[Pd]? = some (.dct (encL encT natd rows0.zipIdx))) (eS : h[S]? = some (.lst (rowsG steps))) (eL : h[L]? = some (.lst [])) {e5 e6 : Option D} {E : XP} {Z : Ends}
    (q : ∀ h' e5 e6, hb <+: h' → h'[R]? = some (.lst ((turnF r (rows0.getD steps.length []) rows0).1.map rowD)) → h'[Pd]? = some (.dct (encL encT natd (turnF r (rows0.getD steps.length []) rows0).1.zipIdx)) → h'[S]? = some (.lst (rowsG steps)) → h'[L]? = some (.lst ((turnF r (rows0.getD steps.length []) rows0).2.map optD)) → BS r (turnF r (rows0.getD steps.length []) rows0).1 (steps ++ [(turnF r (rows0.getD steps.length []) rows0).2]) → Z.nx [some (rulesD r), some (.ref R), some (.ref Pd), some (.ref S), some (.ref L), e5, e6] h') :
    wpS (FW P N) E F163 [some (rulesD r), some (.ref R), some (.ref Pd), some (.ref S), some (.ref L), e5, e6] h Z := by
  obtain ⟨N, rfl⟩ : ∃ N', N = N' + 1 := ⟨N - 1, by omega⟩
  unfold F163
  simp only [wpSs, wpS, wpE, wpEs, wpCs, wpP, wpPs, List.map, List.replicate, List.cons_append, List.nil_append, List.append_nil, List.getElem?_cons_zero, List.getElem?_cons_succ, jn, ws_some, List.length_cons, List.length_nil, List.set, at0, at1, at2, idx_tup, c_gt, c_lt, c_le, c_ge, c_is, c_isnt, c_eqI, c_neI, c_eqS, c_neS, c_eqB, c_neB, isS, isBlD, t_bl, b_int, b_abs, b_max2, b_min2, b_lenT, o_add, o_sub, permD, Option.map_some, rulesD]
  have hd2 := ok.d2
  rw [List.length_map, it_range (by omega) (by omega), ws_some]
  have hcur : rows0.getD steps.length [] ∈ rows0 := by
    rw [List.getD_eq_getElem?_getD, List.getElem?_eq_getElem hs]
    exact List.getElem_mem hs
  have bcur := bs.box _ hcur
  generalize hrow : rows0.getD steps.length [] = row at hcur bcur q
  refine forL_inv (fun l env h' => ∃ (j : Nat) (rows : List Row) (out : Stp) (e5 e6 : Option D), l = (rngD 0 (r.deeds.length : Int).toNat).drop j ∧ j ≤ r.deeds.length ∧ (r.deeds.take j).foldl (turn1 r row) (rows0, []) = (rows, out) ∧ hb <+: h' ∧ rows0 <+: rows ∧ rows.Nodup ∧ (∀ x ∈ rows, Box r.regs.length x) ∧ out.length = j ∧ (∀ t, some t ∈ out → t < rows.length) ∧ h'[R]? = some (.lst (rows.map rowD)) ∧ h'[Pd]? = some (.dct (encL encT natd rows.zipIdx)) ∧ h'[S]? = some (.lst (rowsG steps)) ∧ h'[L]? = some (.lst (out.map optD)) ∧ env = [some (rulesD r), some (.ref R), some (.ref Pd), some (.ref S), some (.ref L), e5, e6])
    (fun _ _ _ _ => still_nil) (fun x l env h' Rr hi kk => ?_) (fun env h' hi => ?_) _ _ _ ⟨0, rows0, [], _, _, rfl, by omega, rfl, pb, List.prefix_refl _, bs.nd, bs.box, rfl, (fun t ht => nomatch ht), eR, eP, eS, eL, rfl⟩
  · obtain ⟨j, rows, out, e5, e6, hj, hjl, hf, pb, pr, nd, bx, ol, ot, eR, eP, eS, eL, rfl⟩ := hi
    have hjn : j < (r.deeds.length : Int).toNat := by
      rcases Nat.lt_or_ge j (r.deeds.length : Int).toNat with z | z
      · exact z
      · rw [rng_end z] at hj; cases hj
    rw [rng_drop hjn] at hj
    cases hj
    have hjd : j < r.deeds.length := by omega
    have hr27 := rows_le ok.r2 nd bx
    have hft : (r.deeds.take (j + 1)).foldl (turn1 r row) (rows0, []) = turn1 r row (rows, out) (r.deeds.getD j ndd) := by
      rw [List.take_succ_eq_append_getElem hjd, List.foldl_append, hf, List.getD_eq_getElem?_getD, List.getElem?_eq_getElem hjd]
      rfl
    have okd := ok.dd _ (deed_mem hjd)
    simp only [wpSs, wpS, wpE, wpEs, wpCs, wpP, wpPs, List.map, List.replicate, List.cons_append, List.nil_append, List.append_nil, List.getElem?_cons_zero, List.getElem?_cons_succ, jn, ws_some, List.length_cons, List.length_nil, List.set, at0, at1, at2, idx_tup, c_gt, c_lt, c_le, c_ge, c_is, c_isnt, c_eqI, c_neI, c_eqS, c_neS, c_eqB, c_neB, isS, isBlD, t_bl, b_int, b_abs, b_max2, b_min2, b_lenT, o_add, o_sub, permD, Option.map_some]
    refine ⟨by simp, ?_⟩
    rw [b_lenL eS, ws_some]
    have hsl : (rowsG steps).length = steps.length := List.length_map _
    have hat : idxS (.ref R) (.int ((rowsG steps).length : Int)) h' = some (rowD row) := by
      rw [idx_lst eR, hsl]
      refine at_nat ?_
      obtain ⟨t, rfl⟩ := pr
      rw [List.getElem?_map, List.getElem?_append_left hs, List.getElem?_eq_getElem hs]
      rw [List.getD_eq_getElem?_getD, List.getElem?_eq_getElem hs] at hrow
      rw [← hrow]
      rfl
    rw [hat, ws_some]
    refine done_spec (N := N) (row := row) ok bcur.len hjd (by omega) fun h1 p1 => ?_
    refine ⟨by simp, ?_⟩
    have eR1 := pre_at p1 eR
    have eP1 := pre_at p1 eP
    have eS1 := pre_at p1 eS
    have eL1 := pre_at p1 eL
    have pb1 := pb.trans p1
    cases hdone : doneF r row (r.deeds.getD j ndd) with
    | none =>
      have ht : turn1 r row (rows, out) (r.deeds.getD j ndd) = (rows, out ++ [none]) := by
        unfold turn1; rw [hdone]
      rw [ht] at hft
      have hN : isNonD (optR none) = true := rfl
      simp only [hN, Bool.not_true, t_bl, ws_some, Bool.false_eq_true, if_false, if_true]
      refine ⟨rec_app eL1, ?_⟩
      rw [app_at eL1 (by rw [List.length_map]; omega), ws_some]
      refine kk _ _ ⟨j + 1, rows, out ++ [none], _, _, rfl, by omega, hft, pre_set pb1 (by omega) _, pr, nd, bx, by simp [ol], fun t ht => ot t (by simpa using ht), ?_, ?_, ?_, ?_, rfl⟩
      · rw [List.getElem?_set_ne d4]; exact eR1
      · rw [List.getElem?_set_ne d5]; exact eP1
      · rw [List.getElem?_set_ne d6]; exact eS1
      · rw [set_at eL1, List.map_append]; rfl
    | some w =>
      have bw := done_box ok okd bcur hdone
      have hin : keyIn (encL encT natd rows.zipIdx) (rowD w) = true := enc_in encT natd rows.zipIdx w
      have hgt : dget (encL encT natd rows.zipIdx) (rowD w) = (look rows.zipIdx w).map natd := enc_get encT natd rows.zipIdx w
      have eo : optR (some w) = rowD w := rfl
      have hnn : isNonD (rowD w) = false := rfl
      rw [eo]
      simp only [hnn, Bool.not_false, t_bl, ws_some, if_true]
      rw [in_dict eP1 hin, hgt, ws_some, Option.isSome_map]
      cases hlk : look rows.zipIdx w with
      | some i =>
        have ht : turn1 r row (rows, out) (r.deeds.getD j ndd) = (rows, out ++ [some i]) := by
          unfold turn1; rw [hdone]; simp only [hlk]
        rw [ht] at hft
        have hi := look_zip_some hlk
        simp only [Option.isSome_some, Bool.not_true, t_bl, ws_some, Bool.false_eq_true, if_false]
        refine ⟨rec_app eL1, ?_⟩
        have hx : idxS (.ref Pd) (rowD w) h1 = some (.int (i : Int)) := by
          simp only [idxS, eP1, hin, if_true, hgt, hlk]
          rfl
        rw [hx, ws_some, app_at eL1 (by rw [List.length_map]; omega), ws_some]
        refine kk _ _ ⟨j + 1, rows, out ++ [some i], _, _, rfl, by omega, hft, pre_set pb1 (by omega) _, pr, nd, bx, by simp [ol], fun t ht => ?_, ?_, ?_, ?_, ?_, rfl⟩
        · rcases List.mem_append.mp ht with ht | ht
          · exact ot t ht
          · rw [List.mem_singleton] at ht; cases ht; exact hi.1
        · rw [List.getElem?_set_ne d4]; exact eR1
        · rw [List.getElem?_set_ne d5]; exact eP1
        · rw [List.getElem?_set_ne d6]; exact eS1
        · rw [set_at eL1, List.map_append]; rfl
      | none =>
        have ht : turn1 r row (rows, out) (r.deeds.getD j ndd) = (rows ++ [w], out ++ [some rows.length]) := by
          unfold turn1; rw [hdone]; simp only [hlk]
        rw [ht] at hft
        have hnw := look_zip_none hlk
        simp only [Option.isSome_none, Bool.not_false, t_bl, ws_some, if_true]
        rw [b_lenL eR1, ws_some, o_len]
        have hput : dput (encL encT natd rows.zipIdx) (rowD w) (.int (rows.length : Int)) = encL encT natd (rows ++ [w]).zipIdx := by
          rw [← zip_put hlk]
          exact enc_put encT natd rows.zipIdx w rows.length
        have hset : setS (.ref Pd) (rowD w) (.int (rows.length : Int)) h1 = some (h1.set Pd (.dct (encL encT natd (rows ++ [w]).zipIdx))) := by
          simp only [setS, eP1]
          rw [if_pos ⟨hin, by unfold encL; rw [List.length_map, List.length_zipIdx]; unfold LIM; omega⟩, hput]
        rw [hset, ws_some]
        have eR2 : (h1.set Pd (.dct (encL encT natd (rows ++ [w]).zipIdx)))[R]? = some (.lst (rows.map rowD)) := by
          rw [List.getElem?_set_ne d1.symm]; exact eR1
        refine ⟨rec_app eR2, ?_⟩
        rw [app_at eR2 (by rw [o_len]; omega), ws_some]
        have eP3 : ((h1.set Pd (.dct (encL encT natd (rows ++ [w]).zipIdx))).set R (.lst (rows.map rowD ++ [rowD w])))[Pd]? = some (.dct (encL encT natd (rows ++ [w]).zipIdx)) := by
          rw [List.getElem?_set_ne d1]; exact set_at eP1
        have eL3 : ((h1.set Pd (.dct (encL encT natd (rows ++ [w]).zipIdx))).set R (.lst (rows.map rowD ++ [rowD w])))[L]? = some (.lst (out.map optD)) := by
          rw [List.getElem?_set_ne d4.symm, List.getElem?_set_ne d5.symm]; exact eL1
        have eS3 : ((h1.set Pd (.dct (encL encT natd (rows ++ [w]).zipIdx))).set R (.lst (rows.map rowD ++ [rowD w])))[S]? = some (.lst (rowsG steps)) := by
          rw [List.getElem?_set_ne d2, List.getElem?_set_ne d3]; exact eS1
        have eR3 : ((h1.set Pd (.dct (encL encT natd (rows ++ [w]).zipIdx))).set R (.lst (rows.map rowD ++ [rowD w])))[R]? = some (.lst ((rows ++ [w]).map rowD)) := by
          rw [set_at eR2, List.map_append]; rfl
        have pb3 : hb <+: (h1.set Pd (.dct (encL encT natd (rows ++ [w]).zipIdx))).set R (.lst (rows.map rowD ++ [rowD w])) := pre_set (pre_set pb1 (by omega) _) (by omega) _
        generalize (h1.set Pd (.dct (encL encT natd (rows ++ [w]).zipIdx))).set R (.lst (rows.map rowD ++ [rowD w])) = h3 at eP3 eL3 eS3 eR3 pb3
        refine ⟨rec_app eL3, ?_⟩
        have hin3 : keyIn (encL encT natd (rows ++ [w]).zipIdx) (rowD w) = true := enc_in encT natd _ w
        have hgt3 : dget (encL encT natd (rows ++ [w]).zipIdx) (rowD w) = (look (rows ++ [w]).zipIdx w).map natd := enc_get encT natd _ w
        have hx : idxS (.ref Pd) (rowD w) h3 = some (.int (rows.length : Int)) := by
          simp only [idxS, eP3, hin3, if_true, hgt3, look_zip_last hlk]
          rfl
        rw [if_neg (by decide)]
        dsimp only
        rw [hx, ws_some, app_at eL3 (by rw [List.length_map]; omega), ws_some]
        refine kk _ _ ⟨j + 1, rows ++ [w], out ++ [some rows.length], _, _, rfl, by omega, hft, pre_set pb3 (by omega) _, pr.trans (List.prefix_append _ _), ?_, fun x hx => ?_, by simp [ol], fun t ht => ?_, ?_, ?_, ?_, ?_, rfl⟩
        · rw [List.nodup_append]
          exact ⟨nd, by simp, fun a ha b hb e => hnw (by rw [← List.mem_singleton.mp hb, ← e]; exact ha)⟩
        · rcases List.mem_append.mp hx with hx | hx
          · exact bx x hx
          · rw [List.mem_singleton.mp hx]; exact bw
        · rw [List.length_append, List.length_singleton]
          rcases List.mem_append.mp ht with ht | ht
          · have := ot t ht; omega
          · rw [List.mem_singleton] at ht; cases ht; omega
        · rw [List.getElem?_set_ne d4]; exact eR3
        · rw [List.getElem?_set_ne d5]; exact eP3
        · rw [List.getElem?_set_ne d6]; exact eS3
        · rw [set_at eL3, List.map_append]; rfl
  · obtain ⟨j, rows, out, e5, e6, hj, hjl, hf, pb, pr, nd, bx, ol, ot, eR, eP, eS, eL, rfl⟩ := hi
    have hjn : (r.deeds.length : Int).toNat ≤ j := by
      rcases Nat.lt_or_ge j (r.deeds.length : Int).toNat with z | z
      · rw [rng_drop z] at hj; cases hj
      · exact z
    have hjd : j = r.deeds.length := by omega
    subst hjd
    rw [List.take_length] at hf
    have ht : turnF r row rows0 = (rows, out) := hf
    rw [ht] at q
    refine q h' _ _ pb eR eP eS eL ⟨nd, bx, fun s hs' => ?_⟩
    rcases List.mem_append.mp hs' with hs' | hs'
    · have := bs.wf s hs'
      exact ⟨this.1, fun t ht => by
        have h1 := this.2 t ht
        have h2 := pr.length_le
        show t < rows.length
        omega⟩
    · rw [List.mem_singleton.mp hs']
      exact ⟨ol, ot⟩
end M11

end
section
set_option Elab.async false
set_option linter.all false
set_option autoImplicit false
/-! the boards, whole -/
namespace M11
open M
theorem w163 {N : Nat} {r : Rules} (ok : OKR r) (hn : 22 ≤ N) {h hb : Hm} {R Pd S : Nat} (d1 : R ≠ Pd) (d2 : R ≠ S) (d3 : Pd ≠ S) (l1 : hb.length ≤ R) (l2 : hb.length ≤ Pd) (l3 : hb.length ≤ S) (pb : hb <+: h)
    (eR : h[R]? = some (.lst ([startF r].map rowD))) (eP : h[Pd]? = some (.dct (encL encT natd [startF r].zipIdx))) (eS : h[S]? = some (.lst [])) {e4 e5 e6 : Option D} {E : XP} {Z : Ends}
    (q : ∀ h' rows steps e4 e5 e6, hb <+: h' → h'[R]? = some (.lst (rows.map rowD)) → h'[S]? = some (.lst (rowsG steps)) → BRun r [startF r] [] (rows, steps) → BS r rows steps → rows.length = steps.length → 1 ≤ rows.length → Z.nx [some (rulesD r), some (.ref R), some (.ref Pd), some (.ref S), e4, e5, e6] h') :
    wpS (FW P N) E W163 [some (rulesD r), some (.ref R), some (.ref Pd), some (.ref S), e4, e5, e6] h Z := by
  unfold W163
  rw [wpS]
  refine ⟨fun m env h' => ∃ (rows : List Row) (steps : List Stp) (e4 e5 e6 : Option D), m = 27 - steps.length ∧ steps.length ≤ rows.length ∧ 1 ≤ rows.length ∧ BS r rows steps ∧ (∀ out, BRun r rows steps out → BRun r [startF r] [] out) ∧ hb <+: h' ∧ h'[R]? = some (.lst (rows.map rowD)) ∧ h'[Pd]? = some (.dct (encL encT natd rows.zipIdx)) ∧ h'[S]? = some (.lst (rowsG steps)) ∧ env = [some (rulesD r), some (.ref R), some (.ref Pd), some (.ref S), e4, e5, e6],
    ⟨_, [startF r], [], _, _, _, rfl, by simp, by simp, ⟨by simp, (fun x hx => by rw [List.mem_singleton.mp hx]; exact start_box ok), (fun s hs => nomatch hs)⟩, (fun out ho => ho), pb, eR, eP, eS, rfl⟩, fun m env h' hi => ?_⟩
  obtain ⟨rows, steps, e4, e5, e6, rfl, hsl, h1r, bs, hrun, pb, eR, eP, eS, rfl⟩ := hi
  have h27 := rows_le ok.r2 bs.nd bs.box
  simp only [wpE, wpEs, List.getElem?_cons_succ, List.getElem?_cons_zero, Option.join_some, ws_some]
  rw [b_lenL eS, ws_some, b_lenL eR, ws_some]
  have e1 : (rowsG steps).length = steps.length := List.length_map _
  rw [e1, o_len, c_lt, ws_some, t_bl, ws_some]
  by_cases c : steps.length < rows.length
  · rw [decide_eq_true (by omega : (steps.length : Int) < (rows.length : Int)), if_pos rfl]
    rw [wpSs, wpS]
    simp only [wpE, wpEs, wpP, List.set]
    refine ⟨by simp, ?_⟩
    rw [wpSs]
    dsimp only
    have hR : R < h'.length := (List.getElem?_eq_some_iff.mp eR).1
    have hP : Pd < h'.length := (List.getElem?_eq_some_iff.mp eP).1
    have hS : S < h'.length := (List.getElem?_eq_some_iff.mp eS).1
    have hbl : hb.length ≤ h'.length := (pre_iff.mp pb).1
    refine f163 ok hn bs c d1 d2 d3 (L := h'.length) (by omega) (by omega) (by omega) hb.length l1 l2 hbl (hb := hb) (Nat.le_refl _) (pb.trans pre_one) (pre_at pre_one eR) (pre_at pre_one eP) (pre_at pre_one eS) last_at fun h2 e5 e6 pb2 eR2 eP2 eS2 eL2 bs2 => ?_
    dsimp only
    rw [wpSs, wpS, wpE]
    simp only [wpE, wpEs, List.getElem?_cons_succ, List.getElem?_cons_zero, Option.join_some, ws_some]
    refine ⟨rec_app eS2, ?_⟩
    rw [b_tupleL eL2, ws_some]
    rw [app_at eS2 (by rw [e1]; omega), ws_some]
    rw [wpSs]
    have t27 := rows_le ok.r2 bs2.nd bs2.box
    have hst : steps.length < (turnF r (rows.getD steps.length []) rows).1.length ∧ rows.length ≤ (turnF r (rows.getD steps.length []) rows).1.length := by
      have key : ∀ (ds : List Dd) (st : List Row × Stp), st.1.length ≤ (ds.foldl (turn1 r (rows.getD steps.length [])) st).1.length := fun ds => by
        induction ds with
        | nil => intro st; exact Nat.le_refl _
        | cons d ds ih =>
          intro st
          rw [List.foldl_cons]
          refine Nat.le_trans ?_ (ih _)
          unfold turn1
          split
          · exact Nat.le_refl _
          · split
            · exact Nat.le_refl _
            · simp
      have := key r.deeds (rows, [])
      exact ⟨Nat.lt_of_lt_of_le c this, this⟩
    refine ⟨27 - (steps.length + 1), by omega, _, steps ++ [(turnF r (rows.getD steps.length []) rows).2], _, _, _, by rw [List.length_append, List.length_singleton], by rw [List.length_append, List.length_singleton]; omega, by omega, bs2, (fun out ho => hrun out (.step c ho)), pre_set pb2 (by omega) _, ?_, ?_, ?_, rfl⟩
    · rw [List.getElem?_set_ne d2.symm]; exact eR2
    · rw [List.getElem?_set_ne d3.symm]; exact eP2
    · rw [set_at eS2]
      unfold rowsG
      rw [List.map_append]; rfl
  · rw [decide_eq_false (by omega : ¬ (steps.length : Int) < (rows.length : Int)), if_neg (by decide)]
    exact q h' rows steps _ _ _ pb eR eS (hrun _ (.done (by omega))) bs (by omega) h1r
/-- what the boards give -/
structure BdsOk (r : Rules) (rows : List Row) (steps : List Stp) : Prop where
  run : Bds r (rows, steps)
  bs : BS r rows steps
  len : rows.length = steps.length
theorem boards_spec {N : Nat} {r : Rules} (ok : OKR r) {h : Hm} {Q : VQ} {E : XP} (hn : 24 ≤ N) (q : ∀ h' R S rows steps, h <+: h' → BdsOk r rows steps → h'[R]? = some (.lst (rows.map rowD)) → h'[S]? = some (.lst (rowsG steps)) → Q (.tup [.ref R, .ref S]) h') : FW P (N + 1) 163 [rulesD r] h Q E := by
  obtain ⟨N, rfl⟩ : ∃ N', N = N' + 1 := ⟨N - 1, by omega⟩
  refine fw_open (d := D163) rfl rfl ?_
  rw [d163_eq]
  simp only [List.map, List.replicate]
  rw [wpSs, wpS]
  simp only [wpE, wpEs, List.cons_append, List.nil_append, List.getElem?_cons_zero, Option.join_some, ws_some, permD]
  refine course_spec ok (by omega) fun h1 p1 => ?_
  cases c : lawF r true (startF r) with
  | false =>
    rw [if_neg (by decide)]
    simp only [c_is, isS, isNonD, ws_some, t_bl, if_true]
    rw [wpSs, wpS]
    simp only [wpE, wpEs]
    have e1 : (h1 ++ [Cell.lst []] ++ [Cell.lst []])[h1.length]? = some (.lst ([].map rowD)) := pre_at pre_one last_at
    have e2 : (h1 ++ [Cell.lst []] ++ [Cell.lst []])[(h1 ++ [Cell.lst []]).length]? = some (.lst (rowsG [])) := last_at
    refine q _ _ _ [] [] (p1.trans (pre_one.trans pre_one)) ⟨?_, ⟨by simp, (fun x hx => nomatch hx), (fun x hx => nomatch hx)⟩, rfl⟩ e1 e2
    unfold Bds
    rw [c, if_neg (by decide)]
  | true =>
    rw [if_pos rfl]
    have hnn : isNonD (rowD (startF r)) = false := rfl
    simp only [c_is, isS, hnn, ws_some, t_bl, Bool.false_eq_true, if_false]
    rw [wpSs]
    dsimp only
    rw [wpSs, wpS]
    simp only [wpE, wpEs, List.getElem?_cons_zero, Option.join_some, ws_some, permD, List.append_nil]
    refine start_spec ok fun h2 p2 => ?_
    refine start_spec ok fun h3 p3 => ?_
    have e0 : (r.regs.map fun g => (g.first : Int)) = startF r := rfl
    rw [e0] at *
    have eD : h3[(h2 ++ [Cell.lst [rowD (startF r)]]).length]? = some (.dct []) := pre_at p3 last_at
    have hm : mergeK [] [(rowD (startF r), D.int 0)] = some (encL encT natd [startF r].zipIdx) := by
      have hk : keyIn [] (rowD (startF r)) = true := enc_in encT natd [] (startF r)
      rw [mergeK, if_pos hk, mergeK]
      rfl
    have ev : evens [rowD (startF r), D.int 0] = some [(rowD (startF r), D.int 0)] := rfl
    rw [ev, ws_some]
    refine ⟨eD, by simp, ?_⟩
    rw [hm, ws_some]
    simp only [wpP, wpPs, List.set]
    refine ⟨by simp, by simp, by simp, ?_⟩
    have l2 : (h2 ++ [Cell.lst [rowD (startF r)]]).length = h2.length + 1 := by simp
    rw [l2] at eD ⊢
    have p23 : h2 <+: h3 := pre_one.trans (pre_one.trans p3)
    have hl3 : h2.length + 1 < h3.length := (List.getElem?_eq_some_iff.mp eD).1
    have eRR : h3[h2.length]? = some (.lst [rowD (startF r)]) := pre_at p3 (pre_at pre_one last_at)
    have eR : (h3.set (h2.length + 1) (.dct (encL encT natd [startF r].zipIdx)) ++ [Cell.lst []])[h2.length]? = some (.lst ([startF r].map rowD)) := by
      refine pre_at pre_one ?_
      rw [List.getElem?_set_ne (by omega)]
      exact eRR
    have eP : (h3.set (h2.length + 1) (.dct (encL encT natd [startF r].zipIdx)) ++ [Cell.lst []])[h2.length + 1]? = some (.dct (encL encT natd [startF r].zipIdx)) := pre_at pre_one (set_at eD)
    have eS : (h3.set (h2.length + 1) (.dct (encL encT natd [startF r].zipIdx)) ++ [Cell.lst []])[(h3.set (h2.length + 1) (.dct (encL encT natd [startF r].zipIdx))).length]? = some (.lst []) := last_at
    have lS : (h3.set (h2.length + 1) (.dct (encL encT natd [startF r].zipIdx))).length = h3.length := List.length_set
    rw [lS] at eS ⊢
    have pS : h2 <+: h3.set (h2.length + 1) (.dct (encL encT natd [startF r].zipIdx)) ++ [Cell.lst []] := (pre_set p23 (by omega) _).trans pre_one
    generalize h3.set (h2.length + 1) (.dct (encL encT natd [startF r].zipIdx)) ++ [Cell.lst []] = h4 at eR eP eS pS ⊢
    rw [wpSs]
    refine w163 ok (by omega) (hb := h2) (by omega) (by omega) (by omega) (Nat.le_refl _) (by omega) (by omega) pS eR eP eS fun h5 rows steps e4 e5 e6 pb eR5 eS5 run bs hl h1r => ?_
    dsimp only
    rw [wpSs, wpS]
    simp only [wpE, wpEs, List.getElem?_cons_succ, List.getElem?_cons_zero, Option.join_some, ws_some]
    refine q _ _ _ rows steps (p1.trans (p2.trans pb)) ⟨?_, bs, hl⟩ eR5 eS5
    unfold Bds
    rw [c, if_pos rfl]
    exact run
end M11

end
section
set_option Elab.async false
set_option linter.all false
set_option autoImplicit false
/-! the least machine: the boards gone through by kinds -/
namespace M11
open M
def W164 : CS :=
  .whil (.cmp .lt (.blt .len [(.loc 10)]) (.blt .len [(.loc 8)])) [
    .asg (.slot 11) (.lst []),
    .for_ (.slot 12) .val [(.idx (.loc 3) (.idx (.loc 8) (.blt .len [(.loc 10)])))] [
      .ite (.and (.cmp .isnt (.loc 12) (.lit .non)) (.cmp .notin (.idx (.loc 5) (.loc 12)) (.loc 9))) [
        .set (.loc 9) (.idx (.loc 5) (.loc 12)) (.blt .len [(.loc 8)]),
        .expr (.meth .append (.loc 8) [(.loc 12)])] [],
      .expr (.meth .append (.loc 11) [(.ife (.cmp .is (.loc 12) (.lit .non)) (.lit .non) (.idx (.loc 9) (.idx (.loc 5) (.loc 12))))])],
    .expr (.meth .append (.loc 10) [(.blt .tuple [(.loc 11)])])]
/-- the least machine's boards, as the loops go -/
abbrev St1 := (List Nat × List (Nat × Nat)) × List (Option Nat)
def st1 (L : List Nat) (s : St1) : Option Nat → St1
  | none => (s.1, s.2 ++ [none])
  | some t => match look s.1.2 (L.getD t 0) with
    | some v => (s.1, s.2 ++ [some v])
    | none => ((s.1.1 ++ [t], put s.1.2 (L.getD t 0) s.1.1.length), s.2 ++ [some s.1.1.length])
def rowO (L : List Nat) (s : List Nat × List (Nat × Nat)) (row : List (Option Nat)) : St1 := row.foldl (st1 L) (s, [])
inductive MRun (Z : List (List (Option Nat))) (L : List Nat) : List Nat × List (Nat × Nat) → List (List (Option Nat)) → List Nat × List (List (Option Nat)) → Prop
  | done {s : List Nat × List (Nat × Nat)} {found : List (List (Option Nat))} : s.1.length ≤ found.length → MRun Z L s found (s.1, found)
  | step {s : List Nat × List (Nat × Nat)} {found : List (List (Option Nat))} {out : List Nat × List (List (Option Nat))} : found.length < s.1.length → MRun Z L (rowO L s (Z.getD (s.1.getD found.length 0) [])).1 (found ++ [(rowO L s (Z.getD (s.1.getD found.length 0) [])).2]) out → MRun Z L s found out
/-- what stands when the boards are gone through -/
structure BO (Z : List (List (Option Nat))) (L : List Nat) (m : Nat) (order : List Nat) (ps : List (Nat × Nat)) (found : List (List (Option Nat))) : Prop where
  bi : BI L order ps
  zero : 0 ∈ order
  le : found.length ≤ order.length
  row : ∀ r ∈ found, r.length = m ∧ ∀ t, some t ∈ r → t < order.length
  done : ∀ (i o : Nat), i < found.length → order[i]? = some o → ∀ t, some t ∈ Z.getD o [] → ∃ o' ∈ order, L.getD o' 0 = L.getD t 0
set_option maxRecDepth 20000 in
theorem bfs_spec {Z : List (List (Option Nat))} {n m : Nat} (hn2 : n ≤ 30) (hm2 : m ≤ 30) (hZn : Z.length = n) (hSr : ∀ r ∈ Z, r.length = m ∧ ∀ t, some t ∈ r → t < Z.length) {L : List Nat} (hLl : L.length = n) (hLn : ∀ x ∈ L, x < n) {hb h0 : Hm} {z c4 O : Nat} {x0 x1 x2 x4 x7 x16 x17 x18 e5 e9 e10 e11 e12 e13 : Option D} (ez : hb[z]? = some (.lst (Z.map stepD))) (eK : hb[c4]? = some (.lst (natsD L))) (pb : hb <+: h0) (hO : hb.length ≤ O) (eO : h0[O]? = some (.lst (natsD [0]))) (eP : h0[O + 1]? = some (.dct (encL encNat natd [(L.getD 0 0, 0)]))) (eF : h0[O + 2]? = some (.lst [])) (hn1 : 1 ≤ n) {N : Nat} {E : XP} {Zt : Ends}
    (kz : ∀ (order : List Nat) (ps : List (Nat × Nat)) (found : List (List (Option Nat))) (e9 e10 e11 e12 e13 : Option D) (hh : Hm), hb <+: hh → BO Z L m order ps found → MRun Z L ([0], [(L.getD 0 0, 0)]) [] (order, found) → found.length = order.length → hh[O]? = some (.lst (natsD order)) → hh[O + 2]? = some (.lst (found.map stepD)) → Zt.nx [x0, x1, x2, some (.ref z), x4, some (.ref c4), e5, x7, some (.ref O), some (.ref (O + 1)), some (.ref (O + 2)), e9, e10, e11, e12, e13, x16, x17, x18] hh) :
    wpS (FW P N) E W164 [x0, x1, x2, some (.ref z), x4, some (.ref c4), e5, x7, some (.ref O), some (.ref (O + 1)), some (.ref (O + 2)), e9, e10, e11, e12, e13, x16, x17, x18] h0 Zt := by
  have hbl : ∀ {o : Nat} {order : List Nat} {ps : List (Nat × Nat)}, BI L order ps → o ∈ order → o < Z.length := fun bi ho => by rw [hZn, ← hLl]; exact bi.lt _ ho
  unfold W164
  simp only [wpSs, wpS, wpE, wpEs, wpCs, wpP, wpPs, List.map, List.replicate, List.cons_append, List.nil_append, List.append_nil, List.getElem?_cons_zero, List.getElem?_cons_succ, jn, ws_some, List.length_cons, List.length_nil, List.set, at0, at1, at2, idx_tup, c_gt, c_lt, c_le, c_ge, c_is, c_isnt, c_eqI, c_neI, c_eqS, c_neS, c_eqB, c_neB, isS, isNonD, isBlD, t_bl, b_int, b_abs, b_max2, b_min2, b_lenT, o_add, o_sub, permD, Option.map_some]
  refine ⟨fun w env hh => ∃ (order : List Nat) (ps : List (Nat × Nat)) (found : List (List (Option Nat))) (e9 e10 e11 e12 e13 : Option D), w + found.length = n + 1 ∧ hb <+: hh ∧ BO Z L m order ps found ∧ hh[O]? = some (.lst (natsD order)) ∧ hh[O + 1]? = some (.dct (encL encNat natd ps)) ∧ hh[O + 2]? = some (.lst (found.map stepD)) ∧ (∀ out, MRun Z L (order, ps) found out → MRun Z L ([0], [(L.getD 0 0, 0)]) [] out) ∧ env = [x0, x1, x2, some (.ref z), x4, some (.ref c4), e5, x7, some (.ref O), some (.ref (O + 1)), some (.ref (O + 2)), e9, e10, e11, e12, e13, x16, x17, x18], ⟨n + 1, [0], _, [], _, _, _, _, _, rfl, pb, ⟨BI.start (by omega), by simp, by simp, (fun r hr => absurd hr List.not_mem_nil), (fun i o hi => absurd hi (Nat.not_lt_zero i))⟩, eO, eP, eF, (fun out ho => ho), rfl⟩, fun w env hh hi => ?_⟩
  obtain ⟨order, ps, found, e9, e10, e11, e12, e13, hw, pp, bo, qO, qP, qF, qR, rfl⟩ := hi
  have bi := bo.bi
  have hol := bi.len hLn
  have hfl := bo.le
  simp only [wpSs, wpS, wpE, wpEs, wpCs, wpP, wpPs, List.map, List.replicate, List.cons_append, List.nil_append, List.append_nil, List.getElem?_cons_zero, List.getElem?_cons_succ, jn, ws_some, List.length_cons, List.length_nil, List.set, at0, at1, at2, idx_tup, c_gt, c_lt, c_le, c_ge, c_is, c_isnt, c_eqI, c_neI, c_eqS, c_neS, c_eqB, c_neB, isS, isNonD, isBlD, t_bl, b_int, b_abs, b_max2, b_min2, b_lenT, o_add, o_sub, permD, Option.map_some]
  rw [b_lenL qF, ws_some, b_lenL qO, ws_some, c_lt, ws_some]
  by_cases cl : found.length < order.length
  · have cl' : (((found.map stepD).length : Nat) : Int) < (((natsD order).length : Nat) : Int) := by
      unfold natsD
      rw [List.length_map, List.length_map]; omega
    rw [decide_eq_true cl', if_pos rfl]
    refine ⟨by simp, ?_⟩
    rw [b_lenL (pre_at pre_one qF), ws_some, List.length_map]
    rw [n_at (pre_at pre_one qO) cl, ws_some]
    have hoe : order.getD found.length 0 = order[found.length] := by rw [List.getD_eq_getElem?_getD, List.getElem?_eq_getElem cl]; rfl
    generalize hob : order.getD found.length 0 = o at hoe
    have hom : o ∈ order := by rw [hoe]; exact List.getElem_mem cl
    have hoz := hbl bi hom
    rw [s_at (pre_at (pp.trans pre_one) ez) hoz, ws_some]
    have hrowm : Z.getD o [] ∈ Z := by
      rw [List.getD_eq_getElem?_getD, List.getElem?_eq_getElem hoz]
      exact List.getElem_mem hoz
    unfold stepD
    rw [it_tup, ws_some]
    have hOl : O + 2 < hh.length := (List.getElem?_eq_some_iff.mp qF).1
    refine forL_inv (fun l env h' => ∃ (dn rest : List (Option Nat)) (order' : List Nat) (ps' : List (Nat × Nat)) (out : List (Option Nat)) (e10 : Option D), Z.getD o [] = dn ++ rest ∧ l = rest.map optD ∧ hb <+: h' ∧ order <+: order' ∧ BI L order' ps' ∧ h'[O]? = some (.lst (natsD order')) ∧ h'[O + 1]? = some (.dct (encL encNat natd ps')) ∧ h'[O + 2]? = some (.lst (found.map stepD)) ∧ h'[hh.length]? = some (.lst (out.map optD)) ∧ out.length = dn.length ∧ (∀ t, some t ∈ out → t < order'.length) ∧ (∀ t, some t ∈ dn → ∃ o' ∈ order', L.getD o' 0 = L.getD t 0) ∧ rest.foldl (st1 L) ((order', ps'), out) = rowO L (order, ps) (Z.getD o []) ∧ env = [x0, x1, x2, some (.ref z), x4, some (.ref c4), e5, x7, some (.ref O), some (.ref (O + 1)), some (.ref (O + 2)), some (.ref hh.length), e10, e11, e12, e13, x16, x17, x18])
      (fun _ _ _ _ => still_nil) (fun x l env h' R hi kk => ?_) (fun env h' hi => ?_) _ _ _ ⟨[], Z.getD o [], order, ps, [], _, rfl, rfl, pp.trans pre_one, List.prefix_refl _, bi, pre_at pre_one qO, pre_at pre_one qP, pre_at pre_one qF, last_at, rfl, (fun t ht => absurd ht List.not_mem_nil), (fun t ht => absurd ht List.not_mem_nil), rfl, rfl⟩
    · obtain ⟨dn, rest, order', ps', out, e10', hdr, hx, pb', po, bi', rO, rP, rF, rR, hout, hot, hdt, hfo, rfl⟩ := hi
      cases rest with
      | nil => cases hx
      | cons ot rest =>
        rw [List.map_cons] at hx
        cases hx
        have hotm : ot ∈ Z.getD o [] := by rw [hdr]; simp
        have hol' := bi'.len hLn
        have hpl' := bi'.plen
        have hrl := (hSr _ hrowm).1
        have hdl : dn.length + 1 ≤ m := by
          have := congrArg List.length hdr
          rw [List.length_append, List.length_cons] at this
          omega
        have hol2 : out.length ≤ 30 := by omega
        cases ot with
        | none =>
          simp only [optD, wpSs, wpS, wpE, wpEs, wpCs, wpP, wpPs, List.map, List.replicate, List.cons_append, List.nil_append, List.append_nil, List.getElem?_cons_zero, List.getElem?_cons_succ, jn, ws_some, List.length_cons, List.length_nil, List.set, at0, at1, at2, idx_tup, c_gt, c_lt, c_le, c_ge, c_is, c_isnt, c_eqI, c_neI, c_eqS, c_neS, c_eqB, c_neB, isS, isNonD, isBlD, t_bl, b_int, b_abs, b_max2, b_min2, b_lenT, o_add, o_sub, permD, Option.map_some]
          refine ⟨by simp, ?_⟩
          simp only [Bool.not_true, Bool.false_eq_true, if_false]
          refine ⟨rec_app rR, ?_⟩
          rw [if_pos trivial]
          rw [app_at rR (by rw [List.length_map]; omega), ws_some]
          refine kk _ _ ⟨dn ++ [none], rest, order', ps', out ++ [none], _, by rw [hdr]; simp, rfl, pre_set pb' (by omega) _, po, bi', ?_, ?_, ?_, by rw [set_at rR]; simp [optD], by simp [hout], fun t ht => ?_, fun t ht => ?_, hfo, rfl⟩
          · rw [List.getElem?_set_ne (by omega)]; exact rO
          · rw [List.getElem?_set_ne (by omega)]; exact rP
          · rw [List.getElem?_set_ne (by omega)]; exact rF
          · exact hot t (by simpa using ht)
          · exact hdt t (by simpa using ht)
        | some t =>
          have htz := (hSr _ hrowm).2 t hotm
          have htl : t < L.length := by omega
          simp only [optD, wpSs, wpS, wpE, wpEs, wpCs, wpP, wpPs, List.map, List.replicate, List.cons_append, List.nil_append, List.append_nil, List.getElem?_cons_zero, List.getElem?_cons_succ, jn, ws_some, List.length_cons, List.length_nil, List.set, at0, at1, at2, idx_tup, c_gt, c_lt, c_le, c_ge, c_is, c_isnt, c_eqI, c_neI, c_eqS, c_neS, c_eqB, c_neB, isS, isNonD, isBlD, t_bl, b_int, b_abs, b_max2, b_min2, b_lenT, o_add, o_sub, permD, Option.map_some]
          refine ⟨by simp, ?_⟩
          simp only [Bool.not_false, if_true]
          rw [n_at (pre_at pb' eK) htl, ws_some, dk_in rP, ws_some]
          cases hlk : look ps' (L.getD t 0) with
          | some v =>
            obtain ⟨hv, o', ho', eo'⟩ := bi'.get hlk
            simp only [Option.isSome_some, Bool.not_true, Bool.false_eq_true, if_false]
            refine ⟨rec_app rR, ?_⟩
            rw [ws_some, dk_get rP hlk, ws_some]
            rw [app_at rR (by rw [List.length_map]; omega), ws_some]
            refine kk _ _ ⟨dn ++ [some t], rest, order', ps', out ++ [some v], _, by rw [hdr]; simp, rfl, pre_set pb' (by omega) _, po, bi', ?_, ?_, ?_, by rw [set_at rR]; simp [optD], by simp [hout], fun u hu => ?_, fun u hu => ?_, (by rw [← hfo, List.foldl_cons]; unfold st1; dsimp only; rw [hlk]), rfl⟩
            · rw [List.getElem?_set_ne (by omega)]; exact rO
            · rw [List.getElem?_set_ne (by omega)]; exact rP
            · rw [List.getElem?_set_ne (by omega)]; exact rF
            · rcases List.mem_append.mp hu with hu | hu
              · exact hot u hu
              · rw [List.mem_singleton] at hu; cases hu; exact hv
            · rcases List.mem_append.mp hu with hu | hu
              · exact hdt u hu
              · rw [List.mem_singleton] at hu; cases hu; exact ⟨o', ho', eo'⟩
          | none =>
            have bi2 := bi'.put_ htl hlk
            simp only [Option.isSome_none, Bool.not_false, if_true]
            rw [b_lenL rO, ws_some]
            rw [n_at (pre_at pb' eK) htl, ws_some]
            have hnl : (natsD order').length = order'.length := by unfold natsD; rw [List.length_map]
            rw [hnl]
            rw [dk_set rP (by omega), ws_some]
            have rO2 : (h'.set (O + 1) (.dct (encL encNat natd (put ps' (L.getD t 0) order'.length))))[O]? = some (.lst (natsD order')) := by
              rw [List.getElem?_set_ne (by omega)]; exact rO
            refine ⟨rec_app rO2, ?_⟩
            rw [app_at rO2 (by rw [hnl]; omega), ws_some]
            have rP3 : ((h'.set (O + 1) (.dct (encL encNat natd (put ps' (L.getD t 0) order'.length)))).set O (.lst (natsD order' ++ [.int (t : Int)])))[O + 1]? = some (.dct (encL encNat natd (put ps' (L.getD t 0) order'.length))) := by
              rw [List.getElem?_set_ne (by omega)]; exact set_at rP
            have rR3 : ((h'.set (O + 1) (.dct (encL encNat natd (put ps' (L.getD t 0) order'.length)))).set O (.lst (natsD order' ++ [.int (t : Int)])))[hh.length]? = some (.lst (out.map optD)) := by
              rw [List.getElem?_set_ne (by omega), List.getElem?_set_ne (by omega)]; exact rR
            have rF3 : ((h'.set (O + 1) (.dct (encL encNat natd (put ps' (L.getD t 0) order'.length)))).set O (.lst (natsD order' ++ [.int (t : Int)])))[O + 2]? = some (.lst (found.map stepD)) := by
              rw [List.getElem?_set_ne (by omega), List.getElem?_set_ne (by omega)]; exact rF
            have rO3 : ((h'.set (O + 1) (.dct (encL encNat natd (put ps' (L.getD t 0) order'.length)))).set O (.lst (natsD order' ++ [.int (t : Int)])))[O]? = some (.lst (natsD (order' ++ [t]))) := by
              rw [set_at rO2]
              simp [natsD]
            have pb3 : hb <+: (h'.set (O + 1) (.dct (encL encNat natd (put ps' (L.getD t 0) order'.length)))).set O (.lst (natsD order' ++ [.int (t : Int)])) := pre_set (pre_set pb' (by omega) _) (by omega) _
            generalize (h'.set (O + 1) (.dct (encL encNat natd (put ps' (L.getD t 0) order'.length)))).set O (.lst (natsD order' ++ [.int (t : Int)])) = h9 at rP3 rR3 rF3 rO3 pb3
            refine ⟨rec_app rR3, ?_⟩
            simp only [Bool.false_eq_true, if_false]
            rw [n_at (pre_at pb3 eK) htl, ws_some, dk_get rP3 (look_put_same _ _ _), ws_some]
            rw [app_at rR3 (by rw [List.length_map]; omega), ws_some]
            refine kk _ _ ⟨dn ++ [some t], rest, order' ++ [t], _, out ++ [some order'.length], _, by rw [hdr]; simp, rfl, pre_set pb3 (by omega) _, po.trans (List.prefix_append _ _), bi2, ?_, ?_, ?_, by rw [set_at rR3]; simp [optD], by simp [hout], fun u hu => ?_, fun u hu => ?_, (by rw [← hfo, List.foldl_cons]; unfold st1; dsimp only; rw [hlk]), rfl⟩
            · rw [List.getElem?_set_ne (by omega)]; exact rO3
            · rw [List.getElem?_set_ne (by omega)]; exact rP3
            · rw [List.getElem?_set_ne (by omega)]; exact rF3
            · rw [List.length_append, List.length_singleton]
              rcases List.mem_append.mp hu with hu | hu
              · have := hot u hu; omega
              · rw [List.mem_singleton] at hu; cases hu; omega
            · rcases List.mem_append.mp hu with hu | hu
              · obtain ⟨o', ho', eo'⟩ := hdt u hu
                exact ⟨o', List.mem_append_left _ ho', eo'⟩
              · rw [List.mem_singleton] at hu; cases hu; exact ⟨_, List.mem_append_right _ (List.mem_singleton_self _), rfl⟩
    · obtain ⟨dn, rest, order', ps', out, e10', hdr, hx, pb', po, bi', rO, rP, rF, rR, hout, hot, hdt, hfo, rfl⟩ := hi
      have hr0 : rest = [] := List.map_eq_nil_iff.mp hx.symm
      subst hr0
      rw [List.append_nil] at hdr
      simp only [wpSs, wpS, wpE, wpEs, wpCs, wpP, wpPs, List.map, List.replicate, List.cons_append, List.nil_append, List.append_nil, List.getElem?_cons_zero, List.getElem?_cons_succ, jn, ws_some, List.length_cons, List.length_nil, List.set, at0, at1, at2, idx_tup, c_gt, c_lt, c_le, c_ge, c_is, c_isnt, c_eqI, c_neI, c_eqS, c_neS, c_eqB, c_neB, isS, isNonD, isBlD, t_bl, b_int, b_abs, b_max2, b_min2, b_lenT, o_add, o_sub, permD, Option.map_some]
      refine ⟨rec_app rF, ?_⟩
      rw [b_tupleL rR, ws_some]
      rw [app_at rF (by rw [List.length_map]; have := bi.len hLn; omega), ws_some]
      have hol' := bi'.len hLn
      have hpol := po.length_le
      refine ⟨w - 1, by omega, order', ps', found ++ [out], _, _, _, _, _, by rw [List.length_append, List.length_singleton]; omega, pre_set pb' (by omega) _, ⟨bi', po.subset bo.zero, by rw [List.length_append, List.length_singleton]; omega, fun r hr => ?_, fun i o2 hi hio t ht => ?_⟩, ?_, ?_, by rw [set_at rF]; simp [stepD], (fun ot hr => qR ot (.step cl (by rw [hob, ← hfo]; exact hr))), rfl⟩
      · rcases List.mem_append.mp hr with hr | hr
        · exact ⟨(bo.row r hr).1, fun t ht => by have := (bo.row r hr).2 t ht; omega⟩
        · rw [List.mem_singleton.mp hr]
          exact ⟨by rw [hout, ← hdr]; exact (hSr _ hrowm).1, hot⟩
      · rw [List.length_append, List.length_singleton] at hi
        rcases Nat.lt_or_eq_of_le (Nat.le_of_lt_succ hi) with hi2 | hi2
        · have hio2 : order[i]? = some o2 := by
            obtain ⟨ext, rfl⟩ := po
            rw [List.getElem?_append_left (by omega)] at hio
            exact hio
          obtain ⟨o', ho', eo'⟩ := bo.done i o2 hi2 hio2 t ht
          exact ⟨o', po.subset ho', eo'⟩
        · have : o2 = o := by
            rw [hi2] at hio
            obtain ⟨ext, rfl⟩ := po
            rw [List.getElem?_append_left (by omega), List.getElem?_eq_getElem cl] at hio
            rw [hoe]
            exact (Option.some.inj hio).symm
          subst this
          exact hdt t (by rw [← hdr]; exact ht)
      · rw [List.getElem?_set_ne (by omega)]; exact rO
      · rw [List.getElem?_set_ne (by omega)]; exact rP
  · have cl' : ¬ (((found.map stepD).length : Nat) : Int) < (((natsD order).length : Nat) : Int) := by
      unfold natsD
      rw [List.length_map, List.length_map]; omega
    rw [decide_eq_false cl', if_neg (by decide)]
    exact kz order ps found _ _ _ _ _ hh pp bo (qR _ (.done (by dsimp only; omega))) (by omega) qO qF
end M11

end
section
set_option Elab.async false
set_option linter.all false
set_option autoImplicit false
/-! the least machine: rounds of kinds -/
namespace M11
open M
/-- a kind, as it is named: by what is told, then by a number -/
abbrev Kt := (Bool × Option (List Int)) ⊕ Nat
abbrev Ky := Kt × List (Option Kt)
def ktD : Kt → D
  | .inl (b, none) => .tup [.bl b, .non]
  | .inl (b, some l) => .tup [.bl b, rowD l]
  | .inr n => .int (n : Int)
def koD : Option Kt → D
  | none => .non
  | some k => ktD k
def kyD (p : Ky) : D := .tup [ktD p.1, .tup (p.2.map koD)]
theorem eq_kt (a b : Kt) : eqD (ktD a) (ktD b) = decide (a = b) := by
  rcases a with ⟨b1, _ | l1⟩ | n1 <;> rcases b with ⟨b2, _ | l2⟩ | n2 <;> simp only [ktD, rowD, eqD, eqDs, eqDs_ints, Bool.and_true, Bool.and_false, Sum.inl.injEq, Sum.inr.injEq, Prod.mk.injEq, Option.some.injEq, reduceCtorEq, and_true, and_false, decide_false]
  · cases b1 <;> cases b2 <;> rfl
  · cases b1 <;> cases b2 <;> simp
  · rw [decide_eq_decide]; omega
theorem eq_ko (a b : Option Kt) : eqD (koD a) (koD b) = decide (a = b) := by
  cases a with
  | none =>
    cases b with
    | none => simp [koD, eqD]
    | some b => rcases b with ⟨b2, _ | l2⟩ | n2 <;> simp [koD, ktD, eqD]
  | some a =>
    cases b with
    | none => rcases a with ⟨b1, _ | l1⟩ | n1 <;> simp [koD, ktD, eqD]
    | some b =>
      simp only [koD, Option.some.injEq]
      exact eq_kt a b
theorem eq_kos : ∀ a b : List (Option Kt), eqDs (a.map koD) (b.map koD) = decide (a = b)
  | [], [] => rfl
  | [], _ :: _ => rfl
  | _ :: _, [] => rfl
  | x :: a, y :: b => by
    rw [List.map_cons, List.map_cons, eqDs, eq_ko, eq_kos a b]
    by_cases h1 : x = y <;> by_cases h2 : a = b <;> simp [h1, h2]
/-- a value that can stand within a key -/
def KOK (x : D) : Prop := pureD x = true ∧ dep x ≤ 2
theorem kt_ok (a : Kt) : KOK (ktD a) := by
  rcases a with ⟨b1, _ | l1⟩ | n1
  · exact ⟨rfl, by simp [ktD, dep, deps]⟩
  · obtain ⟨h1, h2⟩ := pure_ints l1
    exact ⟨by simp only [ktD, rowD, pureD, pureDs, h1]; rfl, by simp only [ktD, rowD, dep, deps, h2]; omega⟩
  · exact ⟨rfl, by simp [ktD, dep]⟩
theorem ko_ok (a : Option Kt) : KOK (koD a) := by
  cases a with
  | none => exact ⟨rfl, by simp [koD, dep]⟩
  | some a => exact kt_ok a
theorem pures_of : ∀ {l : List D}, (∀ x ∈ l, KOK x) → pureDs l = true ∧ deps l ≤ 2
  | [], _ => ⟨rfl, Nat.zero_le _⟩
  | x :: l, h => by
    obtain ⟨h1, h2⟩ := pures_of fun y hy => h y (List.mem_cons_of_mem _ hy)
    obtain ⟨h3, h4⟩ := h x List.mem_cons_self
    exact ⟨by simp [pureDs, h1, h3], by simp only [deps]; omega⟩
theorem key_ok {a : D} {l : List D} (ha : KOK a) (hl : ∀ x ∈ l, KOK x) : keyOK (.tup [a, .tup l]) = true := by
  obtain ⟨h1, h2⟩ := pures_of hl
  obtain ⟨h3, h4⟩ := ha
  have h5 : deps [a, .tup l] ≤ 7 := by simp only [deps, dep]; omega
  simp [keyOK, pureDs, pureD, h1, h3, h5]
instance : DecidableEq Ky := fun a b => decidable_of_iff (a.1 = b.1 ∧ a.2 = b.2) ⟨fun h => Prod.ext h.1 h.2, fun h => h ▸ ⟨rfl, rfl⟩⟩
def encK : Enc Ky where
  e := kyD
  eq := fun a b => by
    obtain ⟨a1, a2⟩ := a
    obtain ⟨b1, b2⟩ := b
    simp only [kyD, eqD, eqDs, eq_kt, eq_kos, Bool.and_true, Prod.mk.injEq]
    by_cases h1 : a1 = b1 <;> by_cases h2 : a2 = b2 <;> simp [h1, h2]
  ok := fun a => key_ok (kt_ok _) fun x hx => by
    obtain ⟨o, _, rfl⟩ := List.mem_map.mp hx
    exact ko_ok o
  tup := true
  tp := fun _ => rfl
theorem kd_at {h : Hm} {a : Nat} {K : List Kt} (e : h[a]? = some (.lst (K.map ktD))) {b : Nat} (hb : b < K.length) : idxS (.ref a) (.int (b : Int)) h = some (ktD (K.getD b (.inr 0))) := by
  rw [idx_lst e]
  refine at_nat ?_
  rw [List.getElem?_map, List.getD_eq_getElem?_getD, List.getElem?_eq_getElem hb]
  rfl
def sucF (K : List Kt) (o : Option Nat) : Option Kt := o.map fun t => K.getD t (.inr 0)
def keyF (Z : List (List (Option Nat))) (K : List Kt) (b : Nat) : Ky := (K.getD b (.inr 0), (Z.getD b []).map (sucF K))
def nm1 (s : List (Ky × Nat) × List Nat) (k : Ky) : List (Ky × Nat) × List Nat := match look s.1 k with
  | some v => (s.1, s.2 ++ [v])
  | none => (s.1 ++ [(k, s.1.length)], s.2 ++ [s.1.length])
def namesF (ks : List Ky) : List Nat := (ks.foldl nm1 ([], [])).2
def rndF (Z : List (List (Option Nat))) (K : List Kt) : List Nat := namesF ((List.range Z.length).map (keyF Z K))
/-- the kinds after so many rounds -/
def KRd (Z : List (List (Option Nat))) (K0 : List Kt) : Nat → List Kt
  | 0 => K0
  | j + 1 => (rndF Z (KRd Z K0 j)).map .inr
/-- names given so far -/
structure NI (ks : List Ky) (s : List (Ky × Nat) × List Nat) : Prop where
  vals : s.1.map (·.2) = List.range s.1.length
  le : s.1.length ≤ ks.length
  len : s.2.length = ks.length
  lt : ∀ x ∈ s.2, x < s.1.length
  at_ : ∀ i, i < ks.length → ∃ k, ks[i]? = some k ∧ look s.1 k = some (s.2.getD i 0)
theorem NI.start : NI [] ([], []) := ⟨rfl, Nat.le_refl _, rfl, (fun x hx => nomatch hx), fun i hi => absurd hi (Nat.not_lt_zero i)⟩
theorem look_app {ps : List (Ky × Nat)} {k : Ky} {v : Nat} (h : look ps k = some v) (q : Ky × Nat) : look (ps ++ [q]) k = some v := by
  unfold look at h ⊢
  rw [List.find?_append]
  cases e : ps.find? (fun p => decide (p.1 = k)) with
  | none => rw [e] at h; cases h
  | some p => rw [e] at h; exact h
theorem NI.add {ks : List Ky} {s : List (Ky × Nat) × List Nat} (a : NI ks s) (k : Ky) : NI (ks ++ [k]) (nm1 s k) := by
  have hl := a.len
  unfold nm1
  cases e : look s.1 k with
  | some v =>
    have hv : v < s.1.length := by
      have hm := look_mem e
      have : v ∈ s.1.map (·.2) := List.mem_map.mpr ⟨_, hm, rfl⟩
      rw [a.vals] at this
      exact List.mem_range.mp this
    refine ⟨a.vals, by have := a.le; rw [List.length_append, List.length_singleton]; dsimp only; omega, by simp [hl], fun x hx => ?_, fun i hi => ?_⟩
    · rcases List.mem_append.mp hx with hx | hx
      · exact a.lt x hx
      · rw [List.mem_singleton.mp hx]; exact hv
    · rw [List.length_append, List.length_singleton] at hi
      rcases Nat.lt_or_eq_of_le (Nat.le_of_lt_succ hi) with z | z
      · obtain ⟨k', h1, h2⟩ := a.at_ i z
        exact ⟨k', by rw [List.getElem?_append_left z]; exact h1, by dsimp only; rw [getD_app (by omega)]; exact h2⟩
      · subst z
        refine ⟨k, by simp, ?_⟩
        dsimp only
        rw [← hl, getD_last]
        exact e
  | none =>
    refine ⟨by simp [a.vals, List.range_succ], by have := a.le; simp; omega, by simp [hl], fun x hx => ?_, fun i hi => ?_⟩
    · dsimp only
      rw [List.length_append, List.length_singleton]
      rcases List.mem_append.mp hx with hx | hx
      · have := a.lt x hx; omega
      · rw [List.mem_singleton.mp hx]; omega
    · rw [List.length_append, List.length_singleton] at hi
      rcases Nat.lt_or_eq_of_le (Nat.le_of_lt_succ hi) with z | z
      · obtain ⟨k', h1, h2⟩ := a.at_ i z
        exact ⟨k', by rw [List.getElem?_append_left z]; exact h1, by dsimp only; rw [getD_app (by omega)]; exact look_app h2 _⟩
      · subst z
        refine ⟨k, by simp, ?_⟩
        dsimp only
        rw [← hl, getD_last]
        unfold look at e ⊢
        rw [Option.map_eq_none_iff] at e
        rw [List.find?_append, e]
        simp
theorem NI.all : ∀ {ks dn : List Ky} {s : List (Ky × Nat) × List Nat}, NI dn s → NI (dn ++ ks) (ks.foldl nm1 s)
  | [], dn, s, a => by rw [List.append_nil]; exact a
  | k :: ks, dn, s, a => by
    have := NI.all (ks := ks) (a.add k)
    rw [List.append_assoc] at this
    exact this
theorem names_ni (ks : List Ky) : NI ks (ks.foldl nm1 ([], [])) := NI.all NI.start
theorem names_len (ks : List Ky) : (namesF ks).length = ks.length := (names_ni ks).len
theorem names_lt (ks : List Ky) : ∀ x ∈ namesF ks, x < ks.length := fun x hx => Nat.lt_of_lt_of_le ((names_ni ks).lt x hx) (names_ni ks).le
/-- names are alike just where keys are -/
theorem names_iff {ks : List Ky} {i j : Nat} (hi : i < ks.length) (hj : j < ks.length) : (namesF ks).getD i 0 = (namesF ks).getD j 0 ↔ ks[i]? = ks[j]? := by
  have a := names_ni ks
  obtain ⟨k1, e1, l1⟩ := a.at_ i hi
  obtain ⟨k2, e2, l2⟩ := a.at_ j hj
  constructor
  · intro h
    have h : (ks.foldl nm1 ([], [])).2.getD i 0 = (ks.foldl nm1 ([], [])).2.getD j 0 := h
    rw [h] at l1
    have := vals_inj a.vals (look_mem l1) (look_mem l2) rfl
    rw [e1, e2, (Prod.mk.inj this).1]
  · intro h
    rw [e1, e2] at h
    cases h
    rw [l1] at l2
    exact Option.some.inj l2
theorem rnd_len (Z : List (List (Option Nat))) (K : List Kt) : (rndF Z K).length = Z.length := by
  unfold rndF
  rw [names_len, List.length_map, List.length_range]
theorem rnd_lt (Z : List (List (Option Nat))) (K : List Kt) : ∀ x ∈ rndF Z K, x < Z.length := fun x hx => by
  have := names_lt _ x hx
  rw [List.length_map, List.length_range] at this
  exact this
theorem KRd_len {Z : List (List (Option Nat))} {K0 : List Kt} (h : K0.length = Z.length) : ∀ j, (KRd Z K0 j).length = Z.length
  | 0 => h
  | j + 1 => by show ((rndF Z _).map Sum.inr).length = _; rw [List.length_map, rnd_len]
theorem rnd_iff {Z : List (List (Option Nat))} {K : List Kt} {b c : Nat} (hb : b < Z.length) (hc : c < Z.length) : (rndF Z K).getD b 0 = (rndF Z K).getD c 0 ↔ keyF Z K b = keyF Z K c := by
  unfold rndF
  rw [names_iff (by simp [hb]) (by simp [hc])]
  rw [List.getElem?_map, List.getElem?_map, List.getElem?_range hb, List.getElem?_range hc]
  simp
theorem sd_some {h : Hm} {a : Nat} {ps : List (Ky × Nat)} {k : Ky} {v : Nat} {x : D} (e : h[a]? = some (.dct (encL encK natd ps))) (hl : ps.length ≤ 1000) (hk : look ps k = some v) : bltS .setdefault [.ref a, kyD k, x] h = some (.int (v : Int), h) := by
  have gA : getK h a = some (encL encK natd ps) := by unfold getK; rw [e]
  have hin : keyIn (encL encK natd ps) (kyD k) = true := enc_in encK natd ps k
  have hg : dget (encL encK natd ps) (kyD k) = (look ps k).map natd := enc_get encK natd ps k
  simp only [bltS, gA, Option.bind_some]
  rw [if_pos ⟨hin, by unfold encL; rw [List.length_map]; unfold LIM; omega⟩, hg, hk]; rfl
theorem sd_none {h : Hm} {a : Nat} {ps : List (Ky × Nat)} {k : Ky} (e : h[a]? = some (.dct (encL encK natd ps))) (hl : ps.length ≤ 1000) (hk : look ps k = none) : bltS .setdefault [.ref a, kyD k, .int (ps.length : Int)] h = some (.int (ps.length : Int), h.set a (.dct (encL encK natd (ps ++ [(k, ps.length)])))) := by
  have gA : getK h a = some (encL encK natd ps) := by unfold getK; rw [e]
  have hin : keyIn (encL encK natd ps) (kyD k) = true := enc_in encK natd ps k
  have hg : dget (encL encK natd ps) (kyD k) = (look ps k).map natd := enc_get encK natd ps k
  have hput : dput (encL encK natd ps) (kyD k) (.int (ps.length : Int)) = encL encK natd (put ps k ps.length) := enc_put encK natd ps k ps.length
  simp only [bltS, gA, Option.bind_some]
  rw [if_pos ⟨hin, by unfold encL; rw [List.length_map]; unfold LIM; omega⟩, hg, hk, hput, put_new hk]; rfl
def F164 : CS := .for_ (.slot 6) .range [(.bin .add (.blt .len [(.loc 7)]) (.lit (.int (1))))] [
    .asg (.tup [(.slot 13), (.slot 14)]) (.tup [(.dct []), (.lst [])]),
    .for_ (.tup [(.slot 15), (.slot 11)]) .enum [(.loc 3)] [
      .expr (.meth .append (.loc 14) [(.meth .setdefault (.loc 13) [(.tup [(.idx (.loc 5) (.loc 15)), (.blt .tuple [(.comp [12] (.slot 12) .val [(.loc 11)] [] (.ife (.cmp .is (.loc 12) (.lit .non)) (.lit .non) (.idx (.loc 5) (.loc 12))))])]), (.blt .len [(.loc 13)])])])],
    .asg (.slot 5) (.loc 14)]
theorem kts_len (K : List Kt) : (K.map ktD).length = K.length := List.length_map _
theorem nats_kt (L : List Nat) : natsD L = (L.map (Sum.inr : Nat → Kt)).map ktD := by
  unfold natsD
  rw [List.map_map]; rfl
set_option maxRecDepth 20000 in
theorem rounds_spec {Z : List (List (Option Nat))} {n m : Nat} (hn1 : 1 ≤ n) (hn2 : n ≤ 30) (hm2 : m ≤ 30) (hZn : Z.length = n) (hSr : ∀ r ∈ Z, r.length = m ∧ ∀ t, some t ∈ r → t < Z.length) {K0 : List Kt} (k0l : K0.length = n) {h3 : Hm} {z c0 Rw : Nat} {rs : List D} {x0 x1 x2 x4 e6 e8 e9 e10 e11 e12 e13 e14 e15 e16 e17 e18 : Option D} (ez : h3[z]? = some (.lst (Z.map stepD))) (e3 : h3[c0]? = some (.lst (K0.map ktD))) (eR : h3[Rw]? = some (.lst rs)) (hrs : rs.length = n) {F : FnS} {E : XP} {Zt : Ends}
    (kz : ∀ (c5 : Nat) (e6 e11 e12 e13 e14 e15 : Option D) (h' : Hm), h3 <+: h' → h'[c5]? = some (.lst (natsD (rndF Z (KRd Z K0 n)))) → Zt.nx [x0, x1, x2, some (.ref z), x4, some (.ref c5), e6, some (.ref Rw), e8, e9, e10, e11, e12, e13, e14, e15, e16, e17, e18] h') :
    wpS F E F164 [x0, x1, x2, some (.ref z), x4, some (.ref c0), e6, some (.ref Rw), e8, e9, e10, e11, e12, e13, e14, e15, e16, e17, e18] h3 Zt := by
  unfold F164
  simp only [wpSs, wpS, wpE, wpEs, wpCs, wpP, wpPs, List.map, List.replicate, List.cons_append, List.nil_append, List.append_nil, List.getElem?_cons_zero, List.getElem?_cons_succ, jn, ws_some, List.length_cons, List.length_nil, List.set, at0, at1, at2, idx_tup, c_gt, c_lt, c_le, c_ge, c_is, c_isnt, c_eqI, c_neI, c_eqS, c_neS, c_eqB, c_neB, isS, isNonD, isBlD, t_bl, b_int, b_abs, b_max2, b_min2, b_lenT, o_add, o_sub, permD, Option.map_some]
  rw [b_lenL eR, ws_some, o_add, ws_some, it_range (by omega) (by omega), ws_some]
  have en1 : ((rs.length : Int) + 1).toNat = n + 1 := by omega
  rw [en1]
  refine forL_inv (fun l env h' => ∃ (j : Nat) (c5 : Nat) (e6 e11 e12 e13 e14 e15 : Option D), l = (rngD 0 (n + 1)).drop j ∧ j ≤ n + 1 ∧ h3 <+: h' ∧ h'[c5]? = some (.lst ((KRd Z K0 j).map ktD)) ∧ env = [x0, x1, x2, some (.ref z), x4, some (.ref c5), e6, some (.ref Rw), e8, e9, e10, e11, e12, e13, e14, e15, e16, e17, e18])
    (fun _ _ _ _ => still_nil) (fun x l env h' R hi kk => ?_) (fun env h' hi => ?_) _ _ _ ⟨0, c0, _, _, _, _, _, _, rfl, by omega, List.prefix_refl _, e3, rfl⟩
  · obtain ⟨j, c5, e6, e11, e12, e13, e14, e15, hj, hjl, ph, eK, rfl⟩ := hi
    have hKl := KRd_len (Z := Z) (K0 := K0) (by omega) j
    have hrd : KRd Z K0 (j + 1) = (rndF Z (KRd Z K0 j)).map .inr := rfl
    generalize KRd Z K0 j = K at eK hKl hrd
    have hjn : j < n + 1 := by
      rcases Nat.lt_or_ge j (n + 1) with z | z
      · exact z
      · rw [rng_end z] at hj; cases hj
    rw [rng_drop hjn] at hj
    cases hj
    simp only [wpSs, wpS, wpE, wpEs, wpCs, wpP, wpPs, List.map, List.replicate, List.cons_append, List.nil_append, List.append_nil, List.getElem?_cons_zero, List.getElem?_cons_succ, jn, ws_some, List.length_cons, List.length_nil, List.set, at0, at1, at2, idx_tup, c_gt, c_lt, c_le, c_ge, c_is, c_isnt, c_eqI, c_neI, c_eqS, c_neS, c_eqB, c_neB, isS, isNonD, isBlD, t_bl, b_int, b_abs, b_max2, b_min2, b_lenT, o_add, o_sub, permD, Option.map_some]
    refine ⟨by simp, ?_⟩
    simp only [evens, mergeK, ws_some]
    refine ⟨by simp, by simp, ?_⟩
    have ezh : (h' ++ [Cell.dct []] ++ [Cell.lst []])[z]? = some (.lst (Z.map stepD)) := pre_at (ph.trans (pre_one.trans pre_one)) ez
    rw [it_enum ezh, ws_some, enum_map, List.length_map]
    have pA : (h' ++ [Cell.dct []] ++ [Cell.lst []])[h'.length]? = some (.dct (encL encK natd [])) := pre_at pre_one last_at
    have hAB : (h' ++ [Cell.dct []]).length = h'.length + 1 := by simp
    rw [hAB]
    have pB : (h' ++ [Cell.dct []] ++ [Cell.lst []])[h'.length + 1]? = some (.lst (natsD [])) := by
      rw [← hAB]; exact last_at
    have hkl : ((List.range Z.length).map (keyF Z K)).length = Z.length := by simp
    refine forL_inv (fun l env hh => ∃ (j2 : Nat) (ps : List (Ky × Nat)) (L : List Nat) (e11 e12 e15 : Option D), l = ((List.range Z.length).map fun (k : Nat) => D.tup [.int (k : Int), (Z.map stepD).getD k .non]).drop j2 ∧ j2 ≤ Z.length ∧ h' <+: hh ∧ hh[h'.length]? = some (.dct (encL encK natd ps)) ∧ hh[h'.length + 1]? = some (.lst (natsD L)) ∧ ps.length ≤ j2 ∧ L.length = j2 ∧ (((List.range Z.length).map (keyF Z K)).drop j2).foldl nm1 (ps, L) = ((List.range Z.length).map (keyF Z K)).foldl nm1 ([], []) ∧ env = [x0, x1, x2, some (.ref z), x4, some (.ref c5), some (.int (j : Int)), some (.ref Rw), e8, e9, e10, e11, e12, some (.ref h'.length), some (.ref (h'.length + 1)), e15, e16, e17, e18])
      (fun l env hh ⟨_, _, _, _, _, _, _, _, pp, _⟩ => still_one (pre_at pp (pre_at ph ez))) (fun x l env hh R' hi kk2 => ?_) (fun env hh hi => ?_) _ _ _ ⟨0, [], [], _, _, _, rfl, by omega, pre_one.trans pre_one, pA, pB, Nat.le_refl _, rfl, rfl, rfl⟩
    · obtain ⟨j2, ps, L, e11, e12, e15, hj2, hjl2, pp, eA, eB, kl, ll, hfo, rfl⟩ := hi
      have hjn2 : j2 < Z.length := by
        rcases Nat.lt_or_ge j2 Z.length with z | z
        · exact z
        · rw [drop_end _ z] at hj2; cases hj2
      rw [drop_range _ hjn2] at hj2
      cases hj2
      rw [drop_range _ hjn2, List.foldl_cons] at hfo
      have ero : (Z.map stepD).getD j2 .non = stepD (Z.getD j2 []) := by
        rw [List.getD_eq_getElem?_getD, List.getElem?_map, List.getElem?_eq_getElem hjn2, List.getD_eq_getElem?_getD, List.getElem?_eq_getElem hjn2]
        rfl
      rw [ero]
      have hrowm : Z.getD j2 [] ∈ Z := by
        rw [List.getD_eq_getElem?_getD, List.getElem?_eq_getElem hjn2]
        exact List.getElem_mem hjn2
      have eKh := pre_at pp eK
      have gA : getK hh h'.length = some (encL encK natd ps) := by unfold getK; rw [eA]
      simp only [wpSs, wpS, wpE, wpEs, wpCs, wpP, wpPs, List.map, List.replicate, List.cons_append, List.nil_append, List.append_nil, List.getElem?_cons_zero, List.getElem?_cons_succ, jn, ws_some, List.length_cons, List.length_nil, List.set, at0, at1, at2, idx_tup, c_gt, c_lt, c_le, c_ge, c_is, c_isnt, c_eqI, c_neI, c_eqS, c_neS, c_eqB, c_neB, isS, isNonD, isBlD, t_bl, b_int, b_abs, b_max2, b_min2, b_lenT, o_add, o_sub, permD, Option.map_some]
      refine ⟨by simp, by simp, rec_app eB, (by show (getK hh _).isSome = true; rw [gA]; rfl), ?_⟩
      rw [kd_at eKh (by omega)]
      simp only [ws_some, stepD, it_tup]
      refine comp_enc (xs := Z.getD j2 []) optD (fun o => some (koD (sucF K o))) still_nil (by rw [(hSr _ hrowm).1]; unfold LIM; omega) (fun o ho h4 R4 p4 kk4 => ?_) fun h4 p4 e4 => ?_
      · have kk4 := kk4 h4 (List.prefix_refl _)
        simp only [wpSs, wpS, wpE, wpEs, wpCs, wpP, wpPs, List.map, List.replicate, List.cons_append, List.nil_append, List.append_nil, List.getElem?_cons_zero, List.getElem?_cons_succ, jn, ws_some, List.length_cons, List.length_nil, List.set, at0, at1, at2, idx_tup, c_gt, c_lt, c_le, c_ge, c_is, c_isnt, c_eqI, c_neI, c_eqS, c_neS, c_eqB, c_neB, isS, isNonD, isBlD, t_bl, b_int, b_abs, b_max2, b_min2, b_lenT, o_add, o_sub, permD, Option.map_some, wipeE]
        refine ⟨by simp, ?_⟩
        cases o with
        | none =>
          simp only [optD, if_true]
          exact kk4
        | some t =>
          have htl := (hSr _ hrowm).2 t ho
          simp only [optD, Bool.false_eq_true, if_false, wpSs, wpS, wpE, wpEs, wpCs, wpP, wpPs, List.map, List.replicate, List.cons_append, List.nil_append, List.append_nil, List.getElem?_cons_zero, List.getElem?_cons_succ, jn, ws_some, List.length_cons, List.length_nil, List.set, at0, at1, at2, idx_tup, c_gt, c_lt, c_le, c_ge, c_is, c_isnt, c_eqI, c_neI, c_eqS, c_neS, c_eqB, c_neB, isS, isNonD, isBlD, t_bl, b_int, b_abs, b_max2, b_min2, b_lenT, o_add, o_sub, permD, Option.map_some]
          rw [kd_at (pre_at p4 eKh) (by omega)]
          exact kk4
      · rw [filterMap_some] at e4
        rw [b_tupleL e4, ws_some]
        have eA4 := pre_at p4 eA
        have eB4 := pre_at p4 eB
        rw [b_lenD eA4, ws_some]
        have hkey : D.tup [ktD (K.getD j2 (.inr 0)), .tup ((Z.getD j2 []).map fun o => koD (sucF K o))] = kyD (keyF Z K j2) := by
          unfold kyD keyF
          rw [List.map_map]; rfl
        rw [hkey]
        have hpl : (encL encK natd ps).length = ps.length := List.length_map _
        rw [hpl]
        have hA : h'.length + 1 < h4.length := (List.getElem?_eq_some_iff.mp eB4).1
        have hnl : ∀ L : List Nat, (natsD L).length = L.length := fun L => by unfold natsD; rw [List.length_map]
        have hna : ∀ (L : List Nat) (v : Nat), natsD L ++ [.int (v : Int)] = natsD (L ++ [v]) := fun L v => by unfold natsD; rw [List.map_append]; rfl
        cases hlk : look ps (keyF Z K j2) with
        | some v =>
          rw [sd_some eA4 (by omega) hlk, ws_some, app_at eB4 (by rw [hnl]; omega), ws_some, hna]
          refine kk2 _ _ ⟨j2 + 1, ps, L ++ [v], _, _, _, rfl, by omega, pre_set (pp.trans p4) (by omega) _, ?_, set_at eB4, by omega, by simp [ll], ?_, rfl⟩
          · rw [List.getElem?_set_ne (by omega)]; exact eA4
          · rw [← hfo]; unfold nm1; dsimp only; rw [hlk]
        | none =>
          rw [sd_none eA4 (by omega) hlk, ws_some]
          have eB5 : (h4.set h'.length (.dct (encL encK natd (ps ++ [(keyF Z K j2, ps.length)]))))[h'.length + 1]? = some (.lst (natsD L)) := by
            rw [List.getElem?_set_ne (by omega)]; exact eB4
          rw [app_at eB5 (by rw [hnl]; omega), ws_some, hna]
          refine kk2 _ _ ⟨j2 + 1, ps ++ [(keyF Z K j2, ps.length)], L ++ [ps.length], _, _, _, rfl, by omega, pre_set (pre_set (pp.trans p4) (Nat.le_refl _) _) (by omega) _, ?_, set_at eB5, by rw [List.length_append, List.length_singleton]; omega, by rw [List.length_append, List.length_singleton]; omega, ?_, rfl⟩
          · rw [List.getElem?_set_ne (by omega)]; exact set_at eA4
          · rw [← hfo]; unfold nm1; dsimp only; rw [hlk]
    · obtain ⟨j2, ps, L, e11, e12, e15, hj2, hjl2, pp, eA, eB, kl, ll, hfo, rfl⟩ := hi
      have hjn2 : Z.length ≤ j2 := by
        rcases Nat.lt_or_ge j2 Z.length with z | z
        · rw [drop_range _ z] at hj2; cases hj2
        · exact z
      have hj2e : j2 = Z.length := by omega
      rw [drop_end _ hjn2, List.foldl_nil] at hfo
      simp only [wpSs, wpS, wpE, wpEs, wpCs, wpP, wpPs, List.map, List.replicate, List.cons_append, List.nil_append, List.append_nil, List.getElem?_cons_zero, List.getElem?_cons_succ, jn, ws_some, List.length_cons, List.length_nil, List.set, at0, at1, at2, idx_tup, c_gt, c_lt, c_le, c_ge, c_is, c_isnt, c_eqI, c_neI, c_eqS, c_neS, c_eqB, c_neB, isS, isNonD, isBlD, t_bl, b_int, b_abs, b_max2, b_min2, b_lenT, o_add, o_sub, permD, Option.map_some]
      refine ⟨by simp, ?_⟩
      refine kk _ _ ⟨j + 1, _, _, _, _, _, _, _, rfl, by omega, ph.trans pp, ?_, rfl⟩
      have hL : L = rndF Z K := by
        unfold rndF namesF
        rw [← hfo]
      rw [hrd, ← hL, ← nats_kt]
      exact eB
  · obtain ⟨j, c5, e6, e11, e12, e13, e14, e15, hj, hjl, ph, eK, rfl⟩ := hi
    have hjn : n + 1 ≤ j := by
      rcases Nat.lt_or_ge j (n + 1) with z | z
      · rw [rng_drop z] at hj; cases hj
      · exact z
    have : j = n + 1 := by omega
    subst this
    refine kz c5 _ _ _ _ _ _ h' ph ?_
    rw [nats_kt]
    exact eK
end M11

end
section
set_option Elab.async false
set_option linter.all false
set_option autoImplicit false
/-! the least machine -/
namespace M11
open M
def endsF (r : Rules) (rows : List Row) : List Bool := rows.map (lawF r false)
def goodR (r : Rules) (rows : List Row) (steps : List Stp) : List Nat := goodI steps (endsF r rows) steps.length
/-- a machine: steps, ends, answers by board -/
structure Mac where
  found : List Stp
  ends : List Bool
  ans : List (Option (List Int))
def tlD : Option (List Int) → D
  | none => .non
  | some l => rowD l
def tlF (es : List Bool) (A : List (List Int)) (o : Nat) : Option (List Int) := if es.getD o false = true then some (A.getD o []) else none
def K0F (es : List Bool) (A : List (List Int)) : List Kt := (es.zip A).map fun p => .inl (p.1, if p.1 = true then some p.2 else none)
def LabF (Z : List Stp) (es : List Bool) (A : List (List Int)) : List Nat := rndF Z (KRd Z (K0F es A) Z.length)
/-- the machine that the loops find -/
structure MR (Z : List Stp) (es : List Bool) (A : List (List Int)) (m : Nat) (order : List Nat) (M : Mac) : Prop where
  bo : ∃ ps, BO Z (LabF Z es A) m order ps M.found
  run : MRun Z (LabF Z es A) ([0], [((LabF Z es A).getD 0 0, 0)]) [] (order, M.found)
  len : M.found.length = order.length
  ends : M.ends = order.map fun o => es.getD o false
  ans : M.ans = order.map (tlF es A)
def macD (found : List Stp) (dE dA : D) : D := .tup [.tup (found.map stepD), dE, dA]
def macM (M : Mac) : D := macD M.found (.tup (M.ends.map D.bl)) (.tup (M.ans.map tlD))
def cutF (g : List Nat) (s : Stp) : Stp := s.map fun o => if inO g o = true then o else none
def B10 : List CS := [
  .ret (.tup [(.blt .tuple [(.loc 10)]), (.blt .tuple [(.comp [15] (.slot 15) .val [(.loc 8)] [] (.idx (.loc 1) (.loc 15)))]), (.blt .tuple [(.comp [15] (.slot 15) .val [(.loc 8)] [] (.ife (.idx (.loc 1) (.loc 15)) (.idx (.loc 4) (.loc 15)) (.lit .non)))])])]
def B9 : List CS := W164 :: B10
def B8 : List CS := .asg (.tup [(.slot 8), (.slot 9), (.slot 10)]) (.tup [(.lst [(.lit (.int (0)))]), (.dctP [(.idx (.loc 5) (.lit (.int (0)))), (.lit (.int (0)))]), (.lst [])]) :: B9
def B7 : List CS := F164 :: B8
def B6 : List CS := .asg (.slot 5) (.comp [16, 17] (.tup [(.slot 16), (.slot 17)]) .zip [(.loc 1), (.loc 4)] [] (.tup [(.loc 16), (.ife (.loc 16) (.loc 17) (.lit .non))])) :: B7
def B5 : List CS := .asg (.slot 4) (.comp [11] (.slot 11) .val [(.loc 7)] [] (.blt .tuple [(.comp [18] (.slot 18) .range [(.blt .len [(.idx (.loc 0) (.lit (.int (3))))])] [] (.call 160 [(.loc 0), (.loc 18), (.loc 11)] [] [0, 1, 2]))])) :: B6
def B4 : List CS := .asg (.slot 3) (.comp [11] (.slot 11) .val [(.loc 3)] [] (.blt .tuple [(.comp [12] (.slot 12) .val [(.loc 11)] [] (.ife (.cmp .isin (.loc 12) (.loc 2)) (.loc 12) (.lit .non)))])) :: B5
def B3 : List CS := .ite (.cmp .notin (.lit (.int (0))) (.loc 2)) [
    .ret (.lit .non)] [] :: B4
def B2 : List CS := .asg (.slot 2) (.call 47 [(.loc 3), (.loc 1)] [] [0, 1]) :: B3
def B1 : List CS := .asg (.slot 1) (.comp [11] (.slot 11) .val [(.loc 7)] [] (.call 158 [(.loc 0), (.lit (.str [101, 110, 100, 115])), (.loc 11)] [] [0, 1, 2])) :: B2
theorem d164_eq : D164 = ⟨1, 19, .asg (.tup [(.slot 7), (.slot 3)]) (.call 163 [(.loc 0)] [] [0]) :: B1⟩ := rfl
theorem bl_at {h : Hm} {a : Nat} {bs : List Bool} (e : h[a]? = some (.lst (bs.map D.bl))) {b : Nat} (hb : b < bs.length) : idxS (.ref a) (.int (b : Int)) h = some (.bl (bs.getD b false)) := by
  rw [idx_lst e]
  refine at_nat ?_
  rw [List.getElem?_map, List.getElem?_eq_getElem hb, List.getD_eq_getElem?_getD, List.getElem?_eq_getElem hb]; rfl
theorem b10 {F : FnS} {E : XP} {found : List Stp} {order : List Nat} {es : List Bool} {A : List (List Int)} {m : Nat} {h : Hm} {a1 a4 O S : Nat} (e1 : h[a1]? = some (.lst (es.map D.bl))) (e4 : h[a4]? = some (.lst (A.map rowD))) (eO : h[O]? = some (.lst (natsD order))) (eS : h[S]? = some (.lst (found.map stepD))) (ho : ∀ o ∈ order, o < es.length) (hA : A.length = es.length) (hes : es.length ≤ 27) (hol : order.length ≤ 27) (h1 : 1 ≤ order.length) (hfo : found.length = order.length) (hrow : ∀ s ∈ found, s.length = m ∧ ∀ t, some t ∈ s → t < found.length)
    {x0 x2 x3 x5 x6 x7 x9 x11 x12 x13 x14 x15 x16 x17 x18 : Option D} {Z : Ends} (q : ∀ h', h <+: h' → Z.rt (macM ⟨found, order.map fun o => es.getD o false, order.map (tlF es A)⟩) h') :
    wpSs F E B10 [x0, some (.ref a1), x2, x3, some (.ref a4), x5, x6, x7, some (.ref O), x9, some (.ref S), x11, x12, x13, x14, x15, x16, x17, x18] h Z := by
  unfold B10
  simp only [wpSs, wpS, wpE, wpEs, wpCs, wpP, wpPs, List.map, List.replicate, List.cons_append, List.nil_append, List.append_nil, List.getElem?_cons_zero, List.getElem?_cons_succ, jn, ws_some, List.length_cons, List.length_nil, List.set, at0, at1, at2, idx_tup, c_gt, c_lt, c_le, c_ge, c_is, c_isnt, c_eqI, c_neI, c_eqS, c_neS, c_eqB, c_neB, isS, isNonD, isBlD, t_bl, b_int, b_abs, b_max2, b_min2, b_lenT, o_add, o_sub, permD, Option.map_some]
  rw [b_tupleL eS, ws_some, it_lst eO, ws_some]
  refine comp_enc (xs := order) (fun (k : Nat) => D.int (k : Int)) (fun o => some (D.bl (es.getD o false))) (still_one eO) (by unfold LIM; omega) (fun x hx h7 R7 p7 k7 => ?_) fun h7 p7 e7 => ?_
  · have k7 := k7 h7 (List.prefix_refl _)
    simp only [wpSs, wpS, wpE, wpEs, wpCs, wpP, wpPs, List.map, List.replicate, List.cons_append, List.nil_append, List.append_nil, List.getElem?_cons_zero, List.getElem?_cons_succ, jn, ws_some, List.length_cons, List.length_nil, List.set, at0, at1, at2, idx_tup, c_gt, c_lt, c_le, c_ge, c_is, c_isnt, c_eqI, c_neI, c_eqS, c_neS, c_eqB, c_neB, isS, isNonD, isBlD, t_bl, b_int, b_abs, b_max2, b_min2, b_lenT, o_add, o_sub, permD, Option.map_some, wipeE]
    refine ⟨by simp, ?_⟩
    rw [if_pos trivial, bl_at (pre_at p7 e1) (ho x hx)]
    exact k7
  · rw [filterMap_some] at e7
    rw [b_tupleL e7, ws_some, it_lst (pre_at p7 eO), ws_some]
    refine comp_enc (xs := order) (fun (k : Nat) => D.int (k : Int)) (fun o => some (if es.getD o false = true then rowD (A.getD o []) else .non)) (still_one (pre_at p7 eO)) (by unfold LIM; omega) (fun x hx h8 R8 p8 k8 => ?_) fun h8 p8 e8 => ?_
    · have k8 := k8 h8 (List.prefix_refl _)
      simp only [wpSs, wpS, wpE, wpEs, wpCs, wpP, wpPs, List.map, List.replicate, List.cons_append, List.nil_append, List.append_nil, List.getElem?_cons_zero, List.getElem?_cons_succ, jn, ws_some, List.length_cons, List.length_nil, List.set, at0, at1, at2, idx_tup, c_gt, c_lt, c_le, c_ge, c_is, c_isnt, c_eqI, c_neI, c_eqS, c_neS, c_eqB, c_neB, isS, isNonD, isBlD, t_bl, b_int, b_abs, b_max2, b_min2, b_lenT, o_add, o_sub, permD, Option.map_some, wipeE]
      refine ⟨by simp, ?_⟩
      rw [if_pos trivial, bl_at (pre_at (p7.trans p8) e1) (ho x hx), ws_some, t_bl, ws_some]
      cases hd : es.getD x false with
      | true =>
        rw [hd, if_pos rfl] at k8
        have : idxS (.ref a4) (.int (x : Int)) h8 = some (rowD (A.getD x [])) := by
          have hx' : x < A.length := by rw [hA]; exact ho x hx
          rw [idx_lst (pre_at (p7.trans p8) e4)]
          refine at_nat ?_
          rw [List.getElem?_map, List.getElem?_eq_getElem hx', List.getD_eq_getElem?_getD, List.getElem?_eq_getElem hx']; rfl
        rw [if_pos rfl, this]
        exact k8
      | false =>
        rw [hd, if_neg (by decide)] at k8
        rw [if_neg (by decide)]
        exact k8
    · rw [filterMap_some] at e8
      rw [b_tupleL e8, ws_some]
      have q := q h8 (p7.trans p8)
      unfold macM at q
      dsimp only at q
      rw [List.map_map, List.map_map] at q
      have e9 : (order.map (D.bl ∘ fun o => es.getD o false)) = order.map fun o => D.bl (es.getD o false) := rfl
      have e10 : (order.map (tlD ∘ tlF es A)) = order.map fun o => if es.getD o false = true then rowD (A.getD o []) else .non := by
        refine List.map_congr_left fun o _ => ?_
        simp only [Function.comp, tlF]
        cases es.getD o false <;> rfl
      rw [e9, e10] at q
      exact q
theorem b8 {N : Nat} {E : XP} {Z : List Stp} {n m : Nat} (hn1 : 1 ≤ n) (hn2 : n ≤ 27) (hm2 : m ≤ 30) (hZn : Z.length = n) (hSr : ∀ r ∈ Z, r.length = m ∧ ∀ t, some t ∈ r → t < Z.length) {es : List Bool} {A : List (List Int)} (hes : es.length = n) (hA : A.length = n) {h : Hm} {a1 z a4 c5 : Nat} (e1 : h[a1]? = some (.lst (es.map D.bl))) (ez : h[z]? = some (.lst (Z.map stepD))) (e4 : h[a4]? = some (.lst (A.map rowD))) (eK : h[c5]? = some (.lst (natsD (LabF Z es A))))
    {x0 x2 e6 x7 e8 e9 e10 e11 e12 e13 e14 e15 x16 x17 x18 : Option D} {Zt : Ends} (q : ∀ h' order M, h <+: h' → MR Z es A m order M → Zt.rt (macM M) h') :
    wpSs (FW P N) E B8 [x0, some (.ref a1), x2, some (.ref z), some (.ref a4), some (.ref c5), e6, x7, e8, e9, e10, e11, e12, e13, e14, e15, x16, x17, x18] h Zt := by
  have hLl : (LabF Z es A).length = n := by unfold LabF; rw [rnd_len]; exact hZn
  have hLn : ∀ x ∈ LabF Z es A, x < n := fun x hx => by rw [← hZn]; exact rnd_lt _ _ x hx
  have q2 : ∀ h' order ps found, h <+: h' → BO Z (LabF Z es A) m order ps found → MRun Z (LabF Z es A) ([0], [((LabF Z es A).getD 0 0, 0)]) [] (order, found) → found.length = order.length → Zt.rt (macM ⟨found, order.map fun o => es.getD o false, order.map (tlF es A)⟩) h' := fun h' order ps found p bo run len => q h' order ⟨found, order.map fun o => es.getD o false, order.map (tlF es A)⟩ p ⟨⟨ps, bo⟩, run, len, rfl, rfl⟩
  clear q
  generalize LabF Z es A = L at hLl hLn eK q2
  unfold B8
  simp only [wpSs, wpS, wpE, wpEs, wpCs, wpP, wpPs, List.map, List.replicate, List.cons_append, List.nil_append, List.append_nil, List.getElem?_cons_zero, List.getElem?_cons_succ, jn, ws_some, List.length_cons, List.length_nil, List.set, at0, at1, at2, idx_tup, c_gt, c_lt, c_le, c_ge, c_is, c_isnt, c_eqI, c_neI, c_eqS, c_neS, c_eqB, c_neB, isS, isNonD, isBlD, t_bl, b_int, b_abs, b_max2, b_min2, b_lenT, o_add, o_sub, permD, Option.map_some]
  have g0 : idxS (.ref c5) (.int 0) (h ++ [Cell.lst [D.int 0]] ++ [Cell.dct []]) = some (.int ((L.getD 0 0 : Nat) : Int)) := n_at (pre_at (pre_one.trans pre_one) eK) (b := 0) (by omega)
  rw [g0, ws_some]
  have g1 : evens [D.int ((L.getD 0 0 : Nat) : Int), D.int 0] = some [(D.int ((L.getD 0 0 : Nat) : Int), D.int 0)] := rfl
  rw [g1, ws_some]
  refine ⟨last_at, by simp, ?_⟩
  have g2 : mergeK [] [(D.int ((L.getD 0 0 : Nat) : Int), D.int 0)] = some (encL encNat natd [(L.getD 0 0, 0)]) := rfl
  rw [g2, ws_some]
  refine ⟨by omega, by omega, by omega, ?_⟩
  have l1 : (h ++ [Cell.lst [D.int 0]]).length = h.length + 1 := by simp
  have l2 : ((h ++ [Cell.lst [D.int 0]] ++ [Cell.dct []]).set (h ++ [Cell.lst [D.int 0]]).length (.dct (encL encNat natd [(L.getD 0 0, 0)]))).length = h.length + 2 := by simp
  have qO : ((h ++ [Cell.lst [D.int 0]] ++ [Cell.dct []]).set (h ++ [Cell.lst [D.int 0]]).length (.dct (encL encNat natd [(L.getD 0 0, 0)])) ++ [Cell.lst []])[h.length]? = some (.lst (natsD [0])) := by
    refine pre_at pre_one ?_
    rw [List.getElem?_set_ne (by omega)]
    exact pre_at pre_one last_at
  have qP : ((h ++ [Cell.lst [D.int 0]] ++ [Cell.dct []]).set (h ++ [Cell.lst [D.int 0]]).length (.dct (encL encNat natd [(L.getD 0 0, 0)])) ++ [Cell.lst []])[h.length + 1]? = some (.dct (encL encNat natd [(L.getD 0 0, 0)])) := by
    refine pre_at pre_one ?_
    rw [← l1]
    exact set_at last_at
  have qF : ((h ++ [Cell.lst [D.int 0]] ++ [Cell.dct []]).set (h ++ [Cell.lst [D.int 0]]).length (.dct (encL encNat natd [(L.getD 0 0, 0)])) ++ [Cell.lst []])[h.length + 2]? = some (.lst []) := by
    rw [← l2]
    exact last_at
  have pq : h <+: (h ++ [Cell.lst [D.int 0]] ++ [Cell.dct []]).set (h ++ [Cell.lst [D.int 0]]).length (.dct (encL encNat natd [(L.getD 0 0, 0)])) ++ [Cell.lst []] := (pre_set (pre_one.trans pre_one) (by rw [l1]; omega) _).trans pre_one
  rw [l2]
  generalize (h ++ [Cell.lst [D.int 0]] ++ [Cell.dct []]).set (h ++ [Cell.lst [D.int 0]]).length (.dct (encL encNat natd [(L.getD 0 0, 0)])) ++ [Cell.lst []] = h5 at qO qP qF pq
  rw [l1]
  unfold B9
  rw [wpSs]
  refine bfs_spec (Z := Z) (n := n) (m := m) (hb := h) (by omega) hm2 hZn hSr hLl hLn ez eK pq (Nat.le_refl _) qO qP qF hn1 fun order ps found e9 e10 e11 e12 e13 hh ph bo hrun hfo rO rF => ?_
  have hol := bo.bi.len hLn
  have hpos := List.length_pos_of_mem bo.zero
  exact b10 (pre_at ph e1) (pre_at ph e4) rO rF (fun o ho => by have := bo.bi.lt o ho; omega) (by omega) (by omega) (by omega) (by omega) hfo (fun s hs => by rw [hfo]; exact bo.row s hs) fun h' p' => q2 h' order ps found (ph.trans p') bo hrun hfo
theorem it_zip {h : Hm} {a b : Nat} {xs ys : List D} (e1 : h[a]? = some (.lst xs)) (e2 : h[b]? = some (.lst ys)) : iterS .zip [.ref a, .ref b] h = some (zipD xs ys, [(a, .lst xs)] ++ [(b, .lst ys)]) := by
  simp [iterS, seqOf, getL, leanOn, e1, e2]
theorem zip_map : ∀ (es : List Bool) (A : List (List Int)), zipD (es.map D.bl) (A.map rowD) = (es.zip A).map fun p => D.tup [.bl p.1, rowD p.2]
  | [], _ => rfl
  | _ :: _, [] => rfl
  | e :: es, a :: A => by
    have := zip_map es A
    unfold zipD at this ⊢
    rw [List.map_cons, List.map_cons, List.zipWith_cons_cons, this]; rfl
theorem b6 {N : Nat} {E : XP} {Z : List Stp} {n m : Nat} (hn1 : 1 ≤ n) (hn2 : n ≤ 27) (hm2 : m ≤ 30) (hZn : Z.length = n) (hSr : ∀ r ∈ Z, r.length = m ∧ ∀ t, some t ∈ r → t < Z.length) {es : List Bool} {A : List (List Int)} (hes : es.length = n) (hA : A.length = n) {h : Hm} {a1 z a4 Rw : Nat} {rs : List D} (hrs : rs.length = n) (e1 : h[a1]? = some (.lst (es.map D.bl))) (ez : h[z]? = some (.lst (Z.map stepD))) (e4 : h[a4]? = some (.lst (A.map rowD))) (eR : h[Rw]? = some (.lst rs))
    {x0 x2 : Option D} {Zt : Ends} (q : ∀ h' order M, h <+: h' → MR Z es A m order M → Zt.rt (macM M) h') :
    wpSs (FW P N) E B6 [x0, some (.ref a1), x2, some (.ref z), some (.ref a4), none, none, some (.ref Rw), none, none, none, none, none, none, none, none, none, none, none] h Zt := by
  unfold B6
  simp only [wpSs, wpS, wpE, wpEs, wpCs, wpP, wpPs, List.map, List.replicate, List.cons_append, List.nil_append, List.append_nil, List.getElem?_cons_zero, List.getElem?_cons_succ, jn, ws_some, List.length_cons, List.length_nil, List.set, at0, at1, at2, idx_tup, c_gt, c_lt, c_le, c_ge, c_is, c_isnt, c_eqI, c_neI, c_eqS, c_neS, c_eqB, c_neB, isS, isNonD, isBlD, t_bl, b_int, b_abs, b_max2, b_min2, b_lenT, o_add, o_sub, permD, Option.map_some]
  rw [it_zip e1 e4, ws_some]
  simp only []
  rw [zip_map]
  have hzl : (es.zip A).length = n := by rw [List.length_zip]; omega
  refine comp_enc (xs := es.zip A) (fun p => D.tup [.bl p.1, rowD p.2]) (fun p => some (.tup [.bl p.1, if p.1 = true then rowD p.2 else .non])) (fun p hp => ?_) (by unfold LIM; omega) (fun p hp h2 R p2 k2 => ?_) fun h2 p2 e2 => ?_
  · rcases List.mem_append.mp hp with hp | hp
    · rw [List.mem_singleton.mp hp]; exact e1
    · rw [List.mem_singleton.mp hp]; exact e4
  · have k2 := k2 h2 (List.prefix_refl _)
    simp only [wpSs, wpS, wpE, wpEs, wpCs, wpP, wpPs, List.map, List.replicate, List.cons_append, List.nil_append, List.append_nil, List.getElem?_cons_zero, List.getElem?_cons_succ, jn, ws_some, List.length_cons, List.length_nil, List.set, at0, at1, at2, idx_tup, c_gt, c_lt, c_le, c_ge, c_is, c_isnt, c_eqI, c_neI, c_eqS, c_neS, c_eqB, c_neB, isS, isNonD, isBlD, t_bl, b_int, b_abs, b_max2, b_min2, b_lenT, o_add, o_sub, permD, Option.map_some, wipeE]
    refine ⟨by simp, by simp, ?_⟩
    cases hb : p.1 with
    | true =>
      rw [hb, if_pos rfl] at k2
      simpa using k2
    | false =>
      rw [hb, if_neg (by decide)] at k2
      simpa using k2
  · rw [filterMap_some] at e2
    refine ⟨by simp, ?_⟩
    unfold B7
    rw [wpSs]
    have ek : ((es.zip A).map fun p => D.tup [.bl p.1, if p.1 = true then rowD p.2 else .non]) = (K0F es A).map ktD := by
      unfold K0F
      rw [List.map_map]
      refine List.map_congr_left fun p _ => ?_
      obtain ⟨b, l⟩ := p
      cases b <;> rfl
    rw [ek] at e2
    refine rounds_spec (n := n) (m := m) hn1 (by omega) hm2 hZn hSr (by unfold K0F; rw [List.length_map]; exact hzl) (pre_at p2 ez) e2 (pre_at p2 eR) hrs fun c5 e6 e11 e12 e13 e14 e15 h3 p3 eL => ?_
    have p23 := p2.trans p3
    have eL : h3[c5]? = some (.lst (natsD (LabF Z es A))) := by unfold LabF; rw [hZn]; exact eL
    exact b8 hn1 hn2 hm2 hZn hSr hes hA (pre_at p23 e1) (pre_at p23 ez) (pre_at p23 e4) eL fun h' order M p4 mo => q h' order M (p23.trans p4) mo
end M11

end
section
set_option Elab.async false
set_option linter.all false
set_option autoImplicit false
/-! the least machine, whole -/
namespace M11
open M
theorem qs_at {r : Rules} : atI [.tup (r.regs.map rgD), .tup (r.deeds.map ddD), .tup (r.laws.map lwD), .tup (r.qs.map quD)] 3 = some (.tup (r.qs.map quD)) := rfl
def ansF (r : Rules) (row : Row) : List Int := (List.range r.qs.length).map (toldQ r row)
theorem b5 {N : Nat} (hN : 25 ≤ N) {E : XP} {r : Rules} (ok : OKR r) {rows : List Row} (bx : ∀ x ∈ rows, Box r.regs.length x) {Z : List Stp} {n m : Nat} (hn1 : 1 ≤ n) (hn2 : n ≤ 27) (hm2 : m ≤ 30) (hrn : rows.length = n) (hZn : Z.length = n) (hSr : ∀ r ∈ Z, r.length = m ∧ ∀ t, some t ∈ r → t < Z.length) {es : List Bool} (hes : es.length = n) {h : Hm} {a1 z Rw : Nat} (e1 : h[a1]? = some (.lst (es.map D.bl))) (ez : h[z]? = some (.lst (Z.map stepD))) (eR : h[Rw]? = some (.lst (rows.map rowD)))
    {x2 : Option D} {Zt : Ends} (q : ∀ h' order M, h <+: h' → MR Z es (rows.map (ansF r)) m order M → Zt.rt (macM M) h') :
    wpSs (FW P N) E B5 [some (rulesD r), some (.ref a1), x2, some (.ref z), none, none, none, some (.ref Rw), none, none, none, none, none, none, none, none, none, none, none] h Zt := by
  obtain ⟨N, rfl⟩ : ∃ N', N = N' + 1 := ⟨N - 1, by omega⟩
  unfold B5
  simp only [wpSs, wpS, wpE, wpEs, wpCs, wpP, wpPs, List.map, List.replicate, List.cons_append, List.nil_append, List.append_nil, List.getElem?_cons_zero, List.getElem?_cons_succ, jn, ws_some, List.length_cons, List.length_nil, List.set, at0, at1, at2, idx_tup, c_gt, c_lt, c_le, c_ge, c_is, c_isnt, c_eqI, c_neI, c_eqS, c_neS, c_eqB, c_neB, isS, isNonD, isBlD, t_bl, b_int, b_abs, b_max2, b_min2, b_lenT, o_add, o_sub, permD, Option.map_some]
  rw [it_lst eR, ws_some]
  have hq2 := ok.q2
  refine comp_inv (fun l acc hh => ∃ (dn rest : List Row), rows = dn ++ rest ∧ l = rest.map rowD ∧ acc = (dn.map (ansF r)).map rowD ∧ h <+: hh ∧ hh[h.length]? = some (.lst acc))
    (fun _ _ hh ⟨_, _, _, _, _, p, _⟩ => still_one (pre_at p eR)) (fun x l acc hh R hi k1 k2 => ?_) (fun acc hh hi => ?_) _ _ _ ⟨[], rows, rfl, rfl, rfl, pre_one, last_at⟩
  · obtain ⟨dn, rest, hp, hx, rfl, pp, eA⟩ := hi
    cases rest with
    | nil => cases hx
    | cons row rest =>
      rw [List.map_cons] at hx
      cases hx
      have hrm : row ∈ rows := by rw [hp]; simp
      have hdl : dn.length < rows.length := by rw [hp]; simp
      simp only [wpSs, wpS, wpE, wpEs, wpCs, wpP, wpPs, List.map, List.replicate, List.cons_append, List.nil_append, List.append_nil, List.getElem?_cons_zero, List.getElem?_cons_succ, jn, ws_some, List.length_cons, List.length_nil, List.set, at0, at1, at2, idx_tup, c_gt, c_lt, c_le, c_ge, c_is, c_isnt, c_eqI, c_neI, c_eqS, c_neS, c_eqB, c_neB, isS, isNonD, isBlD, t_bl, b_int, b_abs, b_max2, b_min2, b_lenT, o_add, o_sub, permD, Option.map_some, wipeE]
      refine ⟨by simp, ?_⟩
      simp only [rulesD, wpSs, wpS, wpE, wpEs, wpCs, wpP, wpPs, List.map, List.replicate, List.cons_append, List.nil_append, List.append_nil, List.getElem?_cons_zero, List.getElem?_cons_succ, jn, ws_some, List.length_cons, List.length_nil, List.set, at0, at1, at2, idx_tup, c_gt, c_lt, c_le, c_ge, c_is, c_isnt, c_eqI, c_neI, c_eqS, c_neS, c_eqB, c_neB, isS, isNonD, isBlD, t_bl, b_int, b_abs, b_max2, b_min2, b_lenT, o_add, o_sub, permD, Option.map_some, qs_at]
      rw [List.length_map, it_range (by omega) (by omega), ws_some]
      refine comp_inv (fun l acc h2 => ∃ (j : Nat), l = (rngD 0 (r.qs.length : Int).toNat).drop j ∧ j ≤ r.qs.length ∧ acc = ((List.range j).map (toldQ r row)).map D.int ∧ hh <+: h2 ∧ h2[hh.length]? = some (.lst acc))
        (fun _ _ _ _ => still_nil) (fun x l acc h2 R2 hi c1 c2 => ?_) (fun acc h2 hi => ?_) _ _ _ ⟨0, rfl, by omega, rfl, pre_one, last_at⟩
      · obtain ⟨j, hj, hjl, rfl, p2, e2⟩ := hi
        have hjn : j < (r.qs.length : Int).toNat := by
          rcases Nat.lt_or_ge j (r.qs.length : Int).toNat with z | z
          · exact z
          · rw [rng_end z] at hj; cases hj
        rw [rng_drop hjn] at hj
        cases hj
        refine ⟨by simp, ?_⟩
        refine told_spec (N := N) (row := row) ok (bx row hrm).len (by omega) (by omega) ?_
        exact c1 _ h2 e2 (by rw [List.length_map, List.length_map, List.length_range]; unfold LIM; omega) ⟨j + 1, rfl, by omega, by rw [List.range_succ, List.map_append, List.map_append]; rfl, pre_set p2 (Nat.le_refl _) _, set_at e2⟩
      · obtain ⟨j, hj, hjl, rfl, p2, e2⟩ := hi
        rw [b_tupleL e2, ws_some]
        have eA2 := pre_at p2 eA
        have hA0 : h.length < hh.length := (List.getElem?_eq_some_iff.mp eA).1
        have hjn : r.qs.length ≤ j := by
          rcases Nat.lt_or_ge j (r.qs.length : Int).toNat with z | z
          · rw [rng_drop z] at hj; cases hj
          · omega
        have hje : j = r.qs.length := by omega
        subst hje
        exact k1 _ h2 eA2 (by rw [List.length_map, List.length_map]; unfold LIM; omega) ⟨dn ++ [row], rest, by rw [hp]; simp, rfl, by rw [List.map_append, List.map_append]; rfl, pre_set (pp.trans p2) (Nat.le_refl _) _, set_at eA2⟩
  · obtain ⟨dn, rest, hp, hx, rfl, pp, eA⟩ := hi
    have hr0 : rest = [] := List.map_eq_nil_iff.mp hx.symm
    subst hr0
    rw [List.append_nil] at hp
    refine ⟨by simp, ?_⟩
    rw [← hp] at eA
    exact b6 hn1 hn2 hm2 hZn hSr hes (by rw [List.length_map]; exact hrn) (by rw [List.length_map]; exact hrn) (pre_at pp e1) (pre_at pp ez) eA (pre_at pp eR) fun h' order M p4 mo => q h' order M (pp.trans p4) mo
theorem b4 {N : Nat} (hN : 25 ≤ N) {E : XP} {r : Rules} (ok : OKR r) {rows : List Row} (bx : ∀ x ∈ rows, Box r.regs.length x) {S : List Stp} {n m : Nat} (hn1 : 1 ≤ n) (hn2 : n ≤ 27) (hm2 : m ≤ 30) (hrn : rows.length = n) (hSn : S.length = n) (hSr : ∀ r ∈ S, r.length = m ∧ ∀ t, some t ∈ r → t < n) {g : List Nat} {es : List Bool} (hes : es.length = n) {h : Hm} {a1 a2 z Rw : Nat} (e1 : h[a1]? = some (.lst (es.map D.bl))) (e2 : h[a2]? = some (.lst (natsD g))) (ez : h[z]? = some (.lst (S.map stepD))) (eR : h[Rw]? = some (.lst (rows.map rowD)))
    {Zt : Ends} (q : ∀ h' order M, h <+: h' → MR (S.map (cutF g)) es (rows.map (ansF r)) m order M → Zt.rt (macM M) h') :
    wpSs (FW P N) E B4 [some (rulesD r), some (.ref a1), some (.ref a2), some (.ref z), none, none, none, some (.ref Rw), none, none, none, none, none, none, none, none, none, none, none] h Zt := by
  unfold B4
  simp only [wpSs, wpS, wpE, wpEs, wpCs, wpP, wpPs, List.map, List.replicate, List.cons_append, List.nil_append, List.append_nil, List.getElem?_cons_zero, List.getElem?_cons_succ, jn, ws_some, List.length_cons, List.length_nil, List.set, at0, at1, at2, idx_tup, c_gt, c_lt, c_le, c_ge, c_is, c_isnt, c_eqI, c_neI, c_eqS, c_neS, c_eqB, c_neB, isS, isNonD, isBlD, t_bl, b_int, b_abs, b_max2, b_min2, b_lenT, o_add, o_sub, permD, Option.map_some]
  rw [it_lst ez, ws_some]
  refine comp_enc (xs := S) stepD (fun s => some (stepD (cutF g s))) (still_one ez) (by unfold LIM; omega) (fun s hs h2 R p2 k2 => ?_) fun h2 p2 ez2 => ?_
  · simp only [wpSs, wpS, wpE, wpEs, wpCs, wpP, wpPs, List.map, List.replicate, List.cons_append, List.nil_append, List.append_nil, List.getElem?_cons_zero, List.getElem?_cons_succ, jn, ws_some, List.length_cons, List.length_nil, List.set, at0, at1, at2, idx_tup, c_gt, c_lt, c_le, c_ge, c_is, c_isnt, c_eqI, c_neI, c_eqS, c_neS, c_eqB, c_neB, isS, isNonD, isBlD, t_bl, b_int, b_abs, b_max2, b_min2, b_lenT, o_add, o_sub, permD, Option.map_some, wipeE, stepD, it_tup]
    refine ⟨by simp, ?_⟩
    have hsl := (hSr s hs).1
    refine comp_enc (xs := s) optD (fun o => some (optD (if inO g o = true then o else none))) still_nil (by unfold LIM; omega) (fun o ho h3 R3 p3 k3 => ?_) fun h3 p3 e3 => ?_
    · have k3 := k3 h3 (List.prefix_refl _)
      refine ⟨by simp, ?_⟩
      rw [isin_opt (pre_at (p2.trans p3) e2)]
      simp only [ws_some, t_bl]
      cases hd : inO g o with
      | true => simp only [hd, if_true] at k3 ⊢; exact k3
      | false => simp only [hd, Bool.false_eq_true, if_false] at k3 ⊢; exact k3
    · rw [filterMap_some] at e3
      rw [b_tupleL e3, ws_some]
      have := k2 h3 p3
      simp only [stepD, cutF, List.map_map] at this
      exact this
  · rw [filterMap_some] at ez2
    have ez2 : h2[h.length]? = some (.lst ((S.map (cutF g)).map stepD)) := by rw [ez2, List.map_map]; rfl
    refine ⟨by simp, ?_⟩
    refine b5 hN ok bx (Z := S.map (cutF g)) hn1 hn2 hm2 hrn (by rw [List.length_map]; exact hSn) (fun s hs => ?_) hes (pre_at p2 e1) ez2 (pre_at p2 eR) fun h' order M p4 mo => q h' order M (p2.trans p4) mo
    obtain ⟨s0, hs0, rfl⟩ := List.mem_map.mp hs
    have h0 := hSr s0 hs0
    unfold cutF
    refine ⟨by rw [List.length_map]; exact h0.1, fun t ht => ?_⟩
    rw [List.length_map, hSn]
    obtain ⟨o, ho, e⟩ := List.mem_map.mp ht
    split at e
    · exact h0.2 t (by rw [← e]; exact ho)
    · cases e
/-- whether there is no machine -/
def NoM (r : Rules) : Prop := ∃ rows steps, Bds r (rows, steps) ∧ 0 ∉ goodR r rows steps
def IsM (r : Rules) : Prop := ∃ rows steps, Bds r (rows, steps) ∧ 0 ∈ goodR r rows steps
theorem no_both {r : Rules} (a : NoM r) (b : IsM r) : False := by
  obtain ⟨rows, steps, h1, h2⟩ := a
  obtain ⟨rows', steps', h3, h4⟩ := b
  have := h1.det h3
  cases this
  exact h2 h4
/-- what the rules' machine is -/
structure MRl (r : Rules) (rows : List Row) (steps : List Stp) (order : List Nat) (M : Mac) : Prop where
  bds : Bds r (rows, steps)
  good : 0 ∈ goodR r rows steps
  ok : BdsOk r rows steps
  n1 : 1 ≤ steps.length
  n2 : steps.length ≤ 27
  mr : MR (steps.map (cutF (goodR r rows steps))) (endsF r rows) (rows.map (ansF r)) r.deeds.length order M
theorem machine_spec {N : Nat} (hN : 30 ≤ N) {r : Rules} (ok : OKR r) {h : Hm} {Q : VQ} {E : XP} (q0 : ∀ h', h <+: h' → NoM r → Q .non h') (q1 : ∀ h' rows steps order M, h <+: h' → MRl r rows steps order M → Q (macM M) h') : FW P (N + 1) 164 [rulesD r] h Q E := by
  obtain ⟨N, rfl⟩ : ∃ N', N = N' + 1 := ⟨N - 1, by omega⟩
  refine fw_open (d := D164) rfl rfl ?_
  rw [d164_eq]
  simp only [wpSs, wpS, wpE, wpEs, wpCs, wpP, wpPs, List.map, List.replicate, List.cons_append, List.nil_append, List.append_nil, List.getElem?_cons_zero, List.getElem?_cons_succ, jn, ws_some, List.length_cons, List.length_nil, List.set, at0, at1, at2, idx_tup, c_gt, c_lt, c_le, c_ge, c_is, c_isnt, c_eqI, c_neI, c_eqS, c_neS, c_eqB, c_neB, isS, isNonD, isBlD, t_bl, b_int, b_abs, b_max2, b_min2, b_lenT, o_add, o_sub, permD, Option.map_some]
  refine boards_spec ok (by omega) fun h1 R S rows steps p1 bo eR eS => ?_
  have h27 := rows_le ok.r2 bo.bs.nd bo.bs.box
  have hlen := bo.len
  have hd2 := ok.d2
  refine ⟨by simp, by simp, ?_⟩
  unfold B1
  simp only [wpSs, wpS, wpE, wpEs, wpCs, wpP, wpPs, List.map, List.replicate, List.cons_append, List.nil_append, List.append_nil, List.getElem?_cons_zero, List.getElem?_cons_succ, jn, ws_some, List.length_cons, List.length_nil, List.set, at0, at1, at2, idx_tup, c_gt, c_lt, c_le, c_ge, c_is, c_isnt, c_eqI, c_neI, c_eqS, c_neS, c_eqB, c_neB, isS, isNonD, isBlD, t_bl, b_int, b_abs, b_max2, b_min2, b_lenT, o_add, o_sub, permD, Option.map_some]
  rw [it_lst eR, ws_some]
  refine comp_enc (xs := rows) rowD (fun row => some (.bl (lawF r false row))) (still_one eR) (by unfold LIM; omega) (fun row hrow h2 R2 p2 k2 => ?_) fun h2 p2 e2 => ?_
  · simp only [wpSs, wpS, wpE, wpEs, wpCs, wpP, wpPs, List.map, List.replicate, List.cons_append, List.nil_append, List.append_nil, List.getElem?_cons_zero, List.getElem?_cons_succ, jn, ws_some, List.length_cons, List.length_nil, List.set, at0, at1, at2, idx_tup, c_gt, c_lt, c_le, c_ge, c_is, c_isnt, c_eqI, c_neI, c_eqS, c_neS, c_eqB, c_neB, isS, isNonD, isBlD, t_bl, b_int, b_abs, b_max2, b_min2, b_lenT, o_add, o_sub, permD, Option.map_some, wipeE]
    refine ⟨by simp, ?_⟩
    refine lawful_spec (b := false) (row := row) ok (bo.bs.box row hrow).len (.inl rfl) (by omega) fun h3 p3 => ?_
    exact k2 h3 p3
  · rw [filterMap_some] at e2
    have e2 : h2[h1.length]? = some (.lst ((endsF r rows).map D.bl)) := by
      rw [e2]
      unfold endsF
      rw [List.map_map]; rfl
    refine ⟨by simp, ?_⟩
    unfold B2
    simp only [wpSs, wpS, wpE, wpEs, wpCs, wpP, wpPs, List.map, List.replicate, List.cons_append, List.nil_append, List.append_nil, List.getElem?_cons_zero, List.getElem?_cons_succ, jn, ws_some, List.length_cons, List.length_nil, List.set, at0, at1, at2, idx_tup, c_gt, c_lt, c_le, c_ge, c_is, c_isnt, c_eqI, c_neI, c_eqS, c_neS, c_eqB, c_neB, isS, isNonD, isBlD, t_bl, b_int, b_abs, b_max2, b_min2, b_lenT, o_add, o_sub, permD, Option.map_some]
    have hel : (endsF r rows).length = steps.length := by unfold endsF; rw [List.length_map]; exact hlen
    refine good_spec (S := steps) (ends := endsF r rows) (by omega) hel (fun s hs => by have := (bo.bs.wf s hs).1; omega) (pre_at p2 eS) e2 fun a2 h3 p3 e3 => ?_
    refine ⟨by simp, ?_⟩
    unfold B3
    simp only [wpSs, wpS, wpE, wpEs, wpCs, wpP, wpPs, List.map, List.replicate, List.cons_append, List.nil_append, List.append_nil, List.getElem?_cons_zero, List.getElem?_cons_succ, jn, ws_some, List.length_cons, List.length_nil, List.set, at0, at1, at2, idx_tup, c_gt, c_lt, c_le, c_ge, c_is, c_isnt, c_eqI, c_neI, c_eqS, c_neS, c_eqB, c_neB, isS, isNonD, isBlD, t_bl, b_int, b_abs, b_max2, b_min2, b_lenT, o_add, o_sub, permD, Option.map_some]
    have hni : cmpS .notin (.int 0) (.ref a2) h3 = some (!decide (0 ∈ goodI steps (endsF r rows) steps.length)) := notin_nat e3 0
    rw [hni, ws_some]
    have p13 := p1.trans (p2.trans p3)
    by_cases c0 : 0 ∈ goodI steps (endsF r rows) steps.length
    · rw [decide_eq_true c0, if_neg (by decide)]
      have hs1 : 1 ≤ steps.length := by
        rcases Nat.eq_zero_or_pos steps.length with z | z
        · rw [z] at c0
          have : steps = [] := List.length_eq_zero_iff.mp z
          subst this
          simp [goodI, good0] at c0
        · exact z
      exact b4 (by omega) ok bo.bs.box hs1 (by omega) (by omega) hlen rfl (fun s hs => by have := bo.bs.wf s hs; exact ⟨this.1, fun t ht => by rw [← hlen]; exact this.2 t ht⟩) hel (pre_at p3 e2) e3 (pre_at (p2.trans p3) eS) (pre_at (p2.trans p3) eR) fun h' order M p4 mo => q1 h' rows steps order M (p13.trans p4) ⟨bo.run, c0, bo, hs1, by omega, mo⟩
    · rw [decide_eq_false c0, if_pos (by decide)]
      exact q0 h3 p13 ⟨rows, steps, bo.run, c0⟩
end M11

end
section
set_option Elab.async false
set_option linter.all false
set_option autoImplicit false
/-! the machine, in plain words: its boards, its steps -/
namespace M11
open M
def runF (found : List Stp) : Option Nat → List Nat → Option Nat
  | o, [] => o
  | o, d :: l => runF found (o.bind fun b => (found.getD b []).getD d none) l
theorem runF_app {found : List Stp} {l2 : List Nat} : ∀ {o : Option Nat} {l1 : List Nat}, runF found o (l1 ++ l2) = runF found (runF found o l1) l2
  | o, [] => rfl
  | o, d :: l1 => runF_app (l1 := l1)
theorem runF_none {found : List Stp} : ∀ {l : List Nat}, runF found none l = none
  | [] => rfl
  | d :: l => runF_none (l := l)
/-- what one row's turns give -/
structure RO (L : List Nat) (s : List Nat × List (Nat × Nat)) (row : Stp) (x : St1) : Prop where
  bi : BI L x.1.1 x.1.2
  pre : s.1 <+: x.1.1
  len : x.2.length = row.length
  at_ : ∀ d, d < row.length → match row.getD d none with
    | none => x.2.getD d none = none
    | some t => ∃ v o, x.2.getD d none = some v ∧ x.1.1[v]? = some o ∧ L.getD o 0 = L.getD t 0
  new : ∀ j, s.1.length ≤ j → j < x.1.1.length → ∃ d, d < row.length ∧ row.getD d none = some (x.1.1.getD j 0)
theorem getD_lt {α : Type} {l : List α} {i : Nat} {z : α} (h : i < l.length) : l[i]? = some (l.getD i z) := by
  rw [List.getD_eq_getElem?_getD, List.getElem?_eq_getElem h]; rfl
theorem getD_pre {α : Type} {a b : List α} {i : Nat} {z : α} (p : a <+: b) (h : i < a.length) : b.getD i z = a.getD i z := by
  obtain ⟨t, rfl⟩ := p
  rw [List.getD_eq_getElem?_getD, List.getD_eq_getElem?_getD, List.getElem?_append_left h]
theorem getD_snoc {α : Type} {a : List α} {x z : α} : (a ++ [x]).getD a.length z = x := by
  rw [List.getD_eq_getElem?_getD, List.getElem?_append_right (Nat.le_refl _), Nat.sub_self]; rfl
theorem getD_snoc_lt {α : Type} {a : List α} {x z : α} {i : Nat} (h : i < a.length) : (a ++ [x]).getD i z = a.getD i z := getD_pre (List.prefix_append _ _) h
/-- where a label stands -/
theorem BI.spot {L order : List Nat} {ps : List (Nat × Nat)} (a : BI L order ps) {k v : Nat} (h : look ps k = some v) : ∃ o, order[v]? = some o ∧ L.getD o 0 = k := by
  have hm := look_mem h
  obtain ⟨i, hi, e⟩ := List.mem_iff_getElem.mp hm
  have h1 : ps[i]? = some (k, v) := by rw [List.getElem?_eq_getElem hi, e]
  have hv : (ps.map (·.2))[i]? = some v := by rw [List.getElem?_map, h1]; rfl
  have hk : (ps.map (·.1))[i]? = some k := by rw [List.getElem?_map, h1]; rfl
  rw [a.vals] at hv
  have hi2 : i < order.length := by
    have := (List.getElem?_eq_some_iff.mp hv).1
    simpa using this
  rw [List.getElem?_range hi2] at hv
  cases hv
  rw [a.keys, List.getElem?_map, List.getElem?_eq_getElem hi2] at hk
  exact ⟨order[v], List.getElem?_eq_getElem hi2, Option.some.inj hk⟩
theorem ro_start {L : List Nat} {s : List Nat × List (Nat × Nat)} (b : BI L s.1 s.2) : RO L s [] (s, []) :=
  ⟨b, List.prefix_refl _, rfl, (fun d hd => absurd hd (Nat.not_lt_zero d)), fun j h1 h2 => absurd h2 (Nat.not_lt.mpr h1)⟩
theorem ro_add {L : List Nat} {s : List Nat × List (Nat × Nat)} {row : Stp} {x : St1} (a : RO L s row x) {o : Option Nat} (ho : ∀ t, o = some t → t < L.length) : RO L s (row ++ [o]) (st1 L x o) := by
  have hl := a.len
  have bi := a.bi
  have key : ∀ (x' : St1), BI L x'.1.1 x'.1.2 → x.1.1 <+: x'.1.1 → (∃ y, x'.2 = x.2 ++ [y] ∧ match o with
      | none => y = none
      | some t => ∃ v o', y = some v ∧ x'.1.1[v]? = some o' ∧ L.getD o' 0 = L.getD t 0) → (∀ j, x.1.1.length ≤ j → j < x'.1.1.length → o = some (x'.1.1.getD j 0)) → RO L s (row ++ [o]) x' := fun x' bi' p ⟨y, hy, hm⟩ hn => by
    refine ⟨bi', a.pre.trans p, by rw [hy]; simp [hl], fun d hd => ?_, fun j h1 h2 => ?_⟩
    · rw [List.length_append, List.length_singleton] at hd
      rcases Nat.lt_or_eq_of_le (Nat.le_of_lt_succ hd) with z | z
      · have := a.at_ d z
        rw [getD_snoc_lt z, hy, getD_snoc_lt (by omega)]
        cases e : row.getD d none with
        | none => rw [e] at this; exact this
        | some t =>
          rw [e] at this
          obtain ⟨v, o', h1, h2, h3⟩ := this
          refine ⟨v, o', h1, ?_, h3⟩
          obtain ⟨t2, ht2⟩ := p
          rw [← ht2, List.getElem?_append_left (List.getElem?_eq_some_iff.mp h2).1]
          exact h2
      · subst z
        rw [getD_snoc, hy, ← hl, getD_snoc]
        cases o with
        | none => exact hm
        | some t => exact hm
    · rcases Nat.lt_or_ge j x.1.1.length with z | z
      · obtain ⟨d, h3, h4⟩ := a.new j h1 z
        exact ⟨d, by rw [List.length_append]; omega, by rw [getD_snoc_lt h3, h4, getD_pre p z]⟩
      · exact ⟨row.length, by rw [List.length_append, List.length_singleton]; omega, by rw [getD_snoc]; exact hn j z h2⟩
  cases o with
  | none => exact key _ bi (List.prefix_refl _) ⟨none, rfl, rfl⟩ fun j h1 h2 => absurd h2 (Nat.not_lt.mpr h1)
  | some t =>
    cases e : look x.1.2 (L.getD t 0) with
    | some v =>
      have hst : st1 L x (some t) = (x.1, x.2 ++ [some v]) := by unfold st1; dsimp only; rw [e]
      rw [hst]
      obtain ⟨o', h1, h2⟩ := bi.spot e
      exact key _ bi (List.prefix_refl _) ⟨some v, rfl, v, o', rfl, h1, h2⟩ fun j h1 h2 => absurd h2 (Nat.not_lt.mpr h1)
    | none =>
      have hst : st1 L x (some t) = ((x.1.1 ++ [t], put x.1.2 (L.getD t 0) x.1.1.length), x.2 ++ [some x.1.1.length]) := by unfold st1; dsimp only; rw [e]
      rw [hst]
      refine key _ (bi.put_ (ho t rfl) e) (List.prefix_append _ _) ⟨some x.1.1.length, rfl, _, t, rfl, by dsimp only; rw [List.getElem?_append_right (Nat.le_refl _), Nat.sub_self]; rfl, rfl⟩ fun j h1 h2 => ?_
      dsimp only at h2 ⊢
      rw [List.length_append, List.length_singleton] at h2
      have : j = x.1.1.length := by omega
      rw [this, getD_snoc]
theorem ro_all {L : List Nat} {s : List Nat × List (Nat × Nat)} : ∀ {rest dn : Stp} {x : St1}, RO L s dn x → (∀ o ∈ rest, ∀ t, o = some t → t < L.length) → RO L s (dn ++ rest) (rest.foldl (st1 L) x)
  | [], dn, x, a, _ => by rw [List.append_nil]; exact a
  | o :: rest, dn, x, a, h => by
    have := ro_all (rest := rest) (ro_add a (h o List.mem_cons_self)) fun o ho => h o (List.mem_cons_of_mem _ ho)
    rw [List.append_assoc] at this
    exact this
theorem row_ro {L : List Nat} {s : List Nat × List (Nat × Nat)} (b : BI L s.1 s.2) {row : Stp} (h : ∀ t, some t ∈ row → t < L.length) : RO L s row (rowO L s row) :=
  ro_all (dn := []) (ro_start b) fun o ho t e => h t (by rw [← e]; exact ho)
/-- what stands of a machine so far -/
structure MI (Z : List Stp) (L : List Nat) (s : List Nat × List (Nat × Nat)) (found : List Stp) : Prop where
  bi : BI L s.1 s.2
  zero : s.1[0]? = some 0
  le : found.length ≤ s.1.length
  row : ∀ i o, i < found.length → s.1[i]? = some o → (found.getD i []).length = (Z.getD o []).length ∧ ∀ d, d < (Z.getD o []).length → match (Z.getD o []).getD d none with
    | none => (found.getD i []).getD d none = none
    | some t => ∃ v o', (found.getD i []).getD d none = some v ∧ s.1[v]? = some o' ∧ L.getD o' 0 = L.getD t 0
  from_ : ∀ j, 0 < j → j < s.1.length → ∃ i o d, i < j ∧ i < found.length ∧ s.1[i]? = some o ∧ d < (Z.getD o []).length ∧ (Z.getD o []).getD d none = some (s.1.getD j 0)
theorem mi_step {Z : List Stp} {L : List Nat} {s : List Nat × List (Nat × Nat)} {found : List Stp} (a : MI Z L s found) (hl : found.length < s.1.length) (hZ : ∀ r ∈ Z, ∀ t, some t ∈ r → t < L.length) :
    MI Z L (rowO L s (Z.getD (s.1.getD found.length 0) [])).1 (found ++ [(rowO L s (Z.getD (s.1.getD found.length 0) [])).2]) := by
  have hrow : ∀ t, some t ∈ Z.getD (s.1.getD found.length 0) [] → t < L.length := fun t ht => by
    rcases Nat.lt_or_ge (s.1.getD found.length 0) Z.length with z | z
    · refine hZ _ ?_ t ht
      rw [List.getD_eq_getElem?_getD, List.getElem?_eq_getElem z]
      exact List.getElem_mem _
    · have : Z.getD (s.1.getD found.length 0) [] = [] := by rw [List.getD_eq_getElem?_getD, List.getElem?_eq_none z]; rfl
      rw [this] at ht
      cases ht
  have R := row_ro a.bi hrow
  generalize rowO L s (Z.getD (s.1.getD found.length 0) []) = x at R
  have hpl := R.pre.length_le
  have pk : ∀ {v o : Nat}, s.1[v]? = some o → x.1.1[v]? = some o := fun {v o} h => by
    obtain ⟨t, ht⟩ := R.pre
    rw [← ht, List.getElem?_append_left (List.getElem?_eq_some_iff.mp h).1]
    exact h
  have pb : ∀ {v o : Nat}, v < s.1.length → x.1.1[v]? = some o → s.1[v]? = some o := fun {v o} hv h => by
    obtain ⟨t, ht⟩ := R.pre
    rw [← ht, List.getElem?_append_left hv] at h
    exact h
  refine ⟨R.bi, pk a.zero, by rw [List.length_append, List.length_singleton]; omega, fun i o hi ho => ?_, fun j hj0 hj => ?_⟩
  · rw [List.length_append, List.length_singleton] at hi
    have ho := pb (by omega) ho
    rcases Nat.lt_or_eq_of_le (Nat.le_of_lt_succ hi) with z | z
    · obtain ⟨h1, h2⟩ := a.row i o z ho
      rw [getD_snoc_lt z]
      refine ⟨h1, fun d hd => ?_⟩
      have := h2 d hd
      cases e : (Z.getD o []).getD d none with
      | none => rw [e] at this; exact this
      | some t =>
        rw [e] at this
        obtain ⟨v, o', h3, h4, h5⟩ := this
        exact ⟨v, o', h3, pk h4, h5⟩
    · subst z
      have e : s.1.getD found.length 0 = o := by rw [List.getD_eq_getElem?_getD, ho]; rfl
      rw [getD_snoc]
      rw [e] at R
      exact ⟨R.len, R.at_⟩
  · rcases Nat.lt_or_ge j s.1.length with z | z
    · obtain ⟨i, o, d, h1, h2, h3, h4, h5⟩ := a.from_ j hj0 z
      exact ⟨i, o, d, h1, by rw [List.length_append]; omega, pk h3, h4, by rw [h5, getD_pre R.pre z]⟩
    · obtain ⟨d, h1, h2⟩ := R.new j z hj
      exact ⟨found.length, _, d, by omega, by rw [List.length_append, List.length_singleton]; omega, pk (getD_lt hl), h1, h2⟩
theorem mi_run {Z : List Stp} {L : List Nat} (hZ : ∀ r ∈ Z, ∀ t, some t ∈ r → t < L.length) {s : List Nat × List (Nat × Nat)} {found : List Stp} {out : List Nat × List Stp} (r : MRun Z L s found out) : MI Z L s found → ∃ ps, MI Z L (out.1, ps) out.2 ∧ out.2.length = out.1.length := by
  induction r with
  | done h => exact fun a => ⟨_, a, Nat.le_antisymm a.le h⟩
  | step h r ih => exact fun a => ih (mi_step a h hZ)
theorem MRun.det {Z : List Stp} {L : List Nat} {s : List Nat × List (Nat × Nat)} {found : List Stp} {o1 : List Nat × List Stp} (a : MRun Z L s found o1) : ∀ {o2 : List Nat × List Stp}, MRun Z L s found o2 → o1 = o2 := by
  induction a with
  | done h =>
    intro o2 b
    cases b with
    | done h2 => rfl
    | step h2 _ => exact absurd h2 (Nat.not_lt.mpr h)
  | step h r ih =>
    intro o2 b
    cases b with
    | done h2 => exact absurd h (Nat.not_lt.mpr h2)
    | step h2 r2 => exact ih r2
end M11

end
section
set_option Elab.async false
set_option linter.all false
set_option autoImplicit false
/-! the machine is the least -/
namespace M11
open M
def KE (Z : List Stp) (K0 : List Kt) (j b c : Nat) : Prop := (KRd Z K0 j).getD b (.inr 0) = (KRd Z K0 j).getD c (.inr 0)
theorem getD_map {α β : Type} {f : α → β} {l : List α} {i : Nat} {z : α} {y : β} (h : i < l.length) : (l.map f).getD i y = f (l.getD i z) := by
  rw [List.getD_eq_getElem?_getD, List.getElem?_map, List.getD_eq_getElem?_getD, List.getElem?_eq_getElem h]; rfl
theorem KE.succ {Z : List Stp} {K0 : List Kt} {j b c : Nat} (hb : b < Z.length) (hc : c < Z.length) : KE Z K0 (j + 1) b c ↔ keyF Z (KRd Z K0 j) b = keyF Z (KRd Z K0 j) c := by
  rw [← rnd_iff hb hc]
  unfold KE
  show ((rndF Z (KRd Z K0 j)).map Sum.inr).getD b (.inr 0) = ((rndF Z (KRd Z K0 j)).map Sum.inr).getD c (.inr 0) ↔ _
  rw [getD_map (z := 0) (by rw [rnd_len]; exact hb), getD_map (z := 0) (by rw [rnd_len]; exact hc)]
  exact ⟨fun h => Sum.inr.inj h, fun h => congrArg _ h⟩
theorem KE.mono {Z : List Stp} {K0 : List Kt} {b c : Nat} (hb : b < Z.length) (hc : c < Z.length) {i : Nat} : ∀ {j : Nat}, i ≤ j → KE Z K0 j b c → KE Z K0 i b c
  | 0, h, a => by
    have : i = 0 := by omega
    subst this
    exact a
  | j + 1, h, a => by
    rcases Nat.lt_or_eq_of_le h with z | z
    · exact KE.mono hb hc (by omega) (Prod.mk.inj ((KE.succ hb hc).mp a)).1
    · subst z; exact a
theorem KE.next {Z : List Stp} {K0 : List Kt} {j b c : Nat} (hb : b < Z.length) (hc : c < Z.length) (a : KE Z K0 (j + 1) b c) (d : Nat) : sucF (KRd Z K0 j) ((Z.getD b []).getD d none) = sucF (KRd Z K0 j) ((Z.getD c []).getD d none) := by
  have h := (Prod.mk.inj ((KE.succ hb hc).mp a)).2
  generalize Z.getD b [] = r1 at h ⊢
  generalize Z.getD c [] = r2 at h ⊢
  have h1 : (r1.map (sucF (KRd Z K0 j)))[d]? = (r2.map (sucF (KRd Z K0 j)))[d]? := by rw [h]
  rw [List.getElem?_map, List.getElem?_map] at h1
  rw [List.getD_eq_getElem?_getD, List.getD_eq_getElem?_getD]
  cases e1 : r1[d]? with
  | none =>
    rw [e1] at h1
    cases e2 : r2[d]? with
    | none => rfl
    | some y => rw [e2] at h1; cases h1
  | some x =>
    rw [e1] at h1
    cases e2 : r2[d]? with
    | none => rw [e2] at h1; cases h1
    | some y => rw [e2] at h1; exact Option.some.inj h1
/-- what is known of the machine, all together -/
structure MK (Z : List Stp) (es : List Bool) (A : List (List Int)) (m : Nat) (order : List Nat) (M : Mac) : Prop where
  zr : ∀ r ∈ Z, r.length = m ∧ ∀ t, some t ∈ r → t < Z.length
  el : es.length = Z.length
  al : A.length = Z.length
  nd : (order.map fun o => (LabF Z es A).getD o 0).Nodup
  lt : ∀ o ∈ order, o < Z.length
  zero : order[0]? = some 0
  len : M.found.length = order.length
  row : ∀ i o, order[i]? = some o → (M.found.getD i []).length = m ∧ ∀ d, d < m → match (Z.getD o []).getD d none with
    | none => (M.found.getD i []).getD d none = none
    | some t => ∃ v o', (M.found.getD i []).getD d none = some v ∧ order[v]? = some o' ∧ (LabF Z es A).getD o' 0 = (LabF Z es A).getD t 0
  from_ : ∀ j, 0 < j → j < order.length → ∃ i o d, i < j ∧ order[i]? = some o ∧ d < m ∧ (Z.getD o []).getD d none = some (order.getD j 0)
  ends : M.ends = order.map fun o => es.getD o false
  ans : M.ans = order.map (tlF es A)
theorem zsucc {Z : List Stp} {m : Nat} (zr : ∀ r ∈ Z, r.length = m ∧ ∀ t, some t ∈ r → t < Z.length) {b d t : Nat} (e : (Z.getD b []).getD d none = some t) : t < Z.length := by
  rcases Nat.lt_or_ge b Z.length with z | z
  · have hm : Z.getD b [] ∈ Z := by
      rw [List.getD_eq_getElem?_getD, List.getElem?_eq_getElem z]
      exact List.getElem_mem _
    refine (zr _ hm).2 t ?_
    rcases Nat.lt_or_ge d (Z.getD b []).length with y | y
    · rw [← e]
      generalize Z.getD b [] = r at y ⊢
      rw [List.getD_eq_getElem?_getD, List.getElem?_eq_getElem y]
      exact List.getElem_mem _
    · generalize Z.getD b [] = r at y e
      rw [List.getD_eq_getElem?_getD, List.getElem?_eq_none y] at e
      cases e
  · have : Z.getD b [] = [] := by rw [List.getD_eq_getElem?_getD, List.getElem?_eq_none z]; rfl
    rw [this] at e
    cases e
theorem mk_of {Z : List Stp} {es : List Bool} {A : List (List Int)} {m : Nat} {order : List Nat} {M : Mac} (zr : ∀ r ∈ Z, r.length = m ∧ ∀ t, some t ∈ r → t < Z.length) (n1 : 1 ≤ Z.length) (el : es.length = Z.length) (al : A.length = Z.length) (r : MR Z es A m order M) : MK Z es A m order M := by
  have hL : (LabF Z es A).length = Z.length := by unfold LabF; rw [rnd_len]
  have b0 : BI (LabF Z es A) [0] [((LabF Z es A).getD 0 0, 0)] := BI.start (by omega)
  have m0 : MI Z (LabF Z es A) ([0], [((LabF Z es A).getD 0 0, 0)]) [] := ⟨b0, rfl, Nat.zero_le _, (fun i o hi => absurd hi (Nat.not_lt_zero i)), fun j h1 h2 => absurd h2 (by simp; omega)⟩
  obtain ⟨ps, a, hl⟩ := mi_run (fun s hs t ht => by rw [hL]; exact (zr s hs).2 t ht) r.run m0
  have hlt : ∀ o ∈ order, o < Z.length := fun o ho => by rw [← hL]; exact a.bi.lt o ho
  have hrow : ∀ o, o < Z.length → (Z.getD o []).length = m := fun o ho => by
    refine (zr _ ?_).1
    rw [List.getD_eq_getElem?_getD, List.getElem?_eq_getElem ho]
    exact List.getElem_mem _
  refine ⟨zr, el, al, a.bi.nd, hlt, a.zero, hl, fun i o ho => ?_, fun j h1 h2 => ?_, r.ends, r.ans⟩
  · have hi := (List.getElem?_eq_some_iff.mp ho).1
    obtain ⟨h3, h4⟩ := a.row i o (by dsimp only at hl ⊢; omega) ho
    have hm := hrow o (hlt o (List.mem_of_getElem? ho))
    rw [hm] at h3 h4
    exact ⟨h3, h4⟩
  · obtain ⟨i, o, d, h3, _, h5, h6, h7⟩ := a.from_ j h1 h2
    exact ⟨i, o, d, h3, h5, by rw [← hrow o (hlt o (List.mem_of_getElem? h5))]; exact h6, h7⟩
/-- what is told of a board, or of none -/
def tellF (M : Mac) (o : Option Nat) : Option (List Int) := o.bind fun b => M.ans.getD b none
def okW (m : Nat) (w : List Nat) : Prop := ∀ d ∈ w, d < m
section
variable {Z : List Stp} {es : List Bool} {A : List (List Int)} {m : Nat} {order : List Nat} {M : Mac}
theorem MK.tell (k : MK Z es A m order M) {i o : Nat} (h : order[i]? = some o) : tellF M (some i) = tlF es A o := by
  have hi := (List.getElem?_eq_some_iff.mp h).1
  show M.ans.getD i none = _
  rw [k.ans, getD_map (z := 0) hi, List.getD_eq_getElem?_getD, h]; rfl
theorem MK.lo (k : MK Z es A m order M) {i o : Nat} (h : order[i]? = some o) : o < Z.length := k.lt o (List.mem_of_getElem? h)
theorem MK.at_ (k : MK Z es A m order M) {i : Nat} (h : i < order.length) : ∃ o, order[i]? = some o := ⟨_, List.getElem?_eq_getElem h⟩
theorem MK.inj (k : MK Z es A m order M) {i j o o' : Nat} (h1 : order[i]? = some o) (h2 : order[j]? = some o') (e : (LabF Z es A).getD o 0 = (LabF Z es A).getD o' 0) : i = j := by
  have hi := (List.getElem?_eq_some_iff.mp h1).1
  have hj := (List.getElem?_eq_some_iff.mp h2).1
  have e1 : (order.map fun o => (LabF Z es A).getD o 0)[i]? = some ((LabF Z es A).getD o 0) := by rw [List.getElem?_map, h1]; rfl
  have e2 : (order.map fun o => (LabF Z es A).getD o 0)[j]? = some ((LabF Z es A).getD o 0) := by rw [List.getElem?_map, h2, e]; rfl
  exact (List.getElem?_inj (by simpa using hi) k.nd).mp (e1.trans e2.symm)
theorem MK.k0 (k : MK Z es A m order M) {b c : Nat} (hb : b < Z.length) (hc : c < Z.length) : KE Z (K0F es A) 0 b c ↔ tlF es A b = tlF es A c := by
  have el := k.el
  have al := k.al
  have e : ∀ b, b < Z.length → (K0F es A).getD b (.inr 0) = .inl (es.getD b false, tlF es A b) := fun b hb => by
    unfold K0F tlF
    rw [getD_map (z := (false, [])) (by rw [List.length_zip]; omega)]
    have h1 : (es.zip A).getD b (false, []) = (es.getD b false, A.getD b []) := by
      rw [List.getD_eq_getElem?_getD, List.getElem?_eq_getElem (by rw [List.length_zip]; omega), List.getElem_zip]
      rw [List.getD_eq_getElem?_getD, List.getElem?_eq_getElem (show b < es.length by omega), List.getD_eq_getElem?_getD, List.getElem?_eq_getElem (show b < A.length by omega)]; rfl
    rw [h1]
  unfold KE
  show (K0F es A).getD b (.inr 0) = (K0F es A).getD c (.inr 0) ↔ _
  rw [e b hb, e c hc]
  constructor
  · intro h
    exact (Prod.mk.inj (Sum.inl.inj h)).2
  · intro h
    have : es.getD b false = es.getD c false := by
      unfold tlF at h
      cases e1 : es.getD b false <;> cases e2 : es.getD c false <;> rw [e1, e2] at h <;> first | rfl | (simp at h)
    rw [this, h]
theorem LE_KE {K0 : List Kt} {b c : Nat} (hb : b < Z.length) (hc : c < Z.length) (h : (rndF Z (KRd Z K0 Z.length)).getD b 0 = (rndF Z (KRd Z K0 Z.length)).getD c 0) : KE Z K0 (Z.length + 1) b c := (KE.succ hb hc).mpr ((rnd_iff hb hc).mp h)
theorem KE_LE {K0 : List Kt} {b c : Nat} (hb : b < Z.length) (hc : c < Z.length) (h : KE Z K0 (Z.length + 1) b c) : (rndF Z (KRd Z K0 Z.length)).getD b 0 = (rndF Z (KRd Z K0 Z.length)).getD c 0 := (rnd_iff hb hc).mpr ((KE.succ hb hc).mp h)
/-- one step of the machine and one of the boards -/
theorem MK.step (k : MK Z es A m order M) {i o d t : Nat} (h : order[i]? = some o) (hd : d < m) (e : (Z.getD o []).getD d none = some t) : ∃ v o', (M.found.getD i []).getD d none = some v ∧ order[v]? = some o' ∧ o' < Z.length ∧ t < Z.length ∧ KE Z (K0F es A) (Z.length + 1) o' t := by
  have h1 := (k.row i o h).2 d hd
  rw [e] at h1
  obtain ⟨v, o', h2, h3, h4⟩ := h1
  have ht : t < Z.length := zsucc k.zr e
  exact ⟨v, o', h2, h3, k.lo h3, ht, LE_KE (k.lo h3) ht h4⟩
theorem MK.step0 (k : MK Z es A m order M) {i o d : Nat} (h : order[i]? = some o) (hd : d < m) (e : (Z.getD o []).getD d none = none) : (M.found.getD i []).getD d none = none := by
  have h1 := (k.row i o h).2 d hd
  rw [e] at h1
  exact h1
theorem MK.good (k : MK Z es A m order M) : ∀ (w : List Nat) (i o b c j : Nat), order[i]? = some o → b < Z.length → w.length ≤ j → j ≤ Z.length + 1 → KE Z (K0F es A) j o b → okW m w → runF Z (some b) w = some c → es.getD c false = true → tellF M (runF M.found (some i) w) ≠ none
  | [], i, o, b, c, j, hi, hb, hw, hj, ke, ok, hr, he => by
    have : b = c := Option.some.inj hr
    subst this
    show tellF M (some i) ≠ none
    rw [k.tell hi, (k.k0 (k.lo hi) hb).mp (ke.mono (k.lo hi) hb (Nat.zero_le _))]
    unfold tlF
    rw [if_pos he]
    simp
  | d :: w, i, o, b, c, j, hi, hb, hw, hj, ke, ok, hr, he => by
    rw [List.length_cons] at hw
    obtain ⟨j, rfl⟩ : ∃ j', j = j' + 1 := ⟨j - 1, by omega⟩
    have hd : d < m := ok d List.mem_cons_self
    have hr : runF Z ((Z.getD b []).getD d none) w = some c := hr
    have hn := ke.next (k.lo hi) hb d
    cases e1 : (Z.getD b []).getD d none with
    | none => rw [e1, runF_none] at hr; cases hr
    | some t =>
      rw [e1] at hr hn
      cases e2 : (Z.getD o []).getD d none with
      | none => rw [e2] at hn; cases hn
      | some t2 =>
        rw [e2] at hn
        have hn : KE Z (K0F es A) j t2 t := Option.some.inj hn
        obtain ⟨v, o', h1, h2, h3, h4, h5⟩ := k.step hi hd e2
        have ht : t < Z.length := zsucc k.zr e1
        show tellF M (runF M.found ((M.found.getD i []).getD d none) w) ≠ none
        rw [h1]
        exact k.good w v o' t c j h2 ht (by omega) (by omega) ((h5.mono h3 h4 (by omega)).trans hn) (fun y hy => ok y (List.mem_cons_of_mem _ hy)) hr he
/-- boards of which the same is told are one -/
theorem MK.alike (k : MK Z es A m order M) (gd : ∀ i, i < order.length → ∃ w, okW m w ∧ tellF M (runF M.found (some i) w) ≠ none) : ∀ (r i j o o' : Nat), r ≤ Z.length + 1 → order[i]? = some o → order[j]? = some o' → (∀ w, okW m w → tellF M (runF M.found (some i) w) = tellF M (runF M.found (some j) w)) → KE Z (K0F es A) r o o'
  | 0, i, j, o, o', hr, hi, hj, h => by
    rw [k.k0 (k.lo hi) (k.lo hj), ← k.tell hi, ← k.tell hj]
    exact h [] (fun d hd => nomatch hd)
  | r + 1, i, j, o, o', hr, hi, hj, h => by
    have ih := k.alike gd r
    have hm : ∀ {b : Nat}, b < Z.length → (Z.getD b []).length = m := fun {b} hb => by
      refine (k.zr _ ?_).1
      rw [List.getD_eq_getElem?_getD, List.getElem?_eq_getElem hb]
      exact List.getElem_mem _
    rw [KE.succ (k.lo hi) (k.lo hj)]
    have h0 : KE Z (K0F es A) r o o' := ih i j o o' (by omega) hi hj h
    refine Prod.ext h0 ?_
    refine List.ext_getElem (by unfold keyF; dsimp only; rw [List.length_map, List.length_map, hm (k.lo hi), hm (k.lo hj)]) fun d h1 h2 => ?_
    have hd : d < m := by
      unfold keyF at h1
      dsimp only at h1
      rw [List.length_map, hm (k.lo hi)] at h1
      exact h1
    have hd1 : d < (Z.getD o []).length := by rw [hm (k.lo hi)]; exact hd
    have hd2 : d < (Z.getD o' []).length := by rw [hm (k.lo hj)]; exact hd
    simp only [keyF, List.getElem_map]
    have g1 : (Z.getD o []).getD d none = (Z.getD o [])[d] := by
      generalize Z.getD o [] = r at hd1 ⊢
      rw [List.getD_eq_getElem?_getD, List.getElem?_eq_getElem hd1]; rfl
    have g2 : (Z.getD o' []).getD d none = (Z.getD o' [])[d] := by
      generalize Z.getD o' [] = r at hd2 ⊢
      rw [List.getD_eq_getElem?_getD, List.getElem?_eq_getElem hd2]; rfl
    rw [← g1, ← g2]
    have h' : ∀ w, okW m w → tellF M (runF M.found ((M.found.getD i []).getD d none) w) = tellF M (runF M.found ((M.found.getD j []).getD d none) w) := fun w hw => h (d :: w) fun y hy => by
      rcases List.mem_cons.mp hy with rfl | hy
      · exact hd
      · exact hw y hy
    cases e1 : (Z.getD o []).getD d none with
    | none =>
      rw [k.step0 hi hd e1] at h'
      cases e2 : (Z.getD o' []).getD d none with
      | none => rfl
      | some t =>
        obtain ⟨v, o2, h3, h4, _, _, _⟩ := k.step hj hd e2
        obtain ⟨w, hw, hne⟩ := gd v (List.getElem?_eq_some_iff.mp h4).1
        have := h' w hw
        rw [h3, runF_none] at this
        exact absurd this.symm hne
    | some t1 =>
      obtain ⟨v, o2, h3, h4, h5, h6, h7⟩ := k.step hi hd e1
      cases e2 : (Z.getD o' []).getD d none with
      | none =>
        rw [k.step0 hj hd e2, h3] at h'
        obtain ⟨w, hw, hne⟩ := gd v (List.getElem?_eq_some_iff.mp h4).1
        have := h' w hw
        rw [runF_none] at this
        exact absurd this hne
      | some t2 =>
        obtain ⟨v', o2', h3', h4', h5', h6', h7'⟩ := k.step hj hd e2
        rw [h3, h3'] at h'
        have h8 := ih v v' o2 o2' (by omega) h4 h4' h'
        exact congrArg some (((h7.mono h5 h6 (by omega)).symm.trans h8).trans (h7'.mono h5' h6' (by omega)))
theorem MK.sep (k : MK Z es A m order M) (gd : ∀ i, i < order.length → ∃ w, okW m w ∧ tellF M (runF M.found (some i) w) ≠ none) {i j : Nat} (hi : i < order.length) (hj : j < order.length) (h : ∀ w, okW m w → tellF M (runF M.found (some i) w) = tellF M (runF M.found (some j) w)) : i = j := by
  obtain ⟨o, ho⟩ := k.at_ hi
  obtain ⟨o', ho'⟩ := k.at_ hj
  exact k.inj ho ho' (KE_LE (k.lo ho) (k.lo ho') (k.alike gd _ i j o o' (Nat.le_refl _) ho ho' h))
theorem MK.reach (k : MK Z es A m order M) : ∀ (n j : Nat), j ≤ n → j < order.length → ∃ w, okW m w ∧ runF M.found (some 0) w = some j
  | n, 0, _, _ => ⟨[], (fun d hd => nomatch hd), rfl⟩
  | 0, j + 1, h, _ => absurd h (by omega)
  | n + 1, j + 1, h, hj => by
    obtain ⟨i, o, d, h1, h2, h3, h4⟩ := k.from_ (j + 1) (by omega) hj
    obtain ⟨w, hw, hr⟩ := k.reach n i (by omega) (List.getElem?_eq_some_iff.mp h2).1
    have h5 := (k.row i o h2).2 d h3
    rw [h4] at h5
    obtain ⟨v, o', h6, h7, h8⟩ := h5
    have hv : v = j + 1 := k.inj h7 (getD_lt hj) h8
    refine ⟨w ++ [d], fun y hy => ?_, ?_⟩
    · rcases List.mem_append.mp hy with hy | hy
      · exact hw y hy
      · rw [List.mem_singleton.mp hy]; exact h3
    · rw [runF_app, hr]
      show (M.found.getD i []).getD d none = _
      rw [h6, hv]
end
end M11

end
section
set_option Elab.async false
set_option linter.all false
set_option autoImplicit false
/-! the least machine, as the law needs it; how long rows that part two boards are -/
namespace M11
open M
theorem mem_goodN {S : List Stp} {g : List Nat} {b : Nat} : b ∈ goodN S g ↔ b < S.length ∧ (b ∈ g ∨ ∃ t, some t ∈ S.getD b [] ∧ t ∈ g) := by
  unfold goodN
  rw [List.mem_filter, List.mem_range, Bool.or_eq_true, decide_eq_true_eq, List.any_eq_true]
  constructor
  · rintro ⟨h, h1 | ⟨o, ho, h2⟩⟩
    · exact ⟨h, .inl h1⟩
    · cases o with
      | none => simp [inO] at h2
      | some t => exact ⟨h, .inr ⟨t, ho, by simpa [inO] using h2⟩⟩
  · rintro ⟨h, h1 | ⟨t, ht, h2⟩⟩
    · exact ⟨h, .inl h1⟩
    · exact ⟨h, .inr ⟨some t, ht, by simpa [inO] using h2⟩⟩
theorem mem_good0 {n : Nat} {es : List Bool} {b : Nat} : b ∈ good0 n es ↔ b < n ∧ es.getD b false = true := by
  unfold good0
  rw [List.mem_filter, List.mem_range]
theorem goodI_lt {S : List Stp} {es : List Bool} : ∀ {k b : Nat}, b ∈ goodI S es k → b < S.length
  | 0, b, h => (mem_good0.mp h).1
  | k + 1, b, h => (mem_goodN.mp h).1
theorem goodI_mono {S : List Stp} {es : List Bool} {i b : Nat} (h : b ∈ goodI S es i) : ∀ {j : Nat}, i ≤ j → b ∈ goodI S es j
  | 0, z => by
    have : i = 0 := by omega
    subst this
    exact h
  | j + 1, z => by
    rcases Nat.lt_or_eq_of_le z with y | y
    · have := goodI_mono h (j := j) (by omega)
      exact mem_goodN.mpr ⟨goodI_lt this, .inl this⟩
    · rw [← y]; exact h
theorem cut_at {S : List Stp} {g : List Nat} {b d t : Nat} (hb : b < S.length) (h : (S.getD b []).getD d none = some t) (ht : t ∈ g) : ((S.map (cutF g)).getD b []).getD d none = some t := by
  rw [getD_map (z := []) hb]
  generalize S.getD b [] = r at h
  have hd : d < r.length := by
    rcases Nat.lt_or_ge d r.length with y | y
    · exact y
    · rw [List.getD_eq_getElem?_getD, List.getElem?_eq_none y] at h; cases h
  unfold cutF
  rw [getD_map (z := none) hd, h]
  have : inO g (some t) = true := by simpa [inO] using ht
  rw [if_pos this]
theorem cut_mem2 {S : List Stp} {g : List Nat} {b d t : Nat} (h : ((S.map (cutF g)).getD b []).getD d none = some t) : t ∈ g := by
  rcases Nat.lt_or_ge b S.length with z | z
  · rw [getD_map (z := []) z] at h
    generalize S.getD b [] = r at h
    unfold cutF at h
    rcases Nat.lt_or_ge d r.length with y | y
    · rw [getD_map (z := none) y] at h
      by_cases c : inO g (r.getD d none) = true
      · rw [if_pos c] at h
        rw [h] at c
        simpa [inO] using c
      · rw [if_neg c] at h; cases h
    · rw [List.getD_eq_getElem?_getD, List.getElem?_eq_none (by rw [List.length_map]; exact y)] at h; cases h
  · have : (S.map (cutF g)).getD b [] = [] := by rw [List.getD_eq_getElem?_getD, List.getElem?_eq_none (by rw [List.length_map]; exact z)]; rfl
    rw [this] at h
    cases h
theorem good_path {S : List Stp} {es : List Bool} {m N : Nat} (wf : ∀ s ∈ S, s.length = m) : ∀ {k b : Nat}, k ≤ N → b ∈ goodI S es k → ∃ w c, w.length ≤ k ∧ okW m w ∧ runF (S.map (cutF (goodI S es N))) (some b) w = some c ∧ es.getD c false = true
  | 0, b, hk, h => ⟨[], b, Nat.le_refl _, (fun d hd => nomatch hd), rfl, (mem_good0.mp h).2⟩
  | k + 1, b, hk, h => by
    obtain ⟨hb, h1 | ⟨t, ht, h2⟩⟩ := mem_goodN.mp h
    · obtain ⟨w, c, h3, h4⟩ := good_path (k := k) (N := N) wf (by omega) h1
      exact ⟨w, c, by omega, h4⟩
    · obtain ⟨w, c, h3, h4, h5, h6⟩ := good_path (k := k) (N := N) wf (by omega) h2
      obtain ⟨d, hd, e⟩ := List.mem_iff_getElem.mp ht
      have hm : S.getD b [] ∈ S := by
        rw [List.getD_eq_getElem?_getD, List.getElem?_eq_getElem hb]
        exact List.getElem_mem _
      have e2 : (S.getD b []).getD d none = some t := by
        generalize S.getD b [] = r at hd e
        rw [List.getD_eq_getElem?_getD, List.getElem?_eq_getElem hd, e]; rfl
      refine ⟨d :: w, c, by rw [List.length_cons]; omega, fun y hy => ?_, ?_, h6⟩
      · rcases List.mem_cons.mp hy with rfl | hy
        · rw [← wf _ hm]; exact hd
        · exact h4 y hy
      · show runF _ (((S.map (cutF (goodI S es N))).getD b []).getD d none) w = some c
        rw [cut_at hb e2 (goodI_mono h2 (by omega))]
        exact h5
/-- a least machine -/
structure Least (m : Nat) (M : Mac) : Prop where
  n1 : 1 ≤ M.found.length
  n2 : M.found.length ≤ 27
  row : ∀ s ∈ M.found, s.length = m ∧ ∀ t, some t ∈ s → t < M.found.length
  el : M.ends.length = M.found.length
  al : M.ans.length = M.found.length
  reach : ∀ j, j < M.found.length → ∃ w, okW m w ∧ runF M.found (some 0) w = some j
  sep : ∀ i j, i < M.found.length → j < M.found.length → (∀ w, okW m w → tellF M (runF M.found (some i) w) = tellF M (runF M.found (some j) w)) → i = j
  gd : ∀ i, i < M.found.length → ∃ w, okW m w ∧ tellF M (runF M.found (some i) w) ≠ none
theorem least_of {r : Rules} {rows : List Row} {steps : List Stp} {order : List Nat} {M : Mac} (a : MRl r rows steps order M) : Least r.deeds.length M := by
  have hlen := a.ok.len
  have wf : ∀ s ∈ steps, s.length = r.deeds.length := fun s hs => (a.ok.bs.wf s hs).1
  have zl : (steps.map (cutF (goodR r rows steps))).length = steps.length := List.length_map _
  have zr : ∀ s ∈ steps.map (cutF (goodR r rows steps)), s.length = r.deeds.length ∧ ∀ t, some t ∈ s → t < (steps.map (cutF (goodR r rows steps))).length := fun s hs => by
    obtain ⟨s0, hs0, rfl⟩ := List.mem_map.mp hs
    have h0 := a.ok.bs.wf s0 hs0
    refine ⟨by unfold cutF; rw [List.length_map]; exact h0.1, fun t ht => ?_⟩
    rw [zl, ← hlen]
    unfold cutF at ht
    obtain ⟨o, ho, e⟩ := List.mem_map.mp ht
    split at e
    · exact h0.2 t (by rw [← e]; exact ho)
    · cases e
  have k := mk_of zr (by rw [zl]; exact a.n1) (by unfold endsF; rw [List.length_map, zl]; exact hlen) (by rw [List.length_map, zl]; exact hlen) a.mr
  have go : ∀ i o, order[i]? = some o → o ∈ goodR r rows steps := fun i o h => by
    rcases Nat.eq_zero_or_pos i with z | z
    · subst z
      rw [k.zero] at h
      cases h
      exact a.good
    · obtain ⟨i', o', d, _, _, _, h4⟩ := k.from_ i z (List.getElem?_eq_some_iff.mp h).1
      have e : order.getD i 0 = o := by rw [List.getD_eq_getElem?_getD, h]; rfl
      rw [e] at h4
      exact cut_mem2 h4
  have gd : ∀ i, i < order.length → ∃ w, okW r.deeds.length w ∧ tellF M (runF M.found (some i) w) ≠ none := fun i hi => by
    obtain ⟨o, ho⟩ := k.at_ hi
    obtain ⟨w, c, h1, h2, h3, h4⟩ := good_path (N := steps.length) wf (Nat.le_refl _) (go i o ho)
    exact ⟨w, h2, k.good w i o o c w.length ho (k.lo ho) (Nat.le_refl _) (by rw [zl]; omega) rfl h2 h3 h4⟩
  have kl := k.len
  obtain ⟨ps, bo⟩ := a.mr.bo
  have hol := bo.bi.len (n := steps.length) fun x hx => by rw [← zl]; exact rnd_lt _ _ x hx
  refine ⟨by have := List.length_pos_of_mem bo.zero; omega, by have := a.n2; omega, fun s hs => by have := bo.row s hs; rw [kl]; exact this, by rw [k.ends, List.length_map, kl], by rw [k.ans, List.length_map, kl], fun j hj => k.reach j j (Nat.le_refl _) (by omega), fun i j hi hj => k.sep gd (by omega) (by omega), fun i hi => gd i (by omega)⟩
/-- the same machine, always -/
theorem MRl.det {r : Rules} {rows rows' : List Row} {steps steps' : List Stp} {order order' : List Nat} {M M' : Mac} (a : MRl r rows steps order M) (b : MRl r rows' steps' order' M') : M = M' := by
  have h := a.bds.det b.bds
  cases h
  have h2 := a.mr.run.det b.mr.run
  have e1 := a.mr.ends
  have e2 := b.mr.ends
  have e3 := a.mr.ans
  have e4 := b.mr.ans
  cases M
  cases M'
  cases h2
  dsimp only at e1 e2 e3 e4
  rw [e1, e2, e3, e4]
end M11

end
section
set_option Elab.async false
set_option linter.all false
set_option autoImplicit false
/-! how long rows are that part two boards -/
namespace M11
open M
theorem least_nat {p : Nat → Prop} : ∀ (n : Nat), p n → ∃ k, k ≤ n ∧ p k ∧ ∀ j, j < k → ¬ p j := by
  intro n
  induction n using Nat.strongRecOn with
  | ind n ih =>
    intro h
    by_cases c : ∃ j, j < n ∧ p j
    · obtain ⟨j, h1, h2⟩ := c
      obtain ⟨k, h3, h4⟩ := ih j h1 h2
      exact ⟨k, by omega, h4⟩
    · exact ⟨n, Nat.le_refl _, h, fun j hj hp => c ⟨j, hj, hp⟩⟩
theorem filt_le {p q : Nat → Bool} : ∀ {l : List Nat}, (∀ x ∈ l, p x = true → q x = true) → (l.filter p).length ≤ (l.filter q).length
  | [], _ => Nat.le_refl _
  | x :: l, h => by
    have ih := filt_le (l := l) fun y hy => h y (List.mem_cons_of_mem _ hy)
    have hx := h x List.mem_cons_self
    rw [List.filter_cons, List.filter_cons]
    cases hp : p x with
    | true => rw [hx hp, if_pos rfl, if_pos rfl, List.length_cons, List.length_cons]; omega
    | false =>
      rw [if_neg (by decide)]
      split
      · rw [List.length_cons]; omega
      · exact ih
theorem filt_lt {p q : Nat → Bool} : ∀ {l : List Nat}, (∀ x ∈ l, p x = true → q x = true) → (∃ x ∈ l, q x = true ∧ p x = false) → (l.filter p).length < (l.filter q).length
  | [], _, ⟨x, hx, _⟩ => nomatch hx
  | x :: l, h, ⟨y, hy, h1, h2⟩ => by
    have hl : ∀ x ∈ l, p x = true → q x = true := fun y hy => h y (List.mem_cons_of_mem _ hy)
    rw [List.filter_cons, List.filter_cons]
    rcases List.mem_cons.mp hy with rfl | hy
    · rw [h1, h2, if_pos rfl, if_neg (by decide), List.length_cons]
      have := filt_le hl
      omega
    · have ih := filt_lt hl ⟨y, hy, h1, h2⟩
      have hx := h x List.mem_cons_self
      cases hp : p x with
      | true => rw [hx hp, if_pos rfl, if_pos rfl, List.length_cons, List.length_cons]; omega
      | false =>
        rw [if_neg (by decide)]
        split
        · rw [List.length_cons]; omega
        · exact ih
/-- the same is told behind all rows that are no longer -/
def EqK (M : Mac) (m k : Nat) (a b : Option Nat) : Prop := ∀ w, okW m w → w.length ≤ k → tellF M (runF M.found a w) = tellF M (runF M.found b w)
def stO (M : Mac) (a : Option Nat) (d : Nat) : Option Nat := a.bind fun b => (M.found.getD b []).getD d none
theorem EqK.sym {M : Mac} {m k : Nat} {a b : Option Nat} (h : EqK M m k a b) : EqK M m k b a := fun w o l => (h w o l).symm
theorem EqK.trans {M : Mac} {m k : Nat} {a b c : Option Nat} (h : EqK M m k a b) (h2 : EqK M m k b c) : EqK M m k a c := fun w o l => (h w o l).trans (h2 w o l)
theorem EqK.mono {M : Mac} {m k k' : Nat} {a b : Option Nat} (h : EqK M m k a b) (l : k' ≤ k) : EqK M m k' a b := fun w o l' => h w o (Nat.le_trans l' l)
theorem EqK.next {M : Mac} {m k : Nat} {a b : Option Nat} (h : EqK M m (k + 1) a b) {d : Nat} (hd : d < m) : EqK M m k (stO M a d) (stO M b d) := fun w o l => h (d :: w) (fun y hy => by
  rcases List.mem_cons.mp hy with rfl | hy
  · exact hd
  · exact o y hy) (by rw [List.length_cons]; omega)
theorem EqK.of {M : Mac} {m k : Nat} {a b : Option Nat} (h0 : tellF M a = tellF M b) (h : ∀ d, d < m → EqK M m k (stO M a d) (stO M b d)) : EqK M m (k + 1) a b := fun w o l => by
  cases w with
  | nil => exact h0
  | cons d w =>
    rw [List.length_cons] at l
    exact h d (o d List.mem_cons_self) w (fun y hy => o y (List.mem_cons_of_mem _ hy)) (by omega)
/-- boards by number: none ahead -/
def nod : Nat → Option Nat
  | 0 => none
  | i + 1 => some i
def InS (n : Nat) (a : Option Nat) : Prop := ∀ b, a = some b → b < n
theorem InS.spot {n : Nat} {a : Option Nat} (h : InS n a) : ∃ i, i < n + 1 ∧ nod i = a := by
  cases a with
  | none => exact ⟨0, by omega, rfl⟩
  | some b => exact ⟨b + 1, by have := h b rfl; omega, rfl⟩
theorem InS.nod {n i : Nat} (h : i < n + 1) : InS n (nod i) := fun b e => by
  cases i with
  | zero => cases e
  | succ i => cases e; omega
theorem Least.st {m : Nat} {M : Mac} (L : Least m M) {a : Option Nat} (h : InS M.found.length a) (d : Nat) : InS M.found.length (stO M a d) := fun b e => by
  cases a with
  | none => cases e
  | some x =>
    have hx := h x rfl
    have hm : M.found.getD x [] ∈ M.found := by
      rw [List.getD_eq_getElem?_getD, List.getElem?_eq_getElem hx]
      exact List.getElem_mem _
    have e : (M.found.getD x []).getD d none = some b := e
    refine (L.row _ hm).2 b ?_
    generalize M.found.getD x [] = r at e
    rcases Nat.lt_or_ge d r.length with y | y
    · rw [← e, List.getD_eq_getElem?_getD, List.getElem?_eq_getElem y]
      exact List.getElem_mem _
    · rw [List.getD_eq_getElem?_getD, List.getElem?_eq_none y] at e; cases e
def Stab (M : Mac) (m k : Nat) : Prop := ∀ a b, InS M.found.length a → InS M.found.length b → EqK M m k a b → EqK M m (k + 1) a b
theorem stab_all {m : Nat} {M : Mac} (L : Least m M) {k : Nat} (s : Stab M m k) : ∀ (j : Nat) (a b : Option Nat), InS M.found.length a → InS M.found.length b → EqK M m k a b → EqK M m j a b
  | 0, a, b, _, _, h => h.mono (Nat.zero_le _)
  | j + 1, a, b, ha, hb, h => .of (h [] (fun d hd => nomatch hd) (Nat.zero_le _)) fun d hd => stab_all L s j _ _ (L.st ha d) (L.st hb d) ((s a b ha hb h).next hd)
open Classical in
noncomputable def repB (M : Mac) (m k i : Nat) : Bool := decide (∀ j, j < i → ¬ EqK M m k (nod j) (nod i))
open Classical in
theorem rep_iff {M : Mac} {m k i : Nat} : repB M m k i = true ↔ ∀ j, j < i → ¬ EqK M m k (nod j) (nod i) := by
  unfold repB
  rw [decide_eq_true_eq]
theorem rep_mono {M : Mac} {m k i : Nat} (h : repB M m k i = true) : repB M m (k + 1) i = true := by
  rw [rep_iff] at h ⊢
  exact fun j hj e => h j hj (e.mono (Nat.le_succ _))
theorem rep_new {M : Mac} {m k : Nat} (h : ¬ Stab M m k) : ∃ u ∈ List.range (M.found.length + 1), repB M m (k + 1) u = true ∧ repB M m k u = false := by
  unfold Stab at h
  have : ∃ a b, InS M.found.length a ∧ InS M.found.length b ∧ EqK M m k a b ∧ ¬ EqK M m (k + 1) a b := by
    refine Classical.byContradiction fun z => h fun a b ha hb e => Classical.byContradiction fun y => z ⟨a, b, ha, hb, e, y⟩
  obtain ⟨a, b, ha, hb, e, ne⟩ := this
  obtain ⟨ia, hia, rfl⟩ := ha.spot
  obtain ⟨r, hr, er, lr⟩ := least_nat (p := fun i => EqK M m k (nod i) (nod ia)) ia (fun w _ _ => rfl)
  have : ∃ ix, ix < M.found.length + 1 ∧ EqK M m k (nod r) (nod ix) ∧ ¬ EqK M m (k + 1) (nod r) (nod ix) := by
    by_cases c : EqK M m (k + 1) (nod r) (nod ia)
    · obtain ⟨ib, hib, rfl⟩ := hb.spot
      exact ⟨ib, hib, er.trans e, fun z => ne (c.sym.trans z)⟩
    · exact ⟨ia, hia, er, c⟩
  obtain ⟨ix, hix, e2, ne2⟩ := this
  obtain ⟨u, hu, eu, lu⟩ := least_nat (p := fun i => EqK M m (k + 1) (nod i) (nod ix)) ix (fun w _ _ => rfl)
  have hra : EqK M m k (nod u) (nod ia) := (eu.mono (Nat.le_succ _)).trans (e2.sym.trans er)
  have hru : r < u := by
    rcases Nat.lt_trichotomy r u with z | z | z
    · exact z
    · subst z; exact absurd eu ne2
    · exact absurd hra (lr u z)
  refine ⟨u, List.mem_range.mpr (by omega), ?_, ?_⟩
  · rw [rep_iff]
    exact fun j hj ej => lu j hj (EqK.trans ej eu)
  · cases c : repB M m k u with
    | false => rfl
    | true => exact absurd (er.trans hra.sym) (rep_iff.mp c r hru)
theorem stab_ex {M : Mac} {m : Nat} : ∃ k, k ≤ M.found.length ∧ Stab M m k := by
  refine Classical.byContradiction fun z => ?_
  have hn : ∀ k, k ≤ M.found.length → ¬ Stab M m k := fun k hk s => z ⟨k, hk, s⟩
  have hc : ∀ k, k ≤ M.found.length + 1 → k + 1 ≤ ((List.range (M.found.length + 1)).filter (repB M m k)).length := fun k => by
    induction k with
    | zero =>
      intro _
      have : 0 ∈ (List.range (M.found.length + 1)).filter (repB M m 0) := by
        rw [List.mem_filter, List.mem_range]
        refine ⟨by omega, ?_⟩
        rw [rep_iff]
        exact fun j hj => absurd hj (Nat.not_lt_zero j)
      have := List.length_pos_of_mem this
      omega
    | succ k ih =>
      intro hk
      have := ih (by omega)
      have h2 := filt_lt (l := List.range (M.found.length + 1)) (p := repB M m k) (q := repB M m (k + 1)) (fun x _ hx => rep_mono hx) (rep_new (hn k (by omega)))
      omega
  have h1 := hc (M.found.length + 1) (Nat.le_refl _)
  have h2 := List.length_filter_le (repB M m (M.found.length + 1)) (List.range (M.found.length + 1))
  rw [List.length_range] at h2
  omega
/-- two boards, or a board and none, are parted by a row no longer than there are boards -/
theorem Least.part {m : Nat} {M : Mac} (L : Least m M) {a b : Option Nat} (ha : InS M.found.length a) (hb : InS M.found.length b) (hne : a ≠ b) : ∃ w, okW m w ∧ w.length ≤ M.found.length ∧ tellF M (runF M.found a w) ≠ tellF M (runF M.found b w) := by
  refine Classical.byContradiction fun z => ?_
  have hE : EqK M m M.found.length a b := fun w o l => Classical.byContradiction fun y => z ⟨w, o, l, y⟩
  obtain ⟨k, hk, hs⟩ := stab_ex (M := M) (m := m)
  have all : ∀ w, okW m w → tellF M (runF M.found a w) = tellF M (runF M.found b w) := fun w o => stab_all L hs w.length a b ha hb (hE.mono hk) w o (Nat.le_refl _)
  cases a with
  | none =>
    cases b with
    | none => exact hne rfl
    | some y =>
      obtain ⟨w, o, h⟩ := L.gd y (hb y rfl)
      have := all w o
      rw [runF_none] at this
      exact h this.symm
  | some x =>
    cases b with
    | none =>
      obtain ⟨w, o, h⟩ := L.gd x (ha x rfl)
      have := all w o
      rw [runF_none] at this
      exact h this
    | some y => exact hne (congrArg some (L.sep x y (ha x rfl) (hb y rfl) all))
end M11

end
section
set_option Elab.async false
set_option linter.all false
set_option autoImplicit false
/-! rows in order; the search by length, then ascending -/
namespace M11
open M
/-- where a row stands among all -/
def code (m : Nat) (w : List Nat) : Nat := w.foldl (fun c d => c * m + d + 1) 0
theorem code_snoc {m d : Nat} {w : List Nat} : code m (w ++ [d]) = code m w * m + d + 1 := by
  unfold code
  rw [List.foldl_append]; rfl
theorem code_le {m d : Nat} {w v : List Nat} (h : code m w ≤ code m v) : code m (w ++ [d]) ≤ code m (v ++ [d]) := by
  rw [code_snoc, code_snoc]
  have := Nat.mul_le_mul_right m h
  omega
theorem code_lt {m d e : Nat} {w v : List Nat} (hd : d < m) (h : code m w < code m v) : code m (w ++ [d]) < code m (v ++ [e]) := by
  rw [code_snoc, code_snoc]
  have h1 : (code m w + 1) * m ≤ code m v * m := Nat.mul_le_mul_right m h
  rw [Nat.succ_mul] at h1
  omega
theorem code_self {m d : Nat} {w : List Nat} (hm : 1 ≤ m) : code m w < code m (w ++ [d]) := by
  rw [code_snoc]
  have : code m w * 1 ≤ code m w * m := Nat.mul_le_mul_left _ hm
  omega
theorem code_snoc_le {m d : Nat} {w v : List Nat} (hm : 1 ≤ m) (h : code m w ≤ code m v) : code m w ≤ code m (v ++ [d]) := Nat.le_trans h (Nat.le_of_lt (code_self hm))
/-- the first number of so long rows -/
def loC (m : Nat) : Nat → Nat
  | 0 => 0
  | k + 1 => loC m k * m + 1
theorem loC_lt {m : Nat} (hm : 1 ≤ m) (k : Nat) : loC m k < loC m (k + 1) := by
  show _ < loC m k * m + 1
  have : loC m k * 1 ≤ loC m k * m := Nat.mul_le_mul_left _ hm
  omega
theorem loC_mono {m : Nat} (hm : 1 ≤ m) {k : Nat} : ∀ {j : Nat}, k ≤ j → loC m k ≤ loC m j
  | 0, h => by
    have : k = 0 := by omega
    subst this
    exact Nat.le_refl _
  | j + 1, h => by
    rcases Nat.lt_or_eq_of_le h with z | z
    · exact Nat.le_trans (loC_mono hm (by omega)) (Nat.le_of_lt (loC_lt hm j))
    · subst z; exact Nat.le_refl _
theorem okW_snoc {m d : Nat} {w : List Nat} : okW m (w ++ [d]) ↔ okW m w ∧ d < m := by
  constructor
  · exact fun h => ⟨fun y hy => h y (List.mem_append_left _ hy), h d (List.mem_append_right _ (List.mem_singleton_self d))⟩
  · rintro ⟨h1, h2⟩ y hy
    rcases List.mem_append.mp hy with hy | hy
    · exact h1 y hy
    · rw [List.mem_singleton.mp hy]; exact h2
theorem snoc_ind {p : List Nat → Prop} (h0 : p []) (h1 : ∀ w d, p w → p (w ++ [d])) (w : List Nat) : p w := by
  have : ∀ n, ∀ w : List Nat, w.length = n → p w := fun n => by
    induction n with
    | zero => intro w hw; rw [List.length_eq_zero_iff.mp hw]; exact h0
    | succ n ih =>
      intro w hw
      have hne : w ≠ [] := fun z => by rw [z] at hw; cases hw
      rw [← List.dropLast_concat_getLast hne]
      exact h1 _ _ (ih _ (by rw [List.length_dropLast, hw]; rfl))
  exact this _ w rfl
theorem code_lo {m : Nat} (w : List Nat) : loC m w.length ≤ code m w ∧ (okW m w → code m w < loC m (w.length + 1)) := by
  induction w using snoc_ind with
  | h0 => exact ⟨Nat.le_refl _, fun _ => by show 0 < loC m 0 * m + 1; omega⟩
  | h1 w d ih =>
    rw [List.length_append, List.length_singleton, code_snoc]
    constructor
    · show loC m w.length * m + 1 ≤ _
      have := Nat.mul_le_mul_right m ih.1
      omega
    · intro h
      obtain ⟨o, hd⟩ := okW_snoc.mp h
      show _ < loC m (w.length + 1) * m + 1
      have := Nat.mul_le_mul_right m (ih.2 o)
      rw [Nat.succ_mul] at this
      omega
theorem code_len {m : Nat} (hm : 1 ≤ m) {u v : List Nat} (ov : okW m v) (h : code m u ≤ code m v) : u.length ≤ v.length := by
  rcases Nat.lt_or_ge v.length u.length with z | z
  · have h1 := (code_lo (m := m) v).2 ov
    have h2 := (code_lo (m := m) u).1
    have h3 := loC_mono hm (show v.length + 1 ≤ u.length by omega)
    omega
  · exact z
def lvF (m : Nat) : Nat → List (List Nat)
  | 0 => [[]]
  | k + 1 => (lvF m k).flatMap fun row => (List.range m).map fun d => row ++ [d]
def arF (m : Nat) : Nat → List (List Nat)
  | 0 => [[]]
  | k + 1 => arF m k ++ lvF m (k + 1)
theorem mem_lv {m : Nat} : ∀ {k : Nat} {w : List Nat}, w ∈ lvF m k ↔ okW m w ∧ w.length = k
  | 0, w => by
    show w ∈ [[]] ↔ _
    rw [List.mem_singleton]
    constructor
    · rintro rfl; exact ⟨(fun d hd => nomatch hd), rfl⟩
    · rintro ⟨_, h⟩; exact List.length_eq_zero_iff.mp h
  | k + 1, w => by
    show w ∈ (lvF m k).flatMap _ ↔ _
    rw [List.mem_flatMap]
    constructor
    · rintro ⟨row, h1, h2⟩
      obtain ⟨d, hd, rfl⟩ := List.mem_map.mp h2
      obtain ⟨o, l⟩ := mem_lv.mp h1
      exact ⟨okW_snoc.mpr ⟨o, List.mem_range.mp hd⟩, by rw [List.length_append, l]; rfl⟩
    · rintro ⟨o, l⟩
      have hne : w ≠ [] := fun z => by rw [z] at l; cases l
      have e := List.dropLast_concat_getLast hne
      rw [← e] at o
      obtain ⟨o1, o2⟩ := okW_snoc.mp o
      exact ⟨w.dropLast, mem_lv.mpr ⟨o1, by rw [List.length_dropLast, l]; rfl⟩, List.mem_map.mpr ⟨_, List.mem_range.mpr o2, e⟩⟩
theorem mem_ar {m : Nat} : ∀ {k : Nat} {w : List Nat}, w ∈ arF m k ↔ okW m w ∧ w.length ≤ k
  | 0, w => by
    have : w ∈ arF m 0 ↔ _ := mem_lv (m := m) (k := 0)
    rw [this]
    constructor
    · rintro ⟨a, b⟩; exact ⟨a, by omega⟩
    · rintro ⟨a, b⟩; exact ⟨a, by omega⟩
  | k + 1, w => by
    show w ∈ arF m k ++ lvF m (k + 1) ↔ _
    rw [List.mem_append, mem_ar, mem_lv]
    constructor
    · rintro (⟨a, b⟩ | ⟨a, b⟩)
      · exact ⟨a, by omega⟩
      · exact ⟨a, by omega⟩
    · rintro ⟨a, b⟩
      rcases Nat.lt_or_eq_of_le b with z | z
      · exact .inl ⟨a, by omega⟩
      · exact .inr ⟨a, z⟩
theorem lv_sorted {m : Nat} : ∀ k, (lvF m k).Pairwise fun a b => code m a < code m b
  | 0 => List.pairwise_singleton _ _
  | k + 1 => by
    show ((lvF m k).flatMap _).Pairwise _
    rw [List.pairwise_flatMap]
    constructor
    · intro row _
      rw [List.pairwise_map]
      refine List.Pairwise.imp ?_ (List.pairwise_lt_range (n := m))
      intro d e h
      rw [code_snoc, code_snoc]; omega
    · refine List.Pairwise.imp ?_ (lv_sorted k)
      intro a b h x hx y hy
      obtain ⟨d, hd, rfl⟩ := List.mem_map.mp hx
      obtain ⟨e, he, rfl⟩ := List.mem_map.mp hy
      exact code_lt (List.mem_range.mp hd) h
theorem ar_sorted {m : Nat} (hm : 1 ≤ m) : ∀ k, (arF m k).Pairwise fun a b => code m a < code m b
  | 0 => List.pairwise_singleton _ _
  | k + 1 => by
    show (arF m k ++ lvF m (k + 1)).Pairwise _
    rw [List.pairwise_append]
    refine ⟨ar_sorted hm k, lv_sorted (k + 1), fun a ha b hb => ?_⟩
    obtain ⟨o1, l1⟩ := mem_ar.mp ha
    obtain ⟨o2, l2⟩ := mem_lv.mp hb
    have h1 := (code_lo (m := m) a).2 o1
    have h2 := (code_lo (m := m) b).1
    have h3 := loC_mono hm (show a.length + 1 ≤ b.length by omega)
    omega
/-- the first of all rows with a quality is the least one -/
theorem first_of {m k : Nat} (hm : 1 ≤ m) {p : List Nat → Bool} {w : List Nat} (hw : w ∈ arF m k) (hp : p w = true) (hl : ∀ v ∈ arF m k, p v = true → code m w ≤ code m v) : ∃ t, (arF m k).filter p = w :: t := by
  have hf : w ∈ (arF m k).filter p := List.mem_filter.mpr ⟨hw, hp⟩
  have hs := (ar_sorted hm k).filter p
  cases e : (arF m k).filter p with
  | nil => rw [e] at hf; cases hf
  | cons x t =>
    rw [e] at hf hs
    rcases List.mem_cons.mp hf with rfl | hf
    · exact ⟨t, rfl⟩
    · have h1 := (List.pairwise_cons.mp hs).1 w hf
      have hx : x ∈ (arF m k).filter p := by rw [e]; exact List.mem_cons_self
      obtain ⟨h2, h3⟩ := List.mem_filter.mp hx
      have := hl x h2 h3
      omega
/-! the search -/
section
variable {σ : Type} [DecidableEq σ]
def runT (T : σ → Nat → Option σ) (s : σ) (w : List Nat) : Option σ := w.foldl (fun o d => o.bind fun x => T x d) (some s)
theorem runT_snoc {T : σ → Nat → Option σ} {s : σ} {w : List Nat} {d : Nat} : runT T s (w ++ [d]) = (runT T s w).bind fun x => T x d := by
  unfold runT
  rw [List.foldl_append]; rfl
def ad (T : σ → Nat → Option σ) (w : List Nat) (s : σ) (line : List (List Nat × σ)) (d : Nat) : List (List Nat × σ) := match T s d with
  | none => line
  | some s' => if s' ∈ line.map (·.2) then line else line ++ [(w ++ [d], s')]
/-- what stands of the search: processed are those before spot, and of spot the deeds below dd -/
structure SI (T : σ → Nat → Option σ) (m : Nat) (s0 : σ) (line : List (List Nat × σ)) (spot dd : Nat) : Prop where
  sorted : line.Pairwise fun a b => code m a.1 < code m b.1
  run : ∀ e ∈ line, okW m e.1 ∧ runT T s0 e.1 = some e.2
  zero : line[0]? = some ([], s0)
  nd : (line.map (·.2)).Nodup
  done : ∀ (i : Nat) (e : List Nat × σ) (d : Nat) (s' : σ), line[i]? = some e → (i < spot ∨ (i = spot ∧ d < dd)) → d < m → T e.2 d = some s' → ∃ f ∈ line, f.2 = s' ∧ code m f.1 ≤ code m (e.1 ++ [d])
  from_ : ∀ (j : Nat) (f : List Nat × σ), line[j]? = some f → 0 < j → ∃ i e d, line[i]? = some e ∧ i < j ∧ (i < spot ∨ (i = spot ∧ d < dd)) ∧ d < m ∧ f.1 = e.1 ++ [d]
  len : ∀ (j : Nat) (f : List Nat × σ), line[j]? = some f → f.1.length ≤ j
theorem si_start {T : σ → Nat → Option σ} {m : Nat} {s0 : σ} : SI T m s0 [([], s0)] 0 0 :=
  ⟨List.pairwise_singleton _ _, fun e he => by rw [List.mem_singleton.mp he]; exact ⟨(fun d hd => nomatch hd), rfl⟩, rfl, by simp, fun i e d s' _ h => by omega, fun j f hj h => by
    have := (List.getElem?_eq_some_iff.mp hj).1
    simp at this
    omega, fun j f hj => by
    have := (List.getElem?_eq_some_iff.mp hj).1
    simp at this
    subst this
    cases hj
    exact Nat.le_refl _⟩
theorem si_ad {T : σ → Nat → Option σ} {m : Nat} {s0 : σ} {line : List (List Nat × σ)} {spot dd : Nat} {w : List Nat} {s : σ} (a : SI T m s0 line spot dd) (hm : 1 ≤ m) (hd : dd < m) (hs : line[spot]? = some (w, s)) : SI T m s0 (ad T w s line dd) spot (dd + 1) ∧ (ad T w s line dd)[spot]? = some (w, s) := by
  have same : (∀ s', T s dd = some s' → s' ∈ line.map (·.2)) → SI T m s0 line spot (dd + 1) := fun h => by
    refine ⟨a.sorted, a.run, a.zero, a.nd, fun i e d s' hi ho hdm ht => ?_, fun j f hj h0 => ?_, a.len⟩
    · by_cases c : i = spot ∧ d = dd
      · obtain ⟨rfl, rfl⟩ := c
        rw [hs] at hi
        cases hi
        obtain ⟨f, hf, e⟩ := List.mem_map.mp (h s' ht)
        refine ⟨f, hf, e, ?_⟩
        obtain ⟨j, hj⟩ := List.mem_iff_getElem?.mp hf
        rcases Nat.eq_zero_or_pos j with z | z
        · subst z
          rw [a.zero] at hj
          cases hj
          exact Nat.zero_le _
        · obtain ⟨i2, e2, d2, h1, h2, h3, h4, h5⟩ := a.from_ j f hj z
          rw [h5]
          rcases h3 with h3 | ⟨rfl, h3⟩
          · have := List.pairwise_iff_getElem.mp a.sorted i2 i (List.getElem?_eq_some_iff.mp h1).1 (List.getElem?_eq_some_iff.mp hs).1 h3
            rw [(List.getElem?_eq_some_iff.mp h1).2, (List.getElem?_eq_some_iff.mp hs).2] at this
            exact Nat.le_of_lt (code_lt h4 this)
          · rw [hs] at h1
            cases h1
            rw [code_snoc, code_snoc]
            dsimp only
            omega
      · exact a.done i e d s' hi (by omega) hdm ht
    · obtain ⟨i, e, d, h1, h2, h3, h4⟩ := a.from_ j f hj h0
      exact ⟨i, e, d, h1, h2, by omega, h4⟩
  unfold ad
  cases e : T s dd with
  | none => exact ⟨same fun s' h => (by rw [e] at h; cases h), hs⟩
  | some s' =>
    dsimp only
    by_cases c : s' ∈ line.map (·.2)
    · rw [if_pos c]
      exact ⟨same fun s2 h => (by rw [e] at h; cases h; exact c), hs⟩
    · rw [if_neg c]
      have hsl := (List.getElem?_eq_some_iff.mp hs).1
      have ap : ∀ {j : Nat} {f : List Nat × σ}, (line ++ [(w ++ [dd], s')])[j]? = some f → (j < line.length ∧ line[j]? = some f) ∨ (j = line.length ∧ f = (w ++ [dd], s')) := fun {j f} h => by
        rcases Nat.lt_or_ge j line.length with z | z
        · rw [List.getElem?_append_left z] at h
          exact .inl ⟨z, h⟩
        · have h1 := (List.getElem?_eq_some_iff.mp h).1
          rw [List.length_append, List.length_singleton] at h1
          have : j = line.length := by omega
          subst this
          rw [List.getElem?_append_right (Nat.le_refl _), Nat.sub_self] at h
          cases h
          exact .inr ⟨rfl, rfl⟩
      have lift : ∀ {j : Nat} {f : List Nat × σ}, line[j]? = some f → (line ++ [(w ++ [dd], s')])[j]? = some f := fun {j f} h => by
        rw [List.getElem?_append_left (List.getElem?_eq_some_iff.mp h).1]
        exact h
      have hw := a.run _ (List.mem_of_getElem? hs)
      refine ⟨⟨?_, fun x hx => ?_, lift a.zero, ?_, fun i x d s2 hi ho hdm ht => ?_, fun j f hj h0 => ?_, fun j f hj => ?_⟩, lift hs⟩
      · rw [List.pairwise_append]
        refine ⟨a.sorted, List.pairwise_singleton _ _, fun x hx y hy => ?_⟩
        rw [List.mem_singleton.mp hy]
        obtain ⟨j, hj⟩ := List.mem_iff_getElem?.mp hx
        rcases Nat.eq_zero_or_pos j with z | z
        · subst z
          rw [a.zero] at hj
          cases hj
          show 0 < code m (w ++ [dd])
          rw [code_snoc]; omega
        · obtain ⟨i2, e2, d2, h1, h2, h3, h4, h5⟩ := a.from_ j x hj z
          rw [h5]
          rcases h3 with h3 | ⟨rfl, h3⟩
          · have := List.pairwise_iff_getElem.mp a.sorted i2 spot (List.getElem?_eq_some_iff.mp h1).1 hsl h3
            rw [(List.getElem?_eq_some_iff.mp h1).2, (List.getElem?_eq_some_iff.mp hs).2] at this
            exact code_lt h4 this
          · rw [hs] at h1
            cases h1
            rw [code_snoc, code_snoc]
            dsimp only
            omega
      · rcases List.mem_append.mp hx with hx | hx
        · exact a.run x hx
        · rw [List.mem_singleton.mp hx]
          exact ⟨okW_snoc.mpr ⟨hw.1, hd⟩, by rw [runT_snoc, hw.2]; exact e⟩
      · rw [List.map_append, List.nodup_append]
        refine ⟨a.nd, by simp, fun x hx y hy exy => ?_⟩
        rw [List.map_singleton, List.mem_singleton] at hy
        rw [exy, hy] at hx
        exact c hx
      · rcases ap hi with ⟨h1, h2⟩ | ⟨h1, h2⟩
        · by_cases c2 : i = spot ∧ d = dd
          · obtain ⟨rfl, rfl⟩ := c2
            rw [hs] at h2
            cases h2
            rw [e] at ht
            cases ht
            exact ⟨_, List.mem_append_right _ (List.mem_singleton_self _), rfl, Nat.le_refl _⟩
          · obtain ⟨f, hf, e1, e2⟩ := a.done i x d s2 h2 (by omega) hdm ht
            exact ⟨f, List.mem_append_left _ hf, e1, e2⟩
        · omega
      · rcases ap hj with ⟨h1, h2⟩ | ⟨h1, h2⟩
        · obtain ⟨i, x, d, h3, h4, h5, h6⟩ := a.from_ j f h2 h0
          exact ⟨i, x, d, lift h3, h4, by omega, h6⟩
        · exact ⟨spot, (w, s), dd, lift hs, by omega, by omega, hd, by rw [h2]⟩
      · rcases ap hj with ⟨h1, h2⟩ | ⟨h1, h2⟩
        · exact a.len j f h2
        · rw [h2, List.length_append, List.length_singleton, h1]
          have := a.len spot _ hs
          dsimp only at this ⊢
          omega
theorem si_next {T : σ → Nat → Option σ} {m : Nat} {s0 : σ} {line : List (List Nat × σ)} {spot : Nat} (a : SI T m s0 line spot m) : SI T m s0 line (spot + 1) 0 :=
  ⟨a.sorted, a.run, a.zero, a.nd, fun i e d s' hi ho hdm ht => a.done i e d s' hi (by omega) hdm ht, fun j f hj h0 => by
    obtain ⟨i, e, d, h1, h2, h3, h4⟩ := a.from_ j f hj h0
    exact ⟨i, e, d, h1, h2, by omega, h4⟩, a.len⟩
/-- every row leads to where a row no later stands, or it stands behind one that isn't gone through yet -/
theorem si_cov {T : σ → Nat → Option σ} {m : Nat} {s0 : σ} {line : List (List Nat × σ)} {spot : Nat} (a : SI T m s0 line spot 0) (hm : 1 ≤ m) (v : List Nat) : okW m v → ∀ t, runT T s0 v = some t → (∃ i f, i < spot ∧ line[i]? = some f ∧ f.2 = t ∧ code m f.1 ≤ code m v) ∨ (∃ i f, spot ≤ i ∧ line[i]? = some f ∧ code m f.1 ≤ code m v) := by
  induction v using snoc_ind with
  | h0 =>
    intro _ t ht
    cases ht
    rcases Nat.eq_zero_or_pos spot with z | z
    · exact .inr ⟨0, _, by omega, a.zero, Nat.le_refl _⟩
    · exact .inl ⟨0, _, z, a.zero, rfl, Nat.le_refl _⟩
  | h1 v d ih =>
    intro o t ht
    obtain ⟨o1, o2⟩ := okW_snoc.mp o
    rw [runT_snoc] at ht
    cases e : runT T s0 v with
    | none => rw [e] at ht; cases ht
    | some t' =>
      rw [e] at ht
      have ht : T t' d = some t := ht
      rcases ih o1 t' e with ⟨i, f, h1, h2, h3, h4⟩ | ⟨i, f, h1, h2, h3⟩
      · obtain ⟨g, hg, e1, e2⟩ := a.done i f d t h2 (.inl h1) o2 (by rw [h3]; exact ht)
        obtain ⟨j, hj⟩ := List.mem_iff_getElem?.mp hg
        have h5 : code m g.1 ≤ code m (v ++ [d]) := Nat.le_trans e2 (code_le h4)
        rcases Nat.lt_or_ge j spot with z | z
        · exact .inl ⟨j, g, z, hj, e1, h5⟩
        · exact .inr ⟨j, g, z, hj, h5⟩
      · exact .inr ⟨i, f, h1, h2, code_snoc_le hm h3⟩
end
end M11

end
section
set_option Elab.async false
set_option linter.all false
set_option autoImplicit false
/-! small walks of the machine -/
namespace M11
open M
theorem eq_opt (a b : Option Nat) : eqD (optD a) (optD b) = decide (a = b) := by
  cases a with
  | none => cases b <;> simp [optD, eqD]
  | some x =>
    cases b with
    | none => simp [optD, eqD]
    | some y =>
      simp only [optD, eqD, Option.some.injEq]
      exact decide_eq_decide.mpr (by omega)
theorem pure_opts : ∀ a : Stp, pureDs (a.map optD) = true ∧ deps (a.map optD) = 0
  | [] => ⟨rfl, rfl⟩
  | x :: a => by
    obtain ⟨h1, h2⟩ := pure_opts a
    have hx : pureD (optD x) = true ∧ dep (optD x) = 0 := by cases x <;> exact ⟨rfl, rfl⟩
    exact ⟨by simp only [List.map_cons, pureDs, hx.1, h1, Bool.and_self], by simp only [List.map_cons, deps, hx.2, h2]; rfl⟩
theorem pure_step (a : Stp) : pureD (stepD a) = true ∧ dep (stepD a) = 1 := by
  obtain ⟨h1, h2⟩ := pure_opts a
  exact ⟨by simp only [stepD, pureD]; exact h1, by simp only [stepD, dep, h2]⟩
theorem get_step {s : Stp} {d : Nat} (hd : d < s.length) {h : Hm} : idxS (stepD s) (.int (d : Int)) h = some (optD (s.getD d none)) := by
  unfold stepD
  rw [idx_tup]
  refine at_nat ?_
  rw [List.getElem?_map, List.getElem?_eq_getElem hd, List.getD_eq_getElem?_getD, List.getElem?_eq_getElem hd]; rfl
theorem mac0 {found : List Stp} {dE dA : D} {h : Hm} : idxS (macD found dE dA) (.int 0) h = some (.tup (found.map stepD)) := at0
theorem mac00 {found : List Stp} (hf : 1 ≤ found.length) : atI (found.map stepD) 0 = some (stepD (found.getD 0 [])) := by
  cases found with
  | nil => simp at hf
  | cons x l => rw [List.map_cons, at0]; rfl
theorem nats_app (L : List Nat) (v : Nat) : natsD L ++ [.int (v : Int)] = natsD (L ++ [v]) := by
  unfold natsD
  rw [List.map_append]; rfl
theorem nats_len (L : List Nat) : (natsD L).length = L.length := by unfold natsD; rw [List.length_map]
theorem eq_opts : ∀ a b : Stp, eqDs (a.map optD) (b.map optD) = decide (a = b)
  | [], [] => rfl
  | [], _ :: _ => rfl
  | _ :: _, [] => rfl
  | x :: a, y :: b => by
    rw [List.map_cons, List.map_cons, eqDs, eq_opt, eq_opts a b]
    by_cases h1 : x = y <;> by_cases h2 : a = b <;> simp [h1, h2]
theorem eq_step (a b : Stp) : eqD (stepD a) (stepD b) = decide (a = b) := by
  simp only [stepD, eqD]
  exact eq_opts a b
theorem okR_pure {h : Hm} {d : D} (p : pureD d = true) : okR h d := by
  cases d <;> first | trivial | (exact absurd p (by simp [pureD]))
theorem pure_mem : ∀ {xs : List D}, pureDs xs = true → ∀ x ∈ xs, pureD x = true
  | [], _, x, h => nomatch h
  | y :: ys, p, x, h => by
    rw [pureDs, Bool.and_eq_true] at p
    rcases List.mem_cons.mp h with rfl | h
    · exact p.1
    · exact pure_mem p.2 x h
theorem deps_memM : ∀ {ds : List D} {d : D}, d ∈ ds → dep d ≤ deps ds
  | y :: ys, d, h => by
    rw [deps]
    rcases List.mem_cons.mp h with rfl | h
    · exact Nat.le_max_left _ _
    · exact Nat.le_trans (deps_memM h) (Nat.le_max_right _ _)
theorem mem_getD {α : Type} {s : List α} {d : Nat} {z : α} (h : d < s.length) : s.getD d z ∈ s := by
  rw [List.getD_eq_getElem?_getD, List.getElem?_eq_getElem h]
  exact List.getElem_mem _
theorem it_zipT {h : Hm} {xs ys : List D} : iterS .zip [.tup xs, .tup ys] h = some (zipD xs ys, []) := rfl
theorem for_wp {F : FnS} {E : XP} {p : Pat} {k : IK} {it : List CE} {a : List CS} {env : Env} {h : Hm} {Z : Ends} : wpS F E (.for_ p k it a) env h Z = wpEs F E it env h fun ds h1 => ws (iterS k ds h1) fun I => forL I.2 (fun x env h R => wpP p x env fun env1 => wpSs F E a env1 h { nx := R, ct := R, bk := Z.nx, rt := Z.rt }) Z.nx I.1 env h1 := by
  rw [wpS]
theorem same_refl : ∀ (k : Nat) {N : Nat} {d : D} {h : Hm} {Q : VQ} {E : XP}, pureD d = true → dep d ≤ k → k + 1 ≤ N → Q (.bl true) h → FW P N 19 [d, d] h Q E
  | k, N, d, h, Q, E, p, hd, hN, q => by
    obtain ⟨N, rfl⟩ : ∃ n, N = n + 1 := ⟨N - 1, by omega⟩
    have ok : okR h d := okR_pure p
    refine fw_open (d := D19) rfl rfl ?_
    cases d with
    | lst xs => simp [pureD] at p
    | ref a => simp [pureD] at p
    | tup xs =>
      have ih : ∀ x ∈ xs, ∀ (h : Hm) (Q : VQ) (E : XP), Q (.bl true) h → FW P N 19 [x, x] h Q E := fun x hx h Q E q => by
        rw [dep] at hd
        have := deps_memM hx
        obtain ⟨k, rfl⟩ : ∃ n, k = n + 1 := ⟨k - 1, by omega⟩
        rw [pureD] at p
        exact same_refl k (pure_mem p x hx) (by omega) (by omega) q
      generalize FW P N = F at ih ⊢
      unfold D19
      simp only [wpSs, wpS, wpE, wpEs, wpCs, wpP, wpPs, List.map, List.replicate, List.cons_append, List.nil_append, List.append_nil, List.getElem?_cons_zero, List.getElem?_cons_succ, jn, ws_some, List.length_cons, List.length_nil, List.set, at0, at1, at2, idx_tup, c_gt, c_lt, c_le, c_ge, c_is, c_isnt, c_eqI, c_neI, c_eqS, c_neS, c_eqB, c_neB, isS, isNonD, isBlD, t_bl, b_int, b_abs, b_max2, b_min2, b_lenT, o_add, o_sub, permD, Option.map_some, isi_ok ok, kindB]
      simp only [decide_true, if_true, Bool.not_true, Bool.false_eq_true, if_false]
      rw [it_zipT, ws_some]
      refine forL_inv (fun l env h' => ∃ (ys : List D) (e2 e3 : Option D), l = zipD ys ys ∧ (∀ y ∈ ys, y ∈ xs) ∧ h' = h ∧ env = [some (.tup xs), some (.tup xs), e2, e3])
        (fun _ _ _ _ => still_nil) (fun x l env h' R hi kk => ?_) (fun env h' hi => ?_) _ _ _ ⟨xs, _, _, rfl, fun y hy => hy, rfl, rfl⟩
      · obtain ⟨ys, e2, e3, hl, hy, rfl, rfl⟩ := hi
        cases ys with
        | nil => simp [zipD] at hl
        | cons y ys =>
          simp only [zipD, List.zipWith_cons_cons, List.cons.injEq] at hl
          obtain ⟨rfl, rfl⟩ := hl
          simp only [wpSs, wpS, wpE, wpEs, wpCs, wpP, wpPs, List.map, List.replicate, List.cons_append, List.nil_append, List.append_nil, List.getElem?_cons_zero, List.getElem?_cons_succ, jn, ws_some, List.length_cons, List.length_nil, List.set, at0, at1, at2, idx_tup, c_gt, c_lt, c_le, c_ge, c_is, c_isnt, c_eqI, c_neI, c_eqS, c_neS, c_eqB, c_neB, isS, isNonD, isBlD, t_bl, b_int, b_abs, b_max2, b_min2, b_lenT, o_add, o_sub, permD, Option.map_some]
          refine ⟨by simp, by simp, ?_⟩
          refine ih y (hy y List.mem_cons_self) _ _ _ ?_
          simp only [wpSs, wpS, wpE, wpEs, wpCs, wpP, wpPs, List.map, List.replicate, List.cons_append, List.nil_append, List.append_nil, List.getElem?_cons_zero, List.getElem?_cons_succ, jn, ws_some, List.length_cons, List.length_nil, List.set, at0, at1, at2, idx_tup, c_gt, c_lt, c_le, c_ge, c_is, c_isnt, c_eqI, c_neI, c_eqS, c_neS, c_eqB, c_neB, isS, isNonD, isBlD, t_bl, b_int, b_abs, b_max2, b_min2, b_lenT, o_add, o_sub, permD, Option.map_some, Bool.not_true, Bool.false_eq_true, if_false]
          exact kk _ _ ⟨ys, _, _, rfl, fun z hz => hy z (List.mem_cons_of_mem _ hz), rfl, rfl⟩
      · obtain ⟨ys, e2, e3, hl, hy, rfl, rfl⟩ := hi
        exact q
    | non =>
      unfold D19
      simp only [wpSs, wpS, wpE, wpEs, wpCs, wpP, wpPs, List.map, List.replicate, List.cons_append, List.nil_append, List.append_nil, List.getElem?_cons_zero, List.getElem?_cons_succ, jn, ws_some, List.length_cons, List.length_nil, List.set, at0, at1, at2, idx_tup, c_gt, c_lt, c_le, c_ge, c_is, c_isnt, c_eqI, c_neI, c_eqS, c_neS, c_eqB, c_neB, isS, isNonD, isBlD, t_bl, b_int, b_abs, b_max2, b_min2, b_lenT, o_add, o_sub, permD, Option.map_some, isi_ok ok, kindB]
      simpa using q
    | bl b =>
      unfold D19
      simp only [wpSs, wpS, wpE, wpEs, wpCs, wpP, wpPs, List.map, List.replicate, List.cons_append, List.nil_append, List.append_nil, List.getElem?_cons_zero, List.getElem?_cons_succ, jn, ws_some, List.length_cons, List.length_nil, List.set, at0, at1, at2, idx_tup, c_gt, c_lt, c_le, c_ge, c_is, c_isnt, c_eqI, c_neI, c_eqS, c_neS, c_eqB, c_neB, isS, isNonD, isBlD, t_bl, b_int, b_abs, b_max2, b_min2, b_lenT, o_add, o_sub, permD, Option.map_some, isi_ok ok, kindB]
      cases b <;> simpa [c_eqB] using q
    | int i =>
      unfold D19
      simp only [wpSs, wpS, wpE, wpEs, wpCs, wpP, wpPs, List.map, List.replicate, List.cons_append, List.nil_append, List.append_nil, List.getElem?_cons_zero, List.getElem?_cons_succ, jn, ws_some, List.length_cons, List.length_nil, List.set, at0, at1, at2, idx_tup, c_gt, c_lt, c_le, c_ge, c_is, c_isnt, c_eqI, c_neI, c_eqS, c_neS, c_eqB, c_neB, isS, isNonD, isBlD, t_bl, b_int, b_abs, b_max2, b_min2, b_lenT, o_add, o_sub, permD, Option.map_some, isi_ok ok, kindB]
      simpa [c_eqI] using q
    | str s =>
      unfold D19
      simp only [wpSs, wpS, wpE, wpEs, wpCs, wpP, wpPs, List.map, List.replicate, List.cons_append, List.nil_append, List.append_nil, List.getElem?_cons_zero, List.getElem?_cons_succ, jn, ws_some, List.length_cons, List.length_nil, List.set, at0, at1, at2, idx_tup, c_gt, c_lt, c_le, c_ge, c_is, c_isnt, c_eqI, c_neI, c_eqS, c_neS, c_eqB, c_neB, isS, isNonD, isBlD, t_bl, b_int, b_abs, b_max2, b_min2, b_lenT, o_add, o_sub, permD, Option.map_some, isi_ok ok, kindB]
      simpa [c_eqS] using q
theorem is_opt (o : Option Nat) : isS (optD o) .non = some o.isNone := by cases o <;> rfl
theorem ne_opt {h : Hm} (a b : Option Nat) : cmpS .ne (optD a) (optD b) h = some (!decide (a = b)) := by
  have ha : ∀ a : Option Nat, pureD (optD a) = true ∧ dep (optD a) = 0 := fun a => by cases a <;> exact ⟨rfl, rfl⟩
  show (eqv h (optD a) (optD b)).map not = _
  rw [eqv_pure (ha a).1 (ha b).1 (Or.inl (by rw [(ha a).2]; omega)), eq_opt]; rfl
/-- what is told of rows that end with two deeds -/
theorem tadd {row : List Nat} (hl : row.length ≤ 1000) {x : Nat} {h : Hm} : binS .add (.tup (natsD row)) (.tup [.int (x : Int)]) h = some (.tup (natsD (row ++ [x])), h) := by
  rw [o_addT (by rw [nats_len]; simp [LIM]; omega), nats_app]
theorem mem_snoc {row : List Nat} {x m : Nat} (hr : ∀ d ∈ row, d < m) (hx : x < m) : ∀ d ∈ row ++ [x], d < m := fun d hd => by
  rcases List.mem_append.mp hd with hd | hd
  · exact hr d hd
  · rw [List.mem_singleton.mp hd]; exact hx

theorem mac2 {found : List Stp} {dE dA : D} {h : Hm} : idxS (macD found dE dA) (.int 2) h = some dA := at2
/-- what the walks need of a machine -/
structure WM (m : Nat) (M : Mac) : Prop where
  n1 : 1 ≤ M.found.length
  n2 : M.found.length ≤ 27
  m1 : 1 ≤ m
  m2 : m ≤ 10
  row : ∀ s ∈ M.found, s.length = m ∧ ∀ t, some t ∈ s → t < M.found.length
  al : M.ans.length = M.found.length
theorem WM.st {m : Nat} {M : Mac} (L : WM m M) {a : Option Nat} (h : InS M.found.length a) {d : Nat} (hd : d < m) : InS M.found.length (stO M a d) := fun b e => by
  cases a with
  | none => cases e
  | some x =>
    have hx := h x rfl
    have hm : M.found.getD x [] ∈ M.found := mem_getD hx
    have e : (M.found.getD x []).getD d none = some b := e
    refine (L.row _ hm).2 b ?_
    rw [← e]
    exact mem_getD (by rw [(L.row _ hm).1]; exact hd)
theorem found_at {M : Mac} {b : Nat} (hb : b < M.found.length) {h : Hm} : idxS (.tup (M.found.map stepD)) (.int (b : Int)) h = some (stepD (M.found.getD b [])) := by
  rw [idx_tup]
  refine at_nat ?_
  rw [List.getElem?_map, List.getElem?_eq_getElem hb, List.getD_eq_getElem?_getD, List.getElem?_eq_getElem hb]; rfl
theorem ans_at {M : Mac} {b : Nat} (hb : b < M.ans.length) {h : Hm} : idxS (.tup (M.ans.map tlD)) (.int (b : Int)) h = some (tlD (M.ans.getD b none)) := by
  rw [idx_tup]
  refine at_nat ?_
  rw [List.getElem?_map, List.getElem?_eq_getElem hb, List.getD_eq_getElem?_getD, List.getElem?_eq_getElem hb]; rfl
/-- one step, as the walks write it -/
def stE (k d : Nat) : CE := .ife (.cmp .is (.loc k) (.lit .non)) (.lit .non) (.idx (.idx (.idx (.loc 0) (.lit (.int (0)))) (.loc k)) (.loc d))
theorem st_e {F : FnS} {E : XP} {m : Nat} {M : Mac} (L : WM m M) {k di : Nat} {env : Env} {h : Hm} {a : Option Nat} {d : Nat} (h0 : env[0]?.join = some (macM M)) (hk : env[k]?.join = some (optD a)) (hdi : env[di]?.join = some (.int (d : Int))) (ha : InS M.found.length a) (hd : d < m) {R : VQ} (q : R (optD (stO M a d)) h) : wpE F E (stE k di) env h R := by
  unfold stE
  simp only [wpE, h0, hk, hdi, ws_some, c_is, is_opt, t_bl]
  cases a with
  | none =>
    simp only [Option.isNone, if_true]
    exact q
  | some b =>
    have hb := ha b rfl
    simp only [Option.isNone, Bool.false_eq_true, if_false, macM, mac0, ws_some, optD]
    rw [found_at hb, ws_some, get_step (by rw [(L.row _ (mem_getD hb)).1]; exact hd), ws_some]
    exact q
theorem run_in {m : Nat} {M : Mac} (L : WM m M) : ∀ {w : List Nat} {a : Option Nat}, InS M.found.length a → okW m w → InS M.found.length (runF M.found a w)
  | [], a, h, _ => h
  | d :: w, a, h, o => run_in L (w := w) (L.st h (o d List.mem_cons_self)) fun y hy => o y (List.mem_cons_of_mem _ hy)
theorem in0 {m : Nat} {M : Mac} (L : WM m M) : InS M.found.length (some 0) := fun b e => by cases e; exact L.n1
/-- the answers of a board, as the walks write it -/
theorem tl_e {F : FnS} {E : XP} {m : Nat} {M : Mac} (L : WM m M) {k : Nat} {env : Env} {h : Hm} {a : Option Nat} (h0 : env[0]?.join = some (macM M)) (hk : env[k]?.join = some (optD a)) (ha : InS M.found.length a) {R : VQ} (q : R (tlD (tellF M a)) h) : wpE F E (.ife (.cmp .is (.loc k) (.lit .non)) (.lit .non) (.idx (.idx (.loc 0) (.lit (.int (2)))) (.loc k))) env h R := by
  simp only [wpE, h0, hk, ws_some, c_is, is_opt, t_bl]
  cases a with
  | none =>
    simp only [Option.isNone, if_true]
    exact q
  | some b =>
    have hb := ha b rfl
    simp only [Option.isNone, Bool.false_eq_true, if_false, macM, mac2, ws_some, optD]
    rw [ans_at (by rw [L.al]; exact hb), ws_some]
    exact q
theorem d172_eq : D172 = ⟨3, 4, [
  .for_ (.slot 3) .val [(.loc 2)] [
    .asg (.slot 1) (stE 1 3)],
  .ret (.loc 1)]⟩ := rfl
theorem from_spec {N m : Nat} {M : Mac} (L : WM m M) {a : Option Nat} (ha : InS M.found.length a) {row : List Nat} (hr : okW m row) {h : Hm} {Q : VQ} {E : XP} (q : Q (optD (runF M.found a row)) h) : FW P (N + 1) 172 [macM M, optD a, .tup (natsD row)] h Q E := by
  refine fw_open (d := D172) rfl rfl ?_
  generalize FW P N = F
  rw [d172_eq]
  simp only [List.map, List.replicate, List.cons_append, List.nil_append]
  rw [wpSs, for_wp]
  simp only [wpEs, wpE, List.getElem?_cons_succ, List.getElem?_cons_zero, Option.join_some, ws_some]
  rw [it_tup, ws_some]
  refine forL_inv (fun l env h' => ∃ (r : List Nat) (o : Option Nat) (e3 : Option D), l = natsD r ∧ okW m r ∧ InS M.found.length o ∧ runF M.found o r = runF M.found a row ∧ h' = h ∧ env = [some (macM M), some (optD o), some (.tup (natsD row)), e3])
    (fun _ _ _ _ => still_nil) (fun x l env h' R hi kk => ?_) (fun env h' hi => ?_) _ _ _ ⟨row, a, _, rfl, hr, ha, rfl, rfl, rfl⟩
  · obtain ⟨r, o, e3, hl, hrr, ho, ht, rfl, rfl⟩ := hi
    cases r with
    | nil => cases hl
    | cons d r =>
      cases hl
      have hd := hrr d List.mem_cons_self
      simp only [wpP, List.set]
      refine ⟨by simp, ?_⟩
      rw [wpSs, wpS]
      refine st_e L rfl rfl rfl ho hd ?_
      simp only [wpP, List.set]
      refine ⟨by simp, ?_⟩
      rw [wpSs]
      exact kk _ _ ⟨r, stO M o d, _, rfl, fun y hy => hrr y (List.mem_cons_of_mem _ hy), L.st ho hd, ht, rfl, rfl⟩
  · obtain ⟨r, o, e3, hl, hrr, ho, ht, rfl, rfl⟩ := hi
    cases r with
    | cons d r => cases hl
    | nil =>
      have e : o = runF M.found a row := ht
      rw [e]
      rw [wpSs, wpS, wpE]
      simp only [List.getElem?_cons_succ, List.getElem?_cons_zero, Option.join_some, ws_some]
      exact q
theorem d150_eq : D150 = ⟨2, 4, [
  .asg (.slot 2) (.lit (.int (0))),
  .for_ (.slot 3) .val [(.loc 1)] [
    .asg (.slot 2) (stE 2 3)],
  .ret (.loc 2)]⟩ := rfl
theorem cboard_spec {N m : Nat} {M : Mac} (L : WM m M) {row : List Nat} (hr : okW m row) {h : Hm} {Q : VQ} {E : XP} (q : Q (optD (runF M.found (some 0) row)) h) : FW P (N + 1) 150 [macM M, .tup (natsD row)] h Q E := by
  refine fw_open (d := D150) rfl rfl ?_
  generalize FW P N = F
  rw [d150_eq]
  simp only [List.map, List.replicate, List.cons_append, List.nil_append]
  rw [wpSs, wpS, wpE]
  simp only [wpP, List.set]
  refine ⟨by simp, ?_⟩
  rw [wpSs, for_wp]
  simp only [wpEs, wpE, List.getElem?_cons_succ, List.getElem?_cons_zero, Option.join_some, ws_some]
  rw [it_tup, ws_some]
  refine forL_inv (fun l env h' => ∃ (r : List Nat) (o : Option Nat) (e3 : Option D), l = natsD r ∧ okW m r ∧ InS M.found.length o ∧ runF M.found o r = runF M.found (some 0) row ∧ h' = h ∧ env = [some (macM M), some (.tup (natsD row)), some (optD o), e3])
    (fun _ _ _ _ => still_nil) (fun x l env h' R hi kk => ?_) (fun env h' hi => ?_) _ _ _ ⟨row, some 0, _, rfl, hr, in0 L, rfl, rfl, rfl⟩
  · obtain ⟨r, o, e3, hl, hrr, ho, ht, rfl, rfl⟩ := hi
    cases r with
    | nil => cases hl
    | cons d r =>
      cases hl
      have hd := hrr d List.mem_cons_self
      simp only [wpP, List.set]
      refine ⟨by simp, ?_⟩
      rw [wpSs, wpS]
      refine st_e L rfl rfl rfl ho hd ?_
      simp only [wpP, List.set]
      refine ⟨by simp, ?_⟩
      rw [wpSs]
      exact kk _ _ ⟨r, stO M o d, _, rfl, fun y hy => hrr y (List.mem_cons_of_mem _ hy), L.st ho hd, ht, rfl, rfl⟩
  · obtain ⟨r, o, e3, hl, hrr, ho, ht, rfl, rfl⟩ := hi
    cases r with
    | cons d r => cases hl
    | nil =>
      have e : o = runF M.found (some 0) row := ht
      rw [e]
      rw [wpSs, wpS, wpE]
      simp only [List.getElem?_cons_succ, List.getElem?_cons_zero, Option.join_some, ws_some]
      exact q
theorem cans_spec {N m : Nat} {M : Mac} (L : WM m M) {row : List Nat} (hr : okW m row) {h : Hm} {Q : VQ} {E : XP} (q : Q (tlD (tellF M (runF M.found (some 0) row))) h) : FW P (N + 2) 151 [macM M, .tup (natsD row)] h Q E := by
  refine fw_open (d := D151) rfl rfl ?_
  unfold D151
  simp only [wpSs, wpS, wpE, wpEs, List.map, List.replicate, List.cons_append, List.nil_append, List.getElem?_cons_succ, List.getElem?_cons_zero, Option.join_some, ws_some, permD, List.append_nil]
  refine cboard_spec L hr ?_
  have hin := run_in L (in0 L) hr
  generalize runF M.found (some 0) row = a at hin q ⊢
  simp only [wpP, List.set]
  refine ⟨by simp, ?_⟩
  simp only [List.getElem?_cons_succ, List.getElem?_cons_zero, Option.join_some, ws_some, c_isnt, is_opt, Option.map_some, t_bl]
  cases a with
  | none =>
    simp only [Option.isNone, Bool.not_true, Bool.false_eq_true, if_false]
    exact q
  | some b =>
    have hb := hin b rfl
    simp only [Option.isNone, Bool.not_false, if_true, macM, mac2, ws_some, optD]
    rw [ans_at (by rw [L.al]; exact hb), ws_some]
    exact q
theorem seen_spec {N m : Nat} {M : Mac} (L : WM m M) {a : Option Nat} (ha : InS M.found.length a) {h : Hm} {Q : VQ} {E : XP} (q : Q (tlD (tellF M a)) h) : FW P (N + 1) 152 [macM M, optD a] h Q E := by
  refine fw_open (d := D152) rfl rfl ?_
  unfold D152
  simp only [List.map, List.replicate, List.cons_append, List.nil_append]
  rw [wpSs, wpS]
  exact tl_e L rfl rfl ha q
theorem tfrom_spec {N m : Nat} {M : Mac} (L : WM m M) {a : Option Nat} (ha : InS M.found.length a) {row : List Nat} (hr : okW m row) {h : Hm} {Q : VQ} {E : XP} (q : Q (tlD (tellF M (runF M.found a row))) h) : FW P (N + 2) 173 [macM M, optD a, .tup (natsD row)] h Q E := by
  refine fw_open (d := D173) rfl rfl ?_
  unfold D173
  simp only [List.map, List.replicate, List.cons_append, List.nil_append]
  rw [wpSs, wpS, wpE]
  simp only [wpEs, wpE, List.getElem?_cons_succ, List.getElem?_cons_zero, Option.join_some, ws_some, permD, List.append_nil]
  refine from_spec L ha hr ?_
  simp only [wpP, List.set]
  refine ⟨by simp, ?_⟩
  rw [wpSs, wpS]
  exact tl_e L rfl rfl (run_in L ha hr) q
theorem eq_tl (a b : Option (List Int)) : eqD (tlD a) (tlD b) = decide (a = b) := by
  cases a with
  | none => cases b <;> simp [tlD, rowD, eqD]
  | some a =>
    cases b with
    | none => simp [tlD, rowD, eqD]
    | some b =>
      simp only [tlD, rowD, eqD, eqDs_ints, Option.some.injEq]
theorem pure_tl (a : Option (List Int)) : pureD (tlD a) = true ∧ dep (tlD a) ≤ 1 := by
  cases a with
  | none => exact ⟨rfl, Nat.zero_le _⟩
  | some l =>
    obtain ⟨h1, h2⟩ := pure_ints l
    exact ⟨by simp only [tlD, rowD, pureD]; exact h1, by simp only [tlD, rowD, dep, h2]; omega⟩
theorem ne_tl {h : Hm} (a b : Option (List Int)) : cmpS .ne (tlD a) (tlD b) h = some (!decide (a = b)) := by
  show (eqv h (tlD a) (tlD b)).map not = _
  rw [eqv_pure (pure_tl a).1 (pure_tl b).1 (Or.inl (by have := (pure_tl a).2; omega)), eq_tl]; rfl
end M11

end
section
set_option Elab.async false
set_option linter.all false
set_option autoImplicit false
/-! drawn: rows mixed, sums, conditions -/
namespace M11
open M
theorem nats_erase : ∀ (L : List Nat) (k : Nat), natsD (L.eraseIdx k) = (natsD L).eraseIdx k
  | [], k => rfl
  | x :: L, 0 => rfl
  | x :: L, k + 1 => by
    have := nats_erase L k
    unfold natsD at this ⊢
    rw [List.eraseIdx_cons_succ, List.map_cons, this, List.map_cons, List.eraseIdx_cons_succ]
theorem b_popI {h : Hm} {a k : Nat} {L : List Nat} (e : h[a]? = some (.lst (natsD L))) (hk : k < L.length) (hl : L.length ≤ 1000) : bltS .popI [.ref a, .int (k : Int)] h = some (.int ((L.getD k 0 : Nat) : Int), h.set a (.lst (natsD (L.eraseIdx k)))) := by
  have em : getM h a = some (natsD L) := by unfold getM; rw [e]
  have hs : small (k : Int) = true := by
    unfold small
    rw [Bool.and_eq_true, decide_eq_true_eq, decide_eq_true_eq]
    omega
  have hx : ixN (natsD L).length (k : Int) = some k := by
    unfold ixN natsD
    rw [List.length_map, if_pos (by omega), if_pos (by omega)]
    simp
  have hg : (natsD L)[k]? = some (.int ((L.getD k 0 : Nat) : Int)) := by
    unfold natsD
    rw [List.getElem?_map, List.getElem?_eq_getElem hk, List.getD_eq_getElem?_getD, List.getElem?_eq_getElem hk]; rfl
  simp only [bltS]
  rw [if_pos hs, em]
  simp only [Option.bind_some, hx, hg, Option.map_some]
  rw [nats_erase]
theorem mixed_spec {N : Nat} {w : Nat} {L : List Nat} (hL : ∀ x ∈ L, x < w) (hl : L.length ≤ 10) {h : Hm} {a r : Nat} {Q : VQ} {E : XP} (bx : BX h a) (hr : h[r]? = some (.lst (natsD L))) (hra : r ≠ a) (k : ∀ (L' : List Nat) r' h', L'.length = L.length → (∀ x ∈ L', x < w) → h.length ≤ r' → h'[r']? = some (.lst (natsD L')) → BX h' a → MX a h h' → Q (.ref r') h') : FW P (N + 2) 138 [.ref a, .ref r] h Q E := by
  refine fw_open (d := D138) rfl rfl ?_
  unfold D138
  simp only [wpSs, wpS, wpE, wpEs, wpCs, wpP, wpPs, List.map, List.replicate, List.cons_append, List.nil_append, List.append_nil, List.getElem?_cons_zero, List.getElem?_cons_succ, jn, ws_some, List.length_cons, List.length_nil, List.set, at0, at1, at2, idx_tup, c_gt, c_lt, c_le, c_ge, c_is, c_isnt, c_eqI, c_neI, c_eqS, c_neS, c_eqB, c_neB, isS, isNonD, isBlD, t_bl, b_int, b_abs, b_max2, b_min2, b_lenT, o_add, o_sub, permD, Option.map_some]
  rw [b_listL hr, ws_some]
  refine ⟨by simp, by simp, ?_⟩
  have hl1 : (h ++ [Cell.lst (natsD L)]).length = h.length + 1 := by simp
  have hal := bx.lt
  rw [hl1]
  have p2 : h <+: h ++ [Cell.lst (natsD L)] ++ [.lst []] := pre_one.trans pre_one
  have e3 : (h ++ [Cell.lst (natsD L)] ++ [.lst []])[h.length]? = some (.lst (natsD L)) := pre_at pre_one last_at
  have e4 : (h ++ [Cell.lst (natsD L)] ++ [.lst []])[h.length + 1]? = some (.lst (natsD [])) := by
    rw [← hl1]; exact last_at
  have bx2 := bx.pre p2
  rw [b_lenL (pre_at p2 hr), ws_some]
  have hnl : ∀ L : List Nat, (natsD L).length = L.length := fun L => by unfold natsD; rw [List.length_map]
  rw [hnl, it_range (by omega) (by omega), ws_some]
  generalize h ++ [Cell.lst (natsD L)] ++ [.lst []] = h2 at p2 e3 e4 bx2 ⊢
  refine forL_inv (fun l env h' => ∃ (j : Nat) (A B : List Nat) (e2 : Option D), l = (rngD 0 (L.length : Int).toNat).drop j ∧ j ≤ L.length ∧ A.length + B.length = L.length ∧ B.length = j ∧ (∀ x ∈ A, x < w) ∧ (∀ x ∈ B, x < w) ∧ h'[h.length]? = some (.lst (natsD A)) ∧ h'[h.length + 1]? = some (.lst (natsD B)) ∧ BX h' a ∧ MX a h h' ∧ env = [some (.ref a), some (.ref r), e2, some (.ref h.length), some (.ref (h.length + 1))])
    (fun _ _ _ _ => still_nil) (fun x l env h' R hi kk => ?_) (fun env h' hi => ?_) _ _ _ ⟨0, L, [], _, rfl, by omega, by simp, rfl, hL, (fun x hx => nomatch hx), e3, e4, bx2, MX.pre p2, rfl⟩
  · obtain ⟨j, A, B, e2, hj, hjl, hAB, hBj, hA, hB, eA, eB, bxh, mx, rfl⟩ := hi
    have hjn : j < (L.length : Int).toNat := by
      rcases Nat.lt_or_ge j (L.length : Int).toNat with z | z
      · exact z
      · rw [rng_end z] at hj; cases hj
    rw [rng_drop hjn] at hj
    cases hj
    simp only [wpSs, wpS, wpE, wpEs, wpCs, wpP, wpPs, List.map, List.replicate, List.cons_append, List.nil_append, List.append_nil, List.getElem?_cons_zero, List.getElem?_cons_succ, jn, ws_some, List.length_cons, List.length_nil, List.set, at0, at1, at2, idx_tup, c_gt, c_lt, c_le, c_ge, c_is, c_isnt, c_eqI, c_neI, c_eqS, c_neS, c_eqB, c_neB, isS, isNonD, isBlD, t_bl, b_int, b_abs, b_max2, b_min2, b_lenT, o_add, o_sub, permD, Option.map_some]
    refine ⟨by simp, rec_app eB, (by show (getL h' _).isSome = true; unfold getL; rw [eA]; rfl), ?_⟩
    rw [b_lenL eA, ws_some, hnl]
    refine take_bx (n := N) bxh (by omega) (by omega) fun d h3 d0 d1 bx3 mx3 => ?_
    obtain ⟨k0, rfl⟩ : ∃ k0 : Nat, d = (k0 : Int) := ⟨d.toNat, by omega⟩
    have eA3 := mx3.cell eA (show h.length ≠ a by omega)
    have eB3 := mx3.cell eB (show h.length + 1 ≠ a by omega)
    rw [b_popI eA3 (by omega) (by omega), ws_some]
    have eB4 : (h3.set h.length (.lst (natsD (A.eraseIdx k0))))[h.length + 1]? = some (.lst (natsD B)) := by
      rw [List.getElem?_set_ne (by omega)]; exact eB3
    rw [app_at eB4 (by rw [hnl]; omega), ws_some]
    have hgm : A.getD k0 0 ∈ A := by
      rw [List.getD_eq_getElem?_getD, List.getElem?_eq_getElem (by omega)]
      exact List.getElem_mem _
    refine kk _ _ ⟨j + 1, A.eraseIdx k0, B ++ [A.getD k0 0], _, rfl, by omega, ?_, by simp [hBj], fun x hx => hA x (List.mem_of_mem_eraseIdx hx), fun x hx => ?_, ?_, ?_, ?_, ?_, rfl⟩
    · rw [List.length_eraseIdx_of_lt (by omega), List.length_append, List.length_singleton]; omega
    · rcases List.mem_append.mp hx with hx | hx
      · exact hB x hx
      · rw [List.mem_singleton.mp hx]; exact hA _ hgm
    · rw [List.getElem?_set_ne (by omega)]; exact set_at eA3
    · rw [set_at eB4]
      unfold natsD
      rw [List.map_append]; rfl
    · exact (bx3.set (by omega) _).set (by omega) _
    · exact ((mx.trans mx3).set_new (Nat.le_refl _) _).set_new (by omega) _
  · obtain ⟨j, A, B, e2, hj, hjl, hAB, hBj, hA, hB, eA, eB, bxh, mx, rfl⟩ := hi
    have hjn : (L.length : Int).toNat ≤ j := by
      rcases Nat.lt_or_ge j (L.length : Int).toNat with z | z
      · rw [rng_drop z] at hj; cases hj
      · exact z
    exact k B _ h' (by omega) hB (by omega) eB bxh mx
theorem asum_spec {N : Nat} {w : Nat} (hw1 : 1 ≤ w) (hw2 : w ≤ 10) {xs : List D} (hx : xs.length = w) {h : Hm} {a r : Nat} {Q : VQ} {E : XP} (bx : BX h a) (hr : h[r]? = some (.lst xs)) (hra : r ≠ a) (k : ∀ (s : Sm) h', OKS w s → dS s ≤ 1 → BX h' a → MX a h h' → Q (smD s) h') : FW P (N + 3) 165 [.ref a, .ref r] h Q E := by
  refine fw_open (d := D165) rfl rfl ?_
  unfold D165
  simp only [wpSs, wpS, wpE, wpEs, wpCs, wpP, wpPs, List.map, List.replicate, List.cons_append, List.nil_append, List.append_nil, List.getElem?_cons_zero, List.getElem?_cons_succ, jn, ws_some, List.length_cons, List.length_nil, List.set, at0, at1, at2, idx_tup, c_gt, c_lt, c_le, c_ge, c_is, c_isnt, c_eqI, c_neI, c_eqS, c_neS, c_eqB, c_neB, isS, isNonD, isBlD, t_bl, b_int, b_abs, b_max2, b_min2, b_lenT, o_add, o_sub, permD, Option.map_some]
  rw [b_lenL hr, ws_some]
  refine take_bx (n := N + 1) bx (by omega) (by omega) fun d h1 d0 d1 bx1 mx1 => ?_
  refine take_bx (n := N + 1) bx1 (by omega) (by omega) fun d2 h2 d20 d21 bx2 mx2 => ?_
  have mx := mx1.trans mx2
  refine ⟨by simp, by simp, ?_⟩
  obtain ⟨c, rfl⟩ : ∃ c : Nat, d = (c : Int) := ⟨d.toNat, by omega⟩
  simp only [c_eqI, c_lt, ws_some, t_bl, o_add]
  by_cases c0 : d2 = 0
  · rw [decide_eq_true c0, if_pos rfl]
    refine take_bx (n := N + 1) bx2 (by omega) (by omega) fun d3 h3 d30 d31 bx3 mx3 => ?_
    exact k (.num d3) h3 trivial (by simp [dS]) bx3 (mx.trans mx3)
  rw [decide_eq_false c0, if_neg (by decide)]
  by_cases c1 : d2 = 1
  · rw [decide_eq_true c1, if_pos rfl]
    exact k (.cnt c) h2 (show c < w by omega) (by simp [dS]) bx2 mx
  rw [decide_eq_false c1, if_neg (by decide)]
  by_cases c2 : d2 < 4
  · rw [decide_eq_true c2, if_pos rfl]
    refine take_bx (n := N + 1) bx2 (by omega) (by omega) fun d3 h3 d30 d31 bx3 mx3 => ?_
    exact k (.bin .plus (.cnt c) (.num (1 + d3))) h3 ⟨show c < w by omega, trivial⟩ (by simp [dS]) bx3 (mx.trans mx3)
  rw [decide_eq_false c2, if_neg (by decide)]
  by_cases c3 : d2 = 4
  · rw [decide_eq_true c3, if_pos rfl]
    exact k (.bin .minus (.cnt c) (.num 1)) h2 ⟨show c < w by omega, trivial⟩ (by simp [dS]) bx2 mx
  rw [decide_eq_false c3, if_neg (by decide)]
  have hal := bx2.lt
  refine pick_bx (n := N) (bx2.pre pre_one) (by omega) last_at (by simp) (by simp) fun s hs h3 bx3 mx3 => ?_
  have mx23 : MX a h2 h3 := (MX.pre pre_one).trans mx3
  have er := (mx.trans mx23).cell hr hra
  rw [b_lenL er, ws_some]
  refine take_bx (n := N + 1) bx3 (by omega) (by omega) fun d3 h4 d30 d31 bx4 mx4 => ?_
  obtain ⟨c', rfl⟩ : ∃ c : Nat, d3 = (c : Int) := ⟨d3.toNat, by omega⟩
  have mm := (mx.trans mx23).trans mx4
  simp only [List.mem_cons, List.not_mem_nil, or_false] at hs
  rcases hs with rfl | rfl | rfl
  · exact k (.bin .least (.cnt c) (.cnt c')) h4 ⟨show c < w by omega, show c' < w by omega⟩ (by simp [dS]) bx4 mm
  · exact k (.bin .most (.cnt c) (.cnt c')) h4 ⟨show c < w by omega, show c' < w by omega⟩ (by simp [dS]) bx4 mm
  · exact k (.bin .plus (.cnt c) (.cnt c')) h4 ⟨show c < w by omega, show c' < w by omega⟩ (by simp [dS]) bx4 mm
def T166 : List CS := [
  .ite (.cmp .lt (.loc 3) (.lit (.int (3)))) [
    .ret (.tup [(.call 18 [(.loc 0), (.lst [(.lit (.str [108, 101, 115, 115])), (.lit (.str [115, 97, 109, 101]))])] [] [0, 1]), (.tup [(.lit (.str [99, 111, 117, 110, 116])), (.call 113 [(.loc 0), (.blt .len [(.loc 1)])] [] [0, 1])]), (.tup [(.lit (.str [110, 117, 109, 98, 101, 114])), (.call 113 [(.loc 0), (.lit (.int (3)))] [] [0, 1])])])] [],
  .ite (.cmp .eq (.loc 3) (.lit (.int (3)))) [
    .ret (.tup [(.call 18 [(.loc 0), (.lst [(.lit (.str [108, 101, 115, 115])), (.lit (.str [115, 97, 109, 101]))])] [] [0, 1]), (.call 165 [(.loc 0), (.loc 1)] [] [0, 1]), (.call 165 [(.loc 0), (.loc 1)] [] [0, 1])])] [],
  .ite (.cmp .eq (.loc 3) (.lit (.int (4)))) [
    .ret (.tup [(.lit (.str [110, 111, 116])), (.call 166 [(.loc 0), (.loc 1), (.bin .sub (.loc 2) (.lit (.int (1))))] [] [0, 1, 2])])] [],
  .ret (.tup [(.call 18 [(.loc 0), (.lst [(.lit (.str [97, 110, 100])), (.lit (.str [111, 114]))])] [] [0, 1]), (.call 166 [(.loc 0), (.loc 1), (.bin .sub (.loc 2) (.lit (.int (1))))] [] [0, 1, 2]), (.call 166 [(.loc 0), (.loc 1), (.bin .sub (.loc 2) (.lit (.int (1))))] [] [0, 1, 2])])]
theorem d166_eq : D166 = ⟨3, 4, .asg (.slot 3) (.call 113 [(.loc 0), (.ife (.cmp .gt (.loc 2) (.lit (.int (0)))) (.lit (.int (6))) (.lit (.int (4))))] [] [0, 1]) :: T166⟩ := rfl
theorem awhen_tail {M w : Nat} (hw1 : 1 ≤ w) (hw2 : w ≤ 10) {xs : List D} (hx : xs.length = w) {a r : Nat} (hra : r ≠ a) {deep : Nat} {E : XP} (IH : 0 < deep → ∀ (h : Hm) (Q : VQ), BX h a → h[r]? = some (.lst xs) → (∀ (s : Wh) h', OKW w s → dW s ≤ deep + 1 → BX h' a → MX a h h' → Q (whD s) h') → FW P (M + 3) 166 [.ref a, .ref r, .int ((deep : Int) - 1)] h Q E) {d : Int} (hd : 4 ≤ d → 0 < deep) {h1 : Hm} (bx1 : BX h1 a) (er1 : h1[r]? = some (.lst xs)) {Z : Ends} (k : ∀ (s : Wh) h', OKW w s → dW s ≤ deep + 2 → BX h' a → MX a h1 h' → Z.rt (whD s) h') :
    wpSs (FW P (M + 3)) E T166 [some (.ref a), some (.ref r), some (.int (deep : Int)), some (.int d)] h1 Z := by
  have hal := bx1.lt
  unfold T166
  simp only [wpSs, wpS, wpE, wpEs, wpCs, wpP, wpPs, List.map, List.replicate, List.cons_append, List.nil_append, List.append_nil, List.getElem?_cons_zero, List.getElem?_cons_succ, jn, ws_some, List.length_cons, List.length_nil, List.set, at0, at1, at2, idx_tup, c_gt, c_lt, c_le, c_ge, c_is, c_isnt, c_eqI, c_neI, c_eqS, c_neS, c_eqB, c_neB, isS, isNonD, isBlD, t_bl, b_int, b_abs, b_max2, b_min2, b_lenT, o_add, o_sub, permD, Option.map_some]
  by_cases c0 : d < 3
  · rw [decide_eq_true c0, if_pos rfl]
    refine pick_bx (n := M + 1) (bx1.pre pre_one) (by omega) last_at (by simp) (by simp) fun s hs h2 bx2 mx2 => ?_
    have mx02 : MX a h1 h2 := (MX.pre pre_one).trans mx2
    rw [b_lenL (mx02.cell er1 hra), ws_some]
    refine take_bx (n := M + 2) bx2 (by omega) (by omega) fun d2 h3 d20 d21 bx3 mx3 => ?_
    refine take_bx (n := M + 2) bx3 (by omega) (by omega) fun d3 h4 d30 d31 bx4 mx4 => ?_
    obtain ⟨c, rfl⟩ : ∃ c : Nat, d2 = (c : Int) := ⟨d2.toNat, by omega⟩
    have mm4 := (mx02.trans mx3).trans mx4
    simp only [List.mem_cons, List.not_mem_nil, or_false] at hs
    rcases hs with rfl | rfl
    · exact k (.less (.cnt c) (.num d3)) h4 ⟨show c < w by omega, trivial⟩ (by simp [dW, dS]) bx4 mm4
    · exact k (.same (.cnt c) (.num d3)) h4 ⟨show c < w by omega, trivial⟩ (by simp [dW, dS]) bx4 mm4
  rw [decide_eq_false c0, if_neg (by decide)]
  by_cases c1 : d = 3
  · rw [decide_eq_true c1, if_pos rfl]
    refine pick_bx (n := M + 1) (bx1.pre pre_one) (by omega) last_at (by simp) (by simp) fun s hs h2 bx2 mx2 => ?_
    have mx02 : MX a h1 h2 := (MX.pre pre_one).trans mx2
    refine asum_spec (N := M) hw1 hw2 hx bx2 (mx02.cell er1 hra) hra fun s1 h3 o1 b1 bx3 mx3 => ?_
    refine asum_spec (N := M) hw1 hw2 hx bx3 ((mx02.trans mx3).cell er1 hra) hra fun s2 h4 o2 b2 bx4 mx4 => ?_
    have mm4 := (mx02.trans mx3).trans mx4
    simp only [List.mem_cons, List.not_mem_nil, or_false] at hs
    rcases hs with rfl | rfl
    · exact k (.less s1 s2) h4 ⟨o1, o2⟩ (by simp only [dW]; omega) bx4 mm4
    · exact k (.same s1 s2) h4 ⟨o1, o2⟩ (by simp only [dW]; omega) bx4 mm4
  rw [decide_eq_false c1, if_neg (by decide)]
  have IH := IH (hd (by omega))
  by_cases c2 : d = 4
  · rw [decide_eq_true c2, if_pos rfl]
    refine IH h1 _ bx1 er1 fun s1 h3 o1 b1 bx3 mx3 => ?_
    exact k (.not s1) h3 o1 (by simp only [dW]; omega) bx3 mx3
  · rw [decide_eq_false c2, if_neg (by decide)]
    refine pick_bx (n := M + 1) (bx1.pre pre_one) (by omega) last_at (by simp) (by simp) fun s hs h2 bx2 mx2 => ?_
    have mx02 : MX a h1 h2 := (MX.pre pre_one).trans mx2
    refine IH h2 _ bx2 (mx02.cell er1 hra) fun s1 h3 o1 b1 bx3 mx3 => ?_
    refine IH h3 _ bx3 ((mx02.trans mx3).cell er1 hra) fun s2 h4 o2 b2 bx4 mx4 => ?_
    have mm4 := (mx02.trans mx3).trans mx4
    simp only [List.mem_cons, List.not_mem_nil, or_false] at hs
    rcases hs with rfl | rfl
    · exact k (.and s1 s2) h4 ⟨o1, o2⟩ (by simp only [dW]; omega) bx4 mm4
    · exact k (.or s1 s2) h4 ⟨o1, o2⟩ (by simp only [dW]; omega) bx4 mm4
theorem awhen_spec {w : Nat} (hw1 : 1 ≤ w) (hw2 : w ≤ 10) {xs : List D} (hx : xs.length = w) {a r : Nat} (hra : r ≠ a) {E : XP} : ∀ (deep M : Nat) (h : Hm) (Q : VQ), BX h a → h[r]? = some (.lst xs) → (∀ (s : Wh) h', OKW w s → dW s ≤ deep + 2 → BX h' a → MX a h h' → Q (whD s) h') → FW P (M + 4 + deep) 166 [.ref a, .ref r, .int (deep : Int)] h Q E := by
  intro deep
  induction deep with
  | zero =>
    intro M h Q bx hr k
    refine fw_open (n := M + 3) (d := D166) rfl rfl ?_
    rw [d166_eq]
    simp only [wpSs, wpS, wpE, wpEs, wpCs, wpP, wpPs, List.map, List.replicate, List.cons_append, List.nil_append, List.append_nil, List.getElem?_cons_zero, List.getElem?_cons_succ, jn, ws_some, List.length_cons, List.length_nil, List.set, at0, at1, at2, idx_tup, c_gt, c_lt, c_le, c_ge, c_is, c_isnt, c_eqI, c_neI, c_eqS, c_neS, c_eqB, c_neB, isS, isNonD, isBlD, t_bl, b_int, b_abs, b_max2, b_min2, b_lenT, o_add, o_sub, permD, Option.map_some]
    rw [show decide ((0 : Int) < ((0 : Nat) : Int)) = false from rfl, if_neg (by decide)]
    refine take_bx (n := M + 2) bx (by omega) (by omega) fun d h1 d0 d1 bx1 mx1 => ?_
    refine ⟨by omega, ?_⟩
    exact awhen_tail (M := M) hw1 hw2 hx hra (deep := 0) (fun z => absurd z (Nat.lt_irrefl 0)) (fun z => by omega) bx1 (mx1.cell hr hra) fun s h' o b bx2 mx2 => k s h' o b bx2 (mx1.trans mx2)
  | succ deep ih =>
    intro M h Q bx hr k
    refine fw_open (n := M + 4 + deep) (d := D166) rfl rfl ?_
    rw [d166_eq]
    simp only [wpSs, wpS, wpE, wpEs, wpCs, wpP, wpPs, List.map, List.replicate, List.cons_append, List.nil_append, List.append_nil, List.getElem?_cons_zero, List.getElem?_cons_succ, jn, ws_some, List.length_cons, List.length_nil, List.set, at0, at1, at2, idx_tup, c_gt, c_lt, c_le, c_ge, c_is, c_isnt, c_eqI, c_neI, c_eqS, c_neS, c_eqB, c_neB, isS, isNonD, isBlD, t_bl, b_int, b_abs, b_max2, b_min2, b_lenT, o_add, o_sub, permD, Option.map_some]
    rw [decide_eq_true (by omega : (0 : Int) < ((deep + 1 : Nat) : Int)), if_pos rfl]
    have e : M + 4 + deep = (M + 1 + deep) + 3 := by omega
    have IH := ih M
    rw [e] at IH ⊢
    refine take_bx (n := M + 1 + deep + 2) bx (by omega) (by omega) fun d h1 d0 d1 bx1 mx1 => ?_
    refine ⟨by omega, ?_⟩
    refine awhen_tail (M := M + 1 + deep) hw1 hw2 hx hra (deep := deep + 1) (fun _ h Q b c f => ?_) (fun z => by omega) bx1 (mx1.cell hr hra) fun s h' o b bx2 mx2 => k s h' o b bx2 (mx1.trans mx2)
    rw [show ((deep + 1 : Nat) : Int) - 1 = (deep : Int) by omega]
    exact IH h Q b c f
end M11

end
section
set_option Elab.async false
set_option linter.all false
set_option autoImplicit false
/-! drawn rules -/
namespace M11
open M
theorem str_ok : ∀ k : Fin 10, (sOK (strI (k.val : Int)) && decide ((strI (k.val : Int)).length ≤ 10)) = true := by decide +kernel
theorem b_str {k : Nat} (hk : k < 10) {h : Hm} : bltS .str1 [.int (k : Int)] h = some (.str (strI (k : Int)), h) := by
  have := str_ok ⟨k, hk⟩
  rw [Bool.and_eq_true] at this
  have hs : small (k : Int) = true := by
    unfold small
    rw [Bool.and_eq_true, decide_eq_true_eq, decide_eq_true_eq]
    omega
  simp only [bltS]
  rw [if_pos ⟨hs, this.1⟩]
theorem o_adds {k : Nat} (hk : k < 10) {c : Nat} {h : Hm} : binS .add (.str [c]) (.str (strI (k : Int))) h = some (.str (c :: strI (k : Int)), h) := by
  have := str_ok ⟨k, hk⟩
  rw [Bool.and_eq_true, decide_eq_true_eq] at this
  simp only [binS]
  rw [if_pos (by have := this.2; simp at this ⊢; unfold LIM; omega)]
  rfl
abbrev EV (a n : Nat) (e1 e2 e7 e8 e9 e10 e11 e12 e13 e14 e15 : Option D) : Env := [some (.ref a), e1, e2, some (.ref n), some (.ref (n + 1)), some (.ref (n + 2)), some (.ref (n + 3)), e7, e8, e9, e10, e11, e12, e13, e14, e15]
/-- the state of a drawing of rules -/
structure AR (h0 h : Hm) (a n : Nat) (gs : List Rg) (ds : List Dd) (ls : List (Bool × Wh)) (qs : List (List Nat × Ql)) : Prop where
  al : a < h0.length
  nl : h0.length ≤ n
  bx : BX h a
  mx : MX a h0 h
  e3 : h[n]? = some (.lst (gs.map rgD))
  e4 : h[n + 1]? = some (.lst (ds.map ddD))
  e5 : h[n + 2]? = some (.lst (ls.map lwD))
  e6 : h[n + 3]? = some (.lst (qs.map quD))
section
variable {h0 h : Hm} {a n : Nat} {gs : List Rg} {ds : List Dd} {ls : List (Bool × Wh)} {qs : List (List Nat × Ql)}
theorem AR.sub (A : AR h0 h a n gs ds ls qs) {h2 : Hm} (b : BX h2 a) (x : MX a h h2) : AR h0 h2 a n gs ds ls qs := by
  have h1 := A.al
  have h2 := A.nl
  exact ⟨A.al, A.nl, b, A.mx.trans x, x.cell A.e3 (by omega), x.cell A.e4 (by omega), x.cell A.e5 (by omega), x.cell A.e6 (by omega)⟩
theorem AR.pre (A : AR h0 h a n gs ds ls qs) {h2 : Hm} (p : h <+: h2) : AR h0 h2 a n gs ds ls qs := A.sub (A.bx.pre p) (MX.pre p)
theorem AR.new (A : AR h0 h a n gs ds ls qs) {i : Nat} (hi : n + 4 ≤ i) (c : Cell) : AR h0 (h.set i c) a n gs ds ls qs := by
  have h1 := A.al
  have h2 := A.nl
  refine ⟨A.al, A.nl, A.bx.set (by omega) _, A.mx.set_new (by omega) _, ?_, ?_, ?_, ?_⟩
  · rw [List.getElem?_set_ne (by omega)]; exact A.e3
  · rw [List.getElem?_set_ne (by omega)]; exact A.e4
  · rw [List.getElem?_set_ne (by omega)]; exact A.e5
  · rw [List.getElem?_set_ne (by omega)]; exact A.e6
theorem AR.put3 (A : AR h0 h a n gs ds ls qs) (g : Rg) : AR h0 (h.set n (.lst (gs.map rgD ++ [rgD g]))) a n (gs ++ [g]) ds ls qs := by
  have h1 := A.al
  have h2 := A.nl
  refine ⟨A.al, A.nl, A.bx.set (by omega) _, A.mx.set_new (by omega) _, ?_, ?_, ?_, ?_⟩
  · rw [set_at A.e3, List.map_append]; rfl
  · rw [List.getElem?_set_ne (by omega)]; exact A.e4
  · rw [List.getElem?_set_ne (by omega)]; exact A.e5
  · rw [List.getElem?_set_ne (by omega)]; exact A.e6
theorem AR.put4 (A : AR h0 h a n gs ds ls qs) (g : Dd) : AR h0 (h.set (n + 1) (.lst (ds.map ddD ++ [ddD g]))) a n gs (ds ++ [g]) ls qs := by
  have h1 := A.al
  have h2 := A.nl
  refine ⟨A.al, A.nl, A.bx.set (by omega) _, A.mx.set_new (by omega) _, ?_, ?_, ?_, ?_⟩
  · rw [List.getElem?_set_ne (by omega)]; exact A.e3
  · rw [set_at A.e4, List.map_append]; rfl
  · rw [List.getElem?_set_ne (by omega)]; exact A.e5
  · rw [List.getElem?_set_ne (by omega)]; exact A.e6
theorem AR.put5 (A : AR h0 h a n gs ds ls qs) (g : Bool × Wh) : AR h0 (h.set (n + 2) (.lst (ls.map lwD ++ [lwD g]))) a n gs ds (ls ++ [g]) qs := by
  have h1 := A.al
  have h2 := A.nl
  refine ⟨A.al, A.nl, A.bx.set (by omega) _, A.mx.set_new (by omega) _, ?_, ?_, ?_, ?_⟩
  · rw [List.getElem?_set_ne (by omega)]; exact A.e3
  · rw [List.getElem?_set_ne (by omega)]; exact A.e4
  · rw [set_at A.e5, List.map_append]; rfl
  · rw [List.getElem?_set_ne (by omega)]; exact A.e6
theorem AR.put6 (A : AR h0 h a n gs ds ls qs) (g : List Nat × Ql) : AR h0 (h.set (n + 3) (.lst (qs.map quD ++ [quD g]))) a n gs ds ls (qs ++ [g]) := by
  have h1 := A.al
  have h2 := A.nl
  refine ⟨A.al, A.nl, A.bx.set (by omega) _, A.mx.set_new (by omega) _, ?_, ?_, ?_, ?_⟩
  · rw [List.getElem?_set_ne (by omega)]; exact A.e3
  · rw [List.getElem?_set_ne (by omega)]; exact A.e4
  · rw [List.getElem?_set_ne (by omega)]; exact A.e5
  · rw [set_at A.e6, List.map_append]; rfl
end
/-- what a drawing of rules calls -/
structure DF (F : FnS) : Prop where
  take : ∀ (h : Hm) (a : Nat) (many : Int) (Q : VQ) (E : XP), BX h a → 0 < many → many < 1000000 → (∀ (d : Int) h', 0 ≤ d → d < many → BX h' a → MX a h h' → Q (.int d) h') → F 113 [.ref a, .int many] h Q E
  pick : ∀ (h : Hm) (a r : Nat) (xs : List D) (Q : VQ) (E : XP), BX h a → r ≠ a → h[r]? = some (.lst xs) → xs ≠ [] → xs.length < 1000000 → (∀ d ∈ xs, ∀ h', BX h' a → MX a h h' → Q d h') → F 18 [.ref a, .ref r] h Q E
  mix : ∀ (w : Nat) (L : List Nat) (h : Hm) (a r : Nat) (Q : VQ) (E : XP), (∀ x ∈ L, x < w) → L.length ≤ 10 → BX h a → h[r]? = some (.lst (natsD L)) → r ≠ a → (∀ (L' : List Nat) r' h', L'.length = L.length → (∀ x ∈ L', x < w) → h.length ≤ r' → h'[r']? = some (.lst (natsD L')) → BX h' a → MX a h h' → Q (.ref r') h') → F 138 [.ref a, .ref r] h Q E
  sum : ∀ (w : Nat) (xs : List D) (h : Hm) (a r : Nat) (Q : VQ) (E : XP), 1 ≤ w → w ≤ 10 → xs.length = w → BX h a → h[r]? = some (.lst xs) → r ≠ a → (∀ (s : Sm) h', OKS w s → dS s ≤ 1 → BX h' a → MX a h h' → Q (smD s) h') → F 165 [.ref a, .ref r] h Q E
  whn : ∀ (deep : Nat) (w : Nat) (xs : List D) (h : Hm) (a r : Nat) (Q : VQ) (E : XP), deep ≤ 1 → 1 ≤ w → w ≤ 10 → xs.length = w → BX h a → h[r]? = some (.lst xs) → r ≠ a → (∀ (s : Wh) h', OKW w s → dW s ≤ deep + 2 → BX h' a → MX a h h' → Q (whD s) h') → F 166 [.ref a, .ref r, .int (deep : Int)] h Q E
  holds : ∀ (row : List Int) (s : Wh) (rv : D) (h : Hm) (Q : VQ) (E : XP), dW s ≤ 10 → OKW row.length s → RWV h rv row → Q (.bl (holdsF row s)) h → F 156 [whD s, rv] h Q E
theorem DF.mk' {N : Nat} (hN : 20 ≤ N) : DF (FW P N) := by
  obtain ⟨n, rfl⟩ : ∃ n, N = n + 4 + 1 := ⟨N - 5, by omega⟩
  refine ⟨fun h a many Q E b m0 m1 k => take_bx (n := n + 4) b m0 m1 k, fun h a r xs Q E b hr er x0 xl k => pick_bx (n := n + 3) b hr er x0 xl k, fun w L h a r Q E hL hl b hr hra k => mixed_spec (N := n + 3) hL hl b hr hra k, fun w xs h a r Q E w1 w2 hx b hr hra k => asum_spec (N := n + 2) w1 w2 hx b hr hra k, fun deep w xs h a r Q E hd w1 w2 hx b hr hra k => ?_, fun row s rv h Q E hd ok hr k => holds_spec s (n + 4 + 1) rv h Q E (by omega) ok hr k⟩
  have : deep = 0 ∨ deep = 1 := by omega
  rcases this with rfl | rfl
  · exact awhen_spec w1 w2 hx hra 0 (n + 1) h Q b hr k
  · exact awhen_spec w1 w2 hx hra 1 n h Q b hr k
def OKG (g : Rg) : Prop := g.top ≤ 2 ∧ g.first ≤ g.top
def L1 : CS := .for_ (.slot 1) .range [(.bin .add (.lit (.int (1))) (.call 113 [(.loc 0), (.lit (.int (2)))] [] [0, 1]))] [
    .asg (.slot 7) (.bin .add (.lit (.int (1))) (.call 113 [(.loc 0), (.lit (.int (2)))] [] [0, 1])),
    .expr (.meth .append (.loc 3) [(.tup [(.bin .add (.lit (.str [114])) (.blt .str1 [(.loc 1)])), (.loc 7), (.call 18 [(.loc 0), (.lst [(.lit (.int (0))), (.lit (.int (0))), (.lit (.int (1)))])] [] [0, 1]), (.call 18 [(.loc 0), (.lst [(.lit (.str [104, 101, 108, 100])), (.lit (.str [114, 111, 117, 110, 100])), (.lit (.str [114, 111, 117, 110, 100]))])] [] [0, 1])])])]
theorem l1 {F : FnS} (C : DF F) {E : XP} {h0 h : Hm} {a n : Nat} {ds : List Dd} {ls : List (Bool × Wh)} {qs : List (List Nat × Ql)} (A : AR h0 h a n [] ds ls qs) {e1 e2 e7 e8 e9 e10 e11 e12 e13 e14 e15 : Option D} {Z : Ends}
    (q : ∀ h' gs e1 e7, AR h0 h' a n gs ds ls qs → (∀ g ∈ gs, OKG g) → 1 ≤ gs.length → gs.length ≤ 2 → Z.nx (EV a n e1 e2 e7 e8 e9 e10 e11 e12 e13 e14 e15) h') :
    wpS F E L1 (EV a n e1 e2 e7 e8 e9 e10 e11 e12 e13 e14 e15) h Z := by
  unfold L1
  simp only [EV, wpSs, wpS, wpE, wpEs, wpCs, wpP, wpPs, List.map, List.replicate, List.cons_append, List.nil_append, List.append_nil, List.getElem?_cons_zero, List.getElem?_cons_succ, jn, ws_some, List.length_cons, List.length_nil, List.set, at0, at1, at2, idx_tup, c_gt, c_lt, c_le, c_ge, c_is, c_isnt, c_eqI, c_neI, c_eqS, c_neS, c_eqB, c_neB, isS, isNonD, isBlD, t_bl, b_int, b_abs, b_max2, b_min2, b_lenT, o_add, o_sub, permD, Option.map_some]
  refine C.take _ _ _ _ _ A.bx (by omega) (by omega) fun d h1 d0 d1 bx1 mx1 => ?_
  have A := A.sub bx1 mx1
  rw [o_add, ws_some, it_range (by omega) (by omega), ws_some]
  refine forL_inv (fun l env h' => ∃ (j : Nat) (gs : List Rg) (e1 e7 : Option D), l = (rngD 0 (1 + d).toNat).drop j ∧ j ≤ 2 ∧ j ≤ (1 + d).toNat ∧ gs.length = j ∧ (∀ g ∈ gs, OKG g) ∧ AR h0 h' a n gs ds ls qs ∧ env = EV a n e1 e2 e7 e8 e9 e10 e11 e12 e13 e14 e15)
    (fun _ _ _ _ => still_nil) (fun x l env h' R hi kk => ?_) (fun env h' hi => ?_) _ _ _ ⟨0, [], _, _, rfl, by omega, by omega, rfl, (fun g hg => nomatch hg), A, rfl⟩
  · obtain ⟨j, gs, e1, e7, hj, j2, jl, gl, hg, A, rfl⟩ := hi
    have hjn : j < (1 + d).toNat := by
      rcases Nat.lt_or_ge j (1 + d).toNat with z | z
      · exact z
      · rw [rng_end z] at hj; cases hj
    rw [rng_drop hjn] at hj
    cases hj
    simp only [EV, wpSs, wpS, wpE, wpEs, wpCs, wpP, wpPs, List.map, List.replicate, List.cons_append, List.nil_append, List.append_nil, List.getElem?_cons_zero, List.getElem?_cons_succ, jn, ws_some, List.length_cons, List.length_nil, List.set, at0, at1, at2, idx_tup, c_gt, c_lt, c_le, c_ge, c_is, c_isnt, c_eqI, c_neI, c_eqS, c_neS, c_eqB, c_neB, isS, isNonD, isBlD, t_bl, b_int, b_abs, b_max2, b_min2, b_lenT, o_add, o_sub, permD, Option.map_some]
    refine ⟨by simp, ?_⟩
    refine C.take _ _ _ _ _ A.bx (by omega) (by omega) fun t h2 t0 t1 bx2 mx2 => ?_
    have A := A.sub bx2 mx2
    rw [o_add, ws_some]
    refine ⟨by simp, rec_app A.e3, ?_⟩
    rw [b_str (by omega), ws_some, o_adds (by omega), ws_some]
    dsimp only
    have al := A.al
    have nl := A.nl
    have hml := A.mx.len
    refine C.pick _ _ _ _ _ _ (A.bx.pre pre_one) (by omega) last_at (by simp) (by simp) fun f hf h3 bx3 mx3 => ?_
    have A := (A.pre (pre_one (c := .lst [.int 0, .int 0, .int 1]))).sub bx3 mx3
    have hml := A.mx.len
    refine C.pick _ _ _ _ _ _ (A.bx.pre pre_one) (by omega) last_at (by simp) (by simp) fun s hs h4 bx4 mx4 => ?_
    have A := (A.pre (pre_one (c := .lst [.str [104, 101, 108, 100], .str [114, 111, 117, 110, 100], .str [114, 111, 117, 110, 100]]))).sub bx4 mx4
    rw [app_at A.e3 (by rw [List.length_map]; omega), ws_some]
    obtain ⟨f', hf', rfl⟩ : ∃ f' : Nat, f' ≤ 1 ∧ f = .int (f' : Int) := by
      simp only [List.mem_cons, List.not_mem_nil, or_false] at hf
      rcases hf with rfl | rfl | rfl
      · exact ⟨0, by omega, rfl⟩
      · exact ⟨0, by omega, rfl⟩
      · exact ⟨1, by omega, rfl⟩
    obtain ⟨b, rfl⟩ : ∃ b : Bool, s = .str (if b then roundS else heldS) := by
      simp only [List.mem_cons, List.not_mem_nil, or_false] at hs
      rcases hs with rfl | rfl | rfl
      · exact ⟨false, rfl⟩
      · exact ⟨true, rfl⟩
      · exact ⟨true, rfl⟩
    obtain ⟨t', rfl⟩ : ∃ t' : Nat, t = (t' : Int) := ⟨t.toNat, by omega⟩
    have eg : D.tup [.str (114 :: strI (j : Int)), .int (1 + (t' : Int)), .int (f' : Int), .str (if b then roundS else heldS)] = rgD ⟨114 :: strI (j : Int), 1 + t', f', b⟩ := by
      unfold rgD
      simp
    rw [eg]
    refine kk _ _ ⟨j + 1, gs ++ [⟨114 :: strI (j : Int), 1 + t', f', b⟩], _, _, rfl, by omega, by omega, by simp [gl], fun g h => ?_, A.put3 _, rfl⟩
    rcases List.mem_append.mp h with h | h
    · exact hg g h
    · rw [List.mem_singleton.mp h]
      exact ⟨show 1 + t' ≤ 2 by omega, show f' ≤ 1 + t' by omega⟩
  · obtain ⟨j, gs, e1, e7, hj, j2, jl, gl, hg, A, rfl⟩ := hi
    have hjn : (1 + d).toNat ≤ j := by
      rcases Nat.lt_or_ge j (1 + d).toNat with z | z
      · rw [rng_drop z] at hj; cases hj
      · exact z
    exact q h' gs _ _ A hg (by omega) (by omega)
/-! ### deeds -/
def S8a : List CS := [
    .asg (.slot 10) (.tup [(.tup [(.ife (.cmp .gt (.call 113 [(.loc 0), (.lit (.int (3)))] [] [0, 1]) (.lit (.int (0)))) (.tup [(.lit (.str [121, 101, 115]))]) (.call 166 [(.loc 0), (.loc 3), (.lit (.int (0)))] [] [0, 1, 2])), (.loc 9)])]),
    .expr (.meth .append (.loc 4) [(.tup [(.bin .add (.lit (.str [100])) (.blt .str1 [(.loc 1)])), (.ife (.cmp .eq (.call 113 [(.loc 0), (.lit (.int (2)))] [] [0, 1]) (.lit (.int (0)))) (.tup [(.lit (.str [121, 101, 115]))]) (.call 166 [(.loc 0), (.loc 3), (.lit (.int (1)))] [] [0, 1, 2])), (.loc 10)])])]
def S8b : List CS := .ite (.and (.cmp .ne (.loc 8) (.lst [])) (.cmp .eq (.call 113 [(.loc 0), (.lit (.int (3)))] [] [0, 1]) (.lit (.int (0))))) [
      .asg (.slot 9) (.bin .add (.loc 9) (.tup [(.tup [(.meth .pop0 (.loc 8) []), (.call 165 [(.loc 0), (.loc 3)] [] [0, 1])])]))] [] :: S8a
def S8c : List CS := .asg (.slot 9) (.tup [(.tup [(.meth .pop0 (.loc 8) []), (.call 165 [(.loc 0), (.loc 3)] [] [0, 1])])]) :: S8b
def S8 : List CS := .asg (.slot 8) (.call 138 [(.loc 0), (.blt .lstRange [(.blt .len [(.loc 3)])])] [] [0, 1]) :: S8c
def L2' : CS := .for_ (.slot 1) .range [(.bin .add (.lit (.int (2))) (.call 113 [(.loc 0), (.lit (.int (2)))] [] [0, 1]))] S8
theorem yes_d : D.tup [.str [121, 101, 115]] = whD .yes := rfl
theorem s8a {F : FnS} (C : DF F) {E : XP} {h0 h : Hm} {a n : Nat} {gs : List Rg} {ds : List Dd} {ls : List (Bool × Wh)} {qs : List (List Nat × Ql)} (A : AR h0 h a n gs ds ls qs) (g1 : 1 ≤ gs.length) (g2 : gs.length ≤ 2) (hdl : ds.length ≤ 10) {k : Nat} (hk : k < 10) {ss : List (Nat × Sm)} (hss : ∀ s ∈ ss, s.1 < gs.length ∧ OKS gs.length s.2 ∧ dS s.2 ≤ 10) {e2 e7 e8 e10 e11 e12 e13 e14 e15 : Option D} {Z : Ends}
    (q : ∀ h' d e10, AR h0 h' a n gs (ds ++ [d]) ls qs → OKD gs.length d → Z.nx (EV a n (some (.int (k : Int))) e2 e7 e8 (some (.tup (ss.map stD))) e10 e11 e12 e13 e14 e15) h') :
    wpSs F E S8a (EV a n (some (.int (k : Int))) e2 e7 e8 (some (.tup (ss.map stD))) e10 e11 e12 e13 e14 e15) h Z := by
  unfold S8a
  simp only [EV, wpSs, wpS, wpE, wpEs, wpCs, wpP, wpPs, List.map, List.replicate, List.cons_append, List.nil_append, List.append_nil, List.getElem?_cons_zero, List.getElem?_cons_succ, jn, ws_some, List.length_cons, List.length_nil, List.set, at0, at1, at2, idx_tup, c_gt, c_lt, c_le, c_ge, c_is, c_isnt, c_eqI, c_neI, c_eqS, c_neS, c_eqB, c_neB, isS, isNonD, isBlD, t_bl, b_int, b_abs, b_max2, b_min2, b_lenT, o_add, o_sub, permD, Option.map_some]
  have hgl : (gs.map rgD).length = gs.length := List.length_map _
  have al := A.al
  have nl := A.nl
  refine C.take _ _ _ _ _ A.bx (by omega) (by omega) fun t h1 t0 t1 bx1 mx1 => ?_
  have A := A.sub bx1 mx1
  have part2 : ∀ (w : Wh) (h2 : Hm), AR h0 h2 a n gs ds ls qs → OKW gs.length w → dW w ≤ 2 → 10 < 16 ∧ (recvOK .append (.ref (n + 1)) h2 = true ∧ ws (bltS .str1 [.int (k : Int)] h2) fun r => ws (binS .add (.str [100]) r.1 r.2) fun r1 => F 113 [.ref a, .int 2] r1.2 (fun x h3 => ws (cmpS .eq x (.int 0) h3) fun kb => if kb = true then ws (bltS .append [.ref (n + 1), .tup [r1.1, .tup [.str [121, 101, 115]], .tup [.tup [whD w, .tup (ss.map stD)]]]] h3) fun r2 => Z.nx (EV a n (some (.int (k : Int))) e2 e7 e8 (some (.tup (ss.map stD))) (some (.tup [.tup [whD w, .tup (ss.map stD)]])) e11 e12 e13 e14 e15) r2.2 else F 166 [.ref a, .ref n, .int 1] h3 (fun y h4 => ws (bltS .append [.ref (n + 1), .tup [r1.1, y, .tup [.tup [whD w, .tup (ss.map stD)]]]] h4) fun r2 => Z.nx (EV a n (some (.int (k : Int))) e2 e7 e8 (some (.tup (ss.map stD))) (some (.tup [.tup [whD w, .tup (ss.map stD)]])) e11 e12 e13 e14 e15) r2.2) E) E) := fun w h2 A ow dw => by
    refine ⟨by omega, rec_app A.e4, ?_⟩
    rw [b_str hk, ws_some, o_adds hk, ws_some]
    dsimp only
    refine C.take _ _ _ _ _ A.bx (by omega) (by omega) fun t h3 t0 t1 bx3 mx3 => ?_
    have A := A.sub bx3 mx3
    rw [c_eqI, ws_some]
    have okd : ∀ w2, OKW gs.length w2 → dW w2 ≤ 3 → OKD gs.length ⟨100 :: strI (k : Int), w2, [(w, ss)]⟩ := fun w2 o2 d2 => ⟨⟨o2, by show dW w2 ≤ 10; omega⟩, by simp, fun p hp => by
      rw [List.mem_singleton.mp hp]
      exact ⟨⟨ow, by show dW w ≤ 10; omega⟩, hss⟩⟩
    by_cases c : t = 0
    · rw [decide_eq_true c, if_pos rfl, app_at A.e4 (by rw [List.length_map]; omega), ws_some]
      exact q _ ⟨100 :: strI (k : Int), .yes, [(w, ss)]⟩ _ (A.put4 ⟨100 :: strI (k : Int), .yes, [(w, ss)]⟩) (okd .yes trivial (by simp [dW]))
    · rw [decide_eq_false c, if_neg (by decide)]
      refine C.whn 1 gs.length (gs.map rgD) _ _ _ _ _ (by omega) g1 (by omega) hgl A.bx A.e3 (by omega) fun w2 h4 o2 d2 bx4 mx4 => ?_
      have A := A.sub bx4 mx4
      rw [app_at A.e4 (by rw [List.length_map]; omega), ws_some]
      exact q _ ⟨100 :: strI (k : Int), w2, [(w, ss)]⟩ _ (A.put4 ⟨100 :: strI (k : Int), w2, [(w, ss)]⟩) (okd w2 o2 d2)
  rw [c_gt, ws_some]
  by_cases c : 0 < t
  · rw [decide_eq_true c, if_pos rfl]
    exact part2 .yes h1 A trivial (by simp [dW])
  · rw [decide_eq_false c, if_neg (by decide)]
    refine C.whn 0 gs.length (gs.map rgD) _ _ _ _ _ (by omega) g1 (by omega) hgl A.bx A.e3 (by omega) fun w2 h4 o2 d2 bx4 mx4 => ?_
    exact part2 w2 h4 (A.sub bx4 mx4) o2 d2
end M11

end
section
set_option Elab.async false
set_option linter.all false
set_option autoImplicit false
/-! drawn rules: deeds, laws, questions -/
namespace M11
open M
theorem b_pop0 {h : Hm} {a : Nat} {L : List Nat} {x : Nat} (e : h[a]? = some (.lst (natsD (L ++ [x])))) : bltS .pop0 [.ref a] h = some (.int (x : Int), h.set a (.lst (natsD L))) := by
  have em : getM h a = some (natsD L ++ [.int (x : Int)]) := by
    unfold getM; rw [e]
    unfold natsD
    rw [List.map_append]; rfl
  simp only [bltS, em, Option.bind_some]
  rw [List.getLast?_append, List.dropLast_concat]
  rfl
theorem rec_pop {h : Hm} {a : Nat} {xs : List D} (e : h[a]? = some (.lst xs)) : recvOK .pop0 (.ref a) h = true := by
  show (getL h a).isSome = true
  unfold getL; rw [e]; rfl
theorem s8b {F : FnS} (C : DF F) {E : XP} {h0 h : Hm} {a n : Nat} {gs : List Rg} {ds : List Dd} {ls : List (Bool × Wh)} {qs : List (List Nat × Ql)} (A : AR h0 h a n gs ds ls qs) (g1 : 1 ≤ gs.length) (g2 : gs.length ≤ 2) (hdl : ds.length ≤ 10) {k : Nat} (hk : k < 10) {r8 : Nat} (h8 : n + 4 ≤ r8) {L : List Nat} (hL : ∀ x ∈ L, x < gs.length) (e8 : h[r8]? = some (.lst (natsD L))) {s : Nat × Sm} (hs : s.1 < gs.length ∧ OKS gs.length s.2 ∧ dS s.2 ≤ 10) {e2 e7 e10 e11 e12 e13 e14 e15 : Option D} {Z : Ends}
    (q : ∀ h' d e9 e10, AR h0 h' a n gs (ds ++ [d]) ls qs → OKD gs.length d → Z.nx (EV a n (some (.int (k : Int))) e2 e7 (some (.ref r8)) e9 e10 e11 e12 e13 e14 e15) h') :
    wpSs F E S8b (EV a n (some (.int (k : Int))) e2 e7 (some (.ref r8)) (some (.tup [stD s])) e10 e11 e12 e13 e14 e15) h Z := by
  unfold S8b
  simp only [EV, wpSs, wpS, wpE, wpEs, wpCs, wpP, wpPs, List.map, List.replicate, List.cons_append, List.nil_append, List.append_nil, List.getElem?_cons_zero, List.getElem?_cons_succ, jn, ws_some, List.length_cons, List.length_nil, List.set, at0, at1, at2, idx_tup, c_gt, c_lt, c_le, c_ge, c_is, c_isnt, c_eqI, c_neI, c_eqS, c_neS, c_eqB, c_neB, isS, isNonD, isBlD, t_bl, b_int, b_abs, b_max2, b_min2, b_lenT, o_add, o_sub, permD, Option.map_some]
  have hgl : (gs.map rgD).length = gs.length := List.length_map _
  have al := A.al
  have nl := A.nl
  have hni : natsD L = (L.map fun (k : Nat) => (k : Int)).map D.int := nats_map L
  rw [hni] at e8
  rw [ne_empty (pre_at pre_one e8) last_at, ws_some]
  rw [← hni] at e8
  have A := A.pre (pre_one (c := .lst []))
  have e8 := pre_at (pre_one (c := .lst [])) e8
  generalize h ++ [Cell.lst []] = h1 at A e8 ⊢
  have one : ∀ h', AR h0 h' a n gs ds ls qs → wpSs F E S8a (EV a n (some (.int (k : Int))) e2 e7 (some (.ref r8)) (some (.tup [stD s])) e10 e11 e12 e13 e14 e15) h' Z := fun h' A =>
    s8a C A g1 g2 hdl hk (ss := [s]) (fun x hx => by rw [List.mem_singleton.mp hx]; exact hs) fun h2 d e10 A2 od => q h2 d _ e10 A2 od
  rcases List.eq_nil_or_concat L with rfl | ⟨L', x, rfl⟩
  · rw [if_neg (by simp), if_neg (by simp)]
    exact one h1 A
  · rw [List.concat_eq_append] at *
    have hne : decide ((L' ++ [x]).map (fun (k : Nat) => (k : Int)) = []) = false := decide_eq_false (by simp)
    rw [hne, if_pos (by rfl)]
    refine C.take _ _ _ _ _ A.bx (by omega) (by omega) fun t h2 t0 t1 bx2 mx2 => ?_
    have A := A.sub bx2 mx2
    have e8 := mx2.cell e8 (show r8 ≠ a by omega)
    rw [c_eqI, ws_some]
    by_cases c : t = 0
    · rw [decide_eq_true c, if_pos rfl]
      refine ⟨rec_pop e8, ?_⟩
      rw [b_pop0 e8, ws_some]
      dsimp only
      have A := A.new h8 (.lst (natsD L'))
      refine C.sum gs.length (gs.map rgD) _ _ _ _ _ g1 (by omega) hgl A.bx A.e3 (by omega) fun s2 h3 o2 d2 bx3 mx3 => ?_
      have A := A.sub bx3 mx3
      rw [o_addT (by simp; unfold LIM; omega), ws_some]
      refine ⟨by omega, ?_⟩
      refine s8a C A g1 g2 hdl hk (ss := [s, (x, s2)]) (fun y hy => ?_) fun h2 d e10 A2 od => q h2 d _ e10 A2 od
      simp only [List.mem_cons, List.not_mem_nil, or_false] at hy
      rcases hy with rfl | rfl
      · exact hs
      · exact ⟨hL x (by simp), o2, by show dS s2 ≤ 10; omega⟩
    · rw [decide_eq_false c, if_neg (by decide)]
      exact one h2 A
theorem s8 {F : FnS} (C : DF F) {E : XP} {h0 h : Hm} {a n : Nat} {gs : List Rg} {ds : List Dd} {ls : List (Bool × Wh)} {qs : List (List Nat × Ql)} (A : AR h0 h a n gs ds ls qs) (g1 : 1 ≤ gs.length) (g2 : gs.length ≤ 2) (hdl : ds.length ≤ 10) {k : Nat} (hk : k < 10) {e2 e7 e8 e9 e10 e11 e12 e13 e14 e15 : Option D} {Z : Ends}
    (q : ∀ h' d e8 e9 e10, AR h0 h' a n gs (ds ++ [d]) ls qs → OKD gs.length d → Z.nx (EV a n (some (.int (k : Int))) e2 e7 e8 e9 e10 e11 e12 e13 e14 e15) h') :
    wpSs F E S8 (EV a n (some (.int (k : Int))) e2 e7 e8 e9 e10 e11 e12 e13 e14 e15) h Z := by
  unfold S8
  simp only [EV, wpSs, wpS, wpE, wpEs, wpCs, wpP, wpPs, List.map, List.replicate, List.cons_append, List.nil_append, List.append_nil, List.getElem?_cons_zero, List.getElem?_cons_succ, jn, ws_some, List.length_cons, List.length_nil, List.set, at0, at1, at2, idx_tup, c_gt, c_lt, c_le, c_ge, c_is, c_isnt, c_eqI, c_neI, c_eqS, c_neS, c_eqB, c_neB, isS, isNonD, isBlD, t_bl, b_int, b_abs, b_max2, b_min2, b_lenT, o_add, o_sub, permD, Option.map_some]
  have hgl : (gs.map rgD).length = gs.length := List.length_map _
  have al := A.al
  have nl := A.nl
  have hml := A.mx.len
  rw [b_lenL A.e3, ws_some, hgl]
  have hlr : bltS .lstRange [.int (gs.length : Int)] h = some (.ref h.length, h ++ [.lst (natsD (List.range gs.length))]) := by
    have hs : small (gs.length : Int) = true := by
      unfold small
      rw [Bool.and_eq_true, decide_eq_true_eq, decide_eq_true_eq]
      omega
    simp only [bltS]
    rw [if_pos hs, range_map]
    simp [newC, natsD]
  rw [hlr, ws_some]
  have hn4 : n + 4 ≤ h.length := (List.getElem?_eq_some_iff.mp A.e6).1
  refine C.mix gs.length (List.range gs.length) _ _ _ _ _ (fun x hx => List.mem_range.mp hx) (by simp; omega) (A.bx.pre pre_one) last_at (by omega) fun L r' h2 hLl hL hr' e8 bx2 mx2 => ?_
  have A := (A.pre (pre_one (c := .lst (natsD (List.range gs.length))))).sub bx2 mx2
  refine ⟨by omega, ?_⟩
  have h8 : n + 4 ≤ r' := by
    rw [List.length_append] at hr'
    omega
  rw [List.length_range] at hLl
  unfold S8c
  rw [wpSs, wpS, wpE, wpEs, wpE, wpEs, wpE, wpE]
  simp only [List.getElem?_cons_succ, List.getElem?_cons_zero, Option.join_some, ws_some, wpEs]
  rcases List.eq_nil_or_concat L with rfl | ⟨L', x, rfl⟩
  · simp at hLl; omega
  · rw [List.concat_eq_append] at *
    refine ⟨rec_pop e8, ?_⟩
    rw [b_pop0 e8, ws_some]
    simp only [wpE, wpEs, List.getElem?_cons_succ, List.getElem?_cons_zero, Option.join_some, ws_some, permD, List.append_nil, wpP, List.set]
    have A := A.new h8 (.lst (natsD L'))
    have e8 : (h2.set r' (.lst (natsD L')))[r']? = some (.lst (natsD L')) := set_at e8
    refine C.sum gs.length (gs.map rgD) _ _ _ _ _ g1 (by omega) hgl A.bx A.e3 (by omega) fun s2 h3 o2 d2 bx3 mx3 => ?_
    have A := A.sub bx3 mx3
    refine ⟨by simp, ?_⟩
    exact s8b C A g1 g2 hdl hk h8 (fun y hy => hL y (List.mem_append_left _ hy)) (mx3.cell e8 (show r' ≠ a by omega)) (s := (x, s2)) ⟨hL x (by simp), o2, by show dS s2 ≤ 10; omega⟩ fun h' d e9 e10 A2 od => q h' d _ e9 e10 A2 od
theorem l2 {F : FnS} (C : DF F) {E : XP} {h0 h : Hm} {a n : Nat} {gs : List Rg} {ls : List (Bool × Wh)} {qs : List (List Nat × Ql)} (A : AR h0 h a n gs [] ls qs) (g1 : 1 ≤ gs.length) (g2 : gs.length ≤ 2) {e1 e2 e7 e8 e9 e10 e11 e12 e13 e14 e15 : Option D} {Z : Ends}
    (q : ∀ h' ds e1 e8 e9 e10, AR h0 h' a n gs ds ls qs → (∀ d ∈ ds, OKD gs.length d) → 1 ≤ ds.length → ds.length ≤ 3 → Z.nx (EV a n e1 e2 e7 e8 e9 e10 e11 e12 e13 e14 e15) h') :
    wpS F E L2' (EV a n e1 e2 e7 e8 e9 e10 e11 e12 e13 e14 e15) h Z := by
  unfold L2'
  simp only [EV, wpSs, wpS, wpE, wpEs, wpCs, wpP, wpPs, List.map, List.replicate, List.cons_append, List.nil_append, List.append_nil, List.getElem?_cons_zero, List.getElem?_cons_succ, jn, ws_some, List.length_cons, List.length_nil, List.set, at0, at1, at2, idx_tup, c_gt, c_lt, c_le, c_ge, c_is, c_isnt, c_eqI, c_neI, c_eqS, c_neS, c_eqB, c_neB, isS, isNonD, isBlD, t_bl, b_int, b_abs, b_max2, b_min2, b_lenT, o_add, o_sub, permD, Option.map_some]
  refine C.take _ _ _ _ _ A.bx (by omega) (by omega) fun d h1 d0 d1 bx1 mx1 => ?_
  have A := A.sub bx1 mx1
  rw [o_add, ws_some, it_range (by omega) (by omega), ws_some]
  refine forL_inv (fun l env h' => ∃ (j : Nat) (ds : List Dd) (e1 e8 e9 e10 : Option D), l = (rngD 0 (2 + d).toNat).drop j ∧ j ≤ 3 ∧ j ≤ (2 + d).toNat ∧ ds.length = j ∧ (∀ g ∈ ds, OKD gs.length g) ∧ AR h0 h' a n gs ds ls qs ∧ env = EV a n e1 e2 e7 e8 e9 e10 e11 e12 e13 e14 e15)
    (fun _ _ _ _ => still_nil) (fun x l env h' R hi kk => ?_) (fun env h' hi => ?_) _ _ _ ⟨0, [], _, _, _, _, rfl, by omega, by omega, rfl, (fun g hg => nomatch hg), A, rfl⟩
  · obtain ⟨j, ds, e1, e8, e9, e10, hj, j2, jl, gl, hg, A, rfl⟩ := hi
    have hjn : j < (2 + d).toNat := by
      rcases Nat.lt_or_ge j (2 + d).toNat with z | z
      · exact z
      · rw [rng_end z] at hj; cases hj
    rw [rng_drop hjn] at hj
    cases hj
    simp only [EV, wpP, List.set]
    refine ⟨by simp, ?_⟩
    refine s8 C A g1 g2 (by omega) (k := j) (by omega) fun h2 dd e8 e9 e10 A2 od => ?_
    refine kk _ _ ⟨j + 1, ds ++ [dd], _, _, _, _, rfl, by omega, by omega, by simp [gl], fun g h => ?_, A2, rfl⟩
    rcases List.mem_append.mp h with h | h
    · exact hg g h
    · rw [List.mem_singleton.mp h]; exact od
  · obtain ⟨j, ds, e1, e8, e9, e10, hj, j2, jl, gl, hg, A, rfl⟩ := hi
    have hjn : (2 + d).toNat ≤ j := by
      rcases Nat.lt_or_ge j (2 + d).toNat with z | z
      · rw [rng_drop z] at hj; cases hj
      · exact z
    exact q h' ds _ _ _ _ A hg (by omega) (by omega)
end M11

end
section
set_option Elab.async false
set_option linter.all false
set_option autoImplicit false
/-! drawn rules: laws, questions, whole -/
namespace M11
open M
def S3c : List CS := [.expr (.meth .append (.loc 5) [(.tup [(.loc 2), (.ife (.or (.loc 12) (.cmp .eq (.loc 2) (.lit (.str [101, 110, 100, 115])))) (.loc 11) (.tup [(.lit (.str [110, 111, 116])), (.loc 11)]))])])]
def S3b : List CS := .asg (.slot 12) (.call 156 [(.loc 11), (.comp [13, 7, 14, 15] (.tup [(.slot 13), (.slot 7), (.slot 14), (.slot 15)]) .val [(.loc 3)] [] (.loc 14))] [] [0, 1]) :: S3c
def S3a : List CS := .asg (.slot 11) (.call 166 [(.loc 0), (.loc 3), (.lit (.int (0)))] [] [0, 1, 2]) :: S3b
def L3 : CS := .for_ (.slot 2) .val [(.tup [(.lit (.str [97, 108, 119, 97, 121, 115])), (.lit (.str [101, 110, 100, 115]))])] [
    .ite (.cmp .eq (.call 113 [(.loc 0), (.lit (.int (3)))] [] [0, 1]) (.lit (.int (0)))) S3a []]
theorem s3c {F : FnS} {E : XP} {h0 h : Hm} {a n : Nat} {gs : List Rg} {ds : List Dd} {ls : List (Bool × Wh)} {qs : List (List Nat × Ql)} (A : AR h0 h a n gs ds ls qs) (hls : ls.length ≤ 10) {b c : Bool} {w : Wh} {e1 e7 e8 e9 e10 e13 e14 e15 : Option D} {Z : Ends}
    (q : ∀ h' w', AR h0 h' a n gs ds (ls ++ [(b, w')]) qs → (w' = w ∨ w' = .not w) → Z.nx (EV a n e1 (some (.str (wdS b))) e7 e8 e9 e10 (some (whD w)) (some (.bl c)) e13 e14 e15) h') :
    wpSs F E S3c (EV a n e1 (some (.str (wdS b))) e7 e8 e9 e10 (some (whD w)) (some (.bl c)) e13 e14 e15) h Z := by
  unfold S3c EV
  rw [wpSs, wpS, wpE, wpE]
  simp only [List.getElem?_cons_succ, List.getElem?_cons_zero, Option.join_some, ws_some]
  refine ⟨rec_app A.e5, ?_⟩
  simp only [wpE, wpEs, List.getElem?_cons_succ, List.getElem?_cons_zero, Option.join_some, ws_some, t_bl, c_eqS]
  have ha : ∀ w', ws (bltS .append [.ref (n + 2), lwD (b, w')] h) (fun r => wpSs F E [] [some (.ref a), e1, some (.str (wdS b)), some (.ref n), some (.ref (n + 1)), some (.ref (n + 2)), some (.ref (n + 3)), e7, e8, e9, e10, some (whD w), some (.bl c), e13, e14, e15] r.2 Z) ↔ Z.nx (EV a n e1 (some (.str (wdS b))) e7 e8 e9 e10 (some (whD w)) (some (.bl c)) e13 e14 e15) (h.set (n + 2) (.lst (ls.map lwD ++ [lwD (b, w')]))) := fun w' => by
    rw [app_at A.e5 (by rw [List.length_map]; omega), ws_some, wpSs]
  cases c with
  | true =>
    rw [if_pos rfl, if_pos rfl]
    exact (ha w).mpr (q _ w (A.put5 (b, w)) (.inl rfl))
  | false =>
    rw [if_neg (by decide)]
    cases b with
    | false =>
      rw [show decide (wdS false = [101, 110, 100, 115]) = true from rfl, if_pos rfl]
      exact (ha w).mpr (q _ w (A.put5 (false, w)) (.inl rfl))
    | true =>
      rw [show decide (wdS true = [101, 110, 100, 115]) = false from rfl, if_neg (by decide)]
      exact (ha (.not w)).mpr (q _ (.not w) (A.put5 (true, .not w)) (.inr rfl))
theorem s3a {F : FnS} (C : DF F) {E : XP} {h0 h : Hm} {a n : Nat} {gs : List Rg} {ds : List Dd} {ls : List (Bool × Wh)} {qs : List (List Nat × Ql)} (A : AR h0 h a n gs ds ls qs) (g1 : 1 ≤ gs.length) (g2 : gs.length ≤ 2) (hls : ls.length ≤ 10) {b : Bool} {e1 e7 e8 e9 e10 e11 e12 e13 e14 e15 : Option D} {Z : Ends}
    (q : ∀ h' w' e11 e12, AR h0 h' a n gs ds (ls ++ [(b, w')]) qs → OKW gs.length w' → dW w' ≤ 10 → Z.nx (EV a n e1 (some (.str (wdS b))) e7 e8 e9 e10 e11 e12 e13 e14 e15) h') :
    wpSs F E S3a (EV a n e1 (some (.str (wdS b))) e7 e8 e9 e10 e11 e12 e13 e14 e15) h Z := by
  have hgl : (gs.map rgD).length = gs.length := List.length_map _
  have al := A.al
  have nl := A.nl
  unfold S3a EV
  rw [wpSs, wpS]
  simp only [wpE, wpEs, List.getElem?_cons_succ, List.getElem?_cons_zero, Option.join_some, ws_some, permD, List.append_nil, wpP, List.set]
  refine C.whn 0 gs.length (gs.map rgD) _ _ _ _ _ (by omega) g1 (by omega) hgl A.bx A.e3 (by omega) fun w h1 ow dw bx1 mx1 => ?_
  have A := A.sub bx1 mx1
  refine ⟨by simp, ?_⟩
  unfold S3b
  rw [wpSs, wpS, wpE]
  simp only [wpE, wpEs, List.getElem?_cons_succ, List.getElem?_cons_zero, Option.join_some, ws_some]
  rw [it_lst A.e3, ws_some]
  refine comp_enc (xs := gs) rgD (fun g => some (.int (g.first : Int))) (still_one A.e3) (by unfold LIM; omega) (fun g hg h2 R p2 k2 => ?_) fun h2 p2 e2 => ?_
  · have k2 := k2 h2 (List.prefix_refl _)
    simp only [rgD, wipeE, wpP, wpPs, wpCs, List.set, List.getElem?_cons_succ, List.getElem?_cons_zero, Option.join_some, ws_some, if_true]
    exact ⟨by simp, by simp, by simp, by simp, k2⟩
  · rw [filterMap_some] at e2
    have A := A.pre p2
    simp only [permD, List.append_nil, List.getElem?_cons_succ, List.getElem?_cons_zero, ws_some, wpP, List.set]
    have hrw : RWV h2 (.ref h1.length) (gs.map fun g => (g.first : Int)) := .inr ⟨_, rfl, by rw [e2, List.map_map]; rfl⟩
    refine C.holds (gs.map fun g => (g.first : Int)) w _ _ _ _ (by omega) (by rw [List.length_map]; exact ow) hrw ?_
    refine ⟨by simp, ?_⟩
    refine s3c A hls fun h3 w' A2 hw' => q h3 w' _ _ A2 ?_ ?_
    · rcases hw' with rfl | rfl
      · exact ow
      · exact ow
    · rcases hw' with rfl | rfl
      · omega
      · simp only [dW]; omega
theorem l3 {F : FnS} (C : DF F) {E : XP} {h0 h : Hm} {a n : Nat} {gs : List Rg} {ds : List Dd} {qs : List (List Nat × Ql)} (A : AR h0 h a n gs ds [] qs) (g1 : 1 ≤ gs.length) (g2 : gs.length ≤ 2) {e1 e2 e7 e8 e9 e10 e11 e12 e13 e14 e15 : Option D} {Z : Ends}
    (q : ∀ h' ls e2 e11 e12, AR h0 h' a n gs ds ls qs → (∀ l ∈ ls, OKW gs.length l.2 ∧ dW l.2 ≤ 10) → ls.length ≤ 2 → Z.nx (EV a n e1 e2 e7 e8 e9 e10 e11 e12 e13 e14 e15) h') :
    wpS F E L3 (EV a n e1 e2 e7 e8 e9 e10 e11 e12 e13 e14 e15) h Z := by
  unfold L3
  rw [wpS]
  simp only [wpE, wpEs]
  rw [it_tup, ws_some]
  refine forL_inv (fun l env h' => ∃ (ls : List (Bool × Wh)) (e2 e11 e12 : Option D), ls.length + l.length ≤ 2 ∧ (∀ x ∈ l, ∃ b, x = .str (wdS b)) ∧ (∀ l ∈ ls, OKW gs.length l.2 ∧ dW l.2 ≤ 10) ∧ AR h0 h' a n gs ds ls qs ∧ env = EV a n e1 e2 e7 e8 e9 e10 e11 e12 e13 e14 e15)
    (fun _ _ _ _ => still_nil) (fun x l env h' R hi kk => ?_) (fun env h' hi => ?_) _ _ _ ⟨[], _, _, _, by simp, (fun x hx => by
      simp only [List.mem_cons, List.not_mem_nil, or_false] at hx
      rcases hx with rfl | rfl
      · exact ⟨true, rfl⟩
      · exact ⟨false, rfl⟩), (fun l hl => nomatch hl), A, rfl⟩
  · obtain ⟨ls, e2, e11, e12, hll, hx, ok, A, rfl⟩ := hi
    obtain ⟨b, rfl⟩ := hx x List.mem_cons_self
    rw [List.length_cons] at hll
    have hx : ∀ x ∈ l, ∃ b, x = .str (wdS b) := fun y hy => hx y (List.mem_cons_of_mem _ hy)
    simp only [EV, wpP, List.set]
    refine ⟨by simp, ?_⟩
    rw [wpSs, wpS]
    simp only [wpE, wpEs, List.getElem?_cons_succ, List.getElem?_cons_zero, Option.join_some, ws_some, permD, List.append_nil]
    refine C.take _ _ _ _ _ A.bx (by omega) (by omega) fun t h2 t0 t1 bx2 mx2 => ?_
    have A := A.sub bx2 mx2
    rw [c_eqI, ws_some, t_bl, ws_some]
    by_cases c : t = 0
    · rw [decide_eq_true c, if_pos rfl]
      refine s3a C A g1 g2 (by omega) (b := b) fun h3 w' e11 e12 A2 ow dw => ?_
      dsimp only
      rw [wpSs]
      refine kk _ _ ⟨ls ++ [(b, w')], _, _, _, by simp; omega, hx, fun l hl => ?_, A2, rfl⟩
      rcases List.mem_append.mp hl with hl | hl
      · exact ok l hl
      · rw [List.mem_singleton.mp hl]; exact ⟨ow, dw⟩
    · rw [decide_eq_false c, if_neg (by decide), wpSs]
      dsimp only
      rw [wpSs]
      exact kk _ _ ⟨ls, _, _, _, by omega, hx, ok, A, rfl⟩
  · obtain ⟨ls, e2, e11, e12, hll, hx, ok, A, rfl⟩ := hi
    exact q h' ls _ _ _ A ok (by simp at hll; exact hll)
def S4 : List CS := [.expr (.meth .append (.loc 6) [(.tup [(.bin .add (.lit (.str [113])) (.blt .str1 [(.loc 1)])), (.ife (.cmp .eq (.call 113 [(.loc 0), (.lit (.int (2)))] [] [0, 1]) (.lit (.int (0)))) (.tup [(.lit (.str [121, 101, 115])), (.call 166 [(.loc 0), (.loc 3), (.lit (.int (0)))] [] [0, 1, 2])]) (.tup [(.lit (.str [116, 101, 108, 108, 115])), (.call 165 [(.loc 0), (.loc 3)] [] [0, 1])]))])])]
def L4 : CS := .for_ (.slot 1) .range [(.bin .add (.lit (.int (1))) (.call 113 [(.loc 0), (.lit (.int (2)))] [] [0, 1]))] S4
theorem s4 {F : FnS} (C : DF F) {E : XP} {h0 h : Hm} {a n : Nat} {gs : List Rg} {ds : List Dd} {ls : List (Bool × Wh)} {qs : List (List Nat × Ql)} (A : AR h0 h a n gs ds ls qs) (g1 : 1 ≤ gs.length) (g2 : gs.length ≤ 2) (hqs : qs.length ≤ 10) {k : Nat} (hk : k < 10) {e2 e7 e8 e9 e10 e11 e12 e13 e14 e15 : Option D} {Z : Ends}
    (q : ∀ h' qu, AR h0 h' a n gs ds ls (qs ++ [qu]) → OKQ gs.length qu → Z.nx (EV a n (some (.int (k : Int))) e2 e7 e8 e9 e10 e11 e12 e13 e14 e15) h') :
    wpSs F E S4 (EV a n (some (.int (k : Int))) e2 e7 e8 e9 e10 e11 e12 e13 e14 e15) h Z := by
  have hgl : (gs.map rgD).length = gs.length := List.length_map _
  have al := A.al
  have nl := A.nl
  unfold S4 EV
  rw [wpSs, wpS, wpE, wpE]
  simp only [List.getElem?_cons_succ, List.getElem?_cons_zero, Option.join_some, ws_some]
  refine ⟨rec_app A.e6, ?_⟩
  rw [wpEs, wpE, wpEs, wpE, wpE, wpE, wpEs, wpE]
  simp only [List.getElem?_cons_succ, List.getElem?_cons_zero, Option.join_some, ws_some]
  rw [wpEs, b_str hk, ws_some, o_adds hk, ws_some]
  rw [wpEs, wpE, wpE, wpE]
  simp only [wpE, wpEs, List.getElem?_cons_succ, List.getElem?_cons_zero, Option.join_some, ws_some, permD, List.append_nil]
  refine C.take _ _ _ _ _ A.bx (by omega) (by omega) fun t h2 t0 t1 bx2 mx2 => ?_
  have A := A.sub bx2 mx2
  rw [c_eqI, ws_some, t_bl, ws_some]
  by_cases c : t = 0
  · rw [decide_eq_true c, if_pos rfl]
    refine C.whn 0 gs.length (gs.map rgD) _ _ _ _ _ (by omega) g1 (by omega) hgl A.bx A.e3 (by omega) fun w h3 ow dw bx3 mx3 => ?_
    have A := A.sub bx3 mx3
    rw [app_at A.e6 (by rw [List.length_map]; omega), ws_some, wpSs]
    exact q _ (113 :: strI (k : Int), .yes w) (A.put6 (113 :: strI (k : Int), .yes w)) ⟨ow, by omega⟩
  · rw [decide_eq_false c, if_neg (by decide)]
    refine C.sum gs.length (gs.map rgD) _ _ _ _ _ g1 (by omega) hgl A.bx A.e3 (by omega) fun s2 h3 o2 d2 bx3 mx3 => ?_
    have A := A.sub bx3 mx3
    rw [app_at A.e6 (by rw [List.length_map]; omega), ws_some, wpSs]
    exact q _ (113 :: strI (k : Int), .tells s2) (A.put6 (113 :: strI (k : Int), .tells s2)) ⟨o2, by omega⟩
theorem l4 {F : FnS} (C : DF F) {E : XP} {h0 h : Hm} {a n : Nat} {gs : List Rg} {ds : List Dd} {ls : List (Bool × Wh)} (A : AR h0 h a n gs ds ls []) (g1 : 1 ≤ gs.length) (g2 : gs.length ≤ 2) {e1 e2 e7 e8 e9 e10 e11 e12 e13 e14 e15 : Option D} {Z : Ends}
    (q : ∀ h' qs e1, AR h0 h' a n gs ds ls qs → (∀ l ∈ qs, OKQ gs.length l) → 1 ≤ qs.length → qs.length ≤ 2 → Z.nx (EV a n e1 e2 e7 e8 e9 e10 e11 e12 e13 e14 e15) h') :
    wpS F E L4 (EV a n e1 e2 e7 e8 e9 e10 e11 e12 e13 e14 e15) h Z := by
  unfold L4
  rw [wpS]
  simp only [EV, wpE, wpEs, List.getElem?_cons_succ, List.getElem?_cons_zero, Option.join_some, ws_some, permD, List.append_nil]
  refine C.take _ _ _ _ _ A.bx (by omega) (by omega) fun d h1 d0 d1 bx1 mx1 => ?_
  have A := A.sub bx1 mx1
  rw [o_add, ws_some, it_range (by omega) (by omega), ws_some]
  refine forL_inv (fun l env h' => ∃ (j : Nat) (qs : List (List Nat × Ql)) (e1 : Option D), l = (rngD 0 (1 + d).toNat).drop j ∧ j ≤ 2 ∧ j ≤ (1 + d).toNat ∧ qs.length = j ∧ (∀ g ∈ qs, OKQ gs.length g) ∧ AR h0 h' a n gs ds ls qs ∧ env = EV a n e1 e2 e7 e8 e9 e10 e11 e12 e13 e14 e15)
    (fun _ _ _ _ => still_nil) (fun x l env h' R hi kk => ?_) (fun env h' hi => ?_) _ _ _ ⟨0, [], _, rfl, by omega, by omega, rfl, (fun g hg => nomatch hg), A, rfl⟩
  · obtain ⟨j, qs, e1, hj, j2, jl, gl, hg, A, rfl⟩ := hi
    have hjn : j < (1 + d).toNat := by
      rcases Nat.lt_or_ge j (1 + d).toNat with z | z
      · exact z
      · rw [rng_end z] at hj; cases hj
    rw [rng_drop hjn] at hj
    cases hj
    simp only [EV, wpP, List.set]
    refine ⟨by simp, ?_⟩
    refine s4 C A g1 g2 (by omega) (k := j) (by omega) fun h2 qu A2 oq => ?_
    refine kk _ _ ⟨j + 1, qs ++ [qu], _, rfl, by omega, by omega, by simp [gl], fun g h => ?_, A2, rfl⟩
    rcases List.mem_append.mp h with h | h
    · exact hg g h
    · rw [List.mem_singleton.mp h]; exact oq
  · obtain ⟨j, qs, e1, hj, j2, jl, gl, hg, A, rfl⟩ := hi
    have hjn : (1 + d).toNat ≤ j := by
      rcases Nat.lt_or_ge j (1 + d).toNat with z | z
      · rw [rng_drop z] at hj; cases hj
      · exact z
    exact q h' qs _ A hg (by omega) (by omega)
def R167 : List CS := [.ret (.tup [(.blt .tuple [(.loc 3)]), (.blt .tuple [(.loc 4)]), (.blt .tuple [(.loc 5)]), (.blt .tuple [(.loc 6)])])]
theorem d167_eq : D167 = ⟨1, 16, [.asg (.tup [(.slot 3), (.slot 4), (.slot 5), (.slot 6)]) (.tup [(.lst []), (.lst []), (.lst []), (.lst [])]), L1, L2', L3, L4] ++ R167⟩ := rfl
theorem anyrules_spec {N : Nat} (hN : 21 ≤ N) {h : Hm} {a : Nat} {Q : VQ} {E : XP} (bx : BX h a) (k : ∀ r h', OKR r → BX h' a → MX a h h' → Q (rulesD r) h') : FW P (N + 1) 167 [.ref a] h Q E := by
  refine fw_open (d := D167) rfl rfl ?_
  rw [d167_eq]
  have C : DF (FW P N) := DF.mk' (by omega)
  generalize FW P N = F at C ⊢
  simp only [List.map, List.replicate, List.cons_append, List.nil_append]
  rw [wpSs, wpS]
  simp only [wpE, wpEs, wpP, wpPs, List.set]
  refine ⟨by simp, by simp, by simp, by simp, ?_⟩
  have p : h <+: h ++ [Cell.lst []] ++ [Cell.lst []] ++ [Cell.lst []] ++ [Cell.lst []] := ((pre_one.trans pre_one).trans pre_one).trans pre_one
  have e1 : (h ++ [Cell.lst []]).length = h.length + 1 := by simp
  have e2 : (h ++ [Cell.lst []] ++ [Cell.lst []]).length = h.length + 2 := by simp
  have e3 : (h ++ [Cell.lst []] ++ [Cell.lst []] ++ [Cell.lst []]).length = h.length + 3 := by simp
  have A : AR h (h ++ [Cell.lst []] ++ [Cell.lst []] ++ [Cell.lst []] ++ [Cell.lst []]) a h.length [] [] [] [] := by
    refine ⟨bx.lt, Nat.le_refl _, bx.pre p, MX.pre p, pre_at ((pre_one.trans pre_one).trans pre_one) last_at, ?_, ?_, ?_⟩
    · rw [← e1]; exact pre_at (pre_one.trans pre_one) last_at
    · rw [← e2]; exact pre_at pre_one last_at
    · rw [← e3]; exact last_at
  rw [e1, e2, e3]
  generalize h ++ [Cell.lst []] ++ [Cell.lst []] ++ [Cell.lst []] ++ [Cell.lst []] = h1 at A ⊢
  rw [wpSs]
  refine l1 C A fun h2 gs e1 e7 A og g1 g2 => ?_
  dsimp only
  rw [wpSs]
  refine l2 C A g1 g2 fun h3 ds e1 e8 e9 e10 A od d1 d2 => ?_
  dsimp only
  rw [wpSs]
  refine l3 C A g1 g2 fun h4 ls e2 e11 e12 A ol l2' => ?_
  dsimp only
  rw [wpSs]
  refine l4 C A g1 g2 fun h5 qs e1 A oq q1 q2 => ?_
  dsimp only
  unfold R167 EV
  rw [wpSs, wpS]
  simp only [wpE, wpEs, List.getElem?_cons_succ, List.getElem?_cons_zero, Option.join_some, ws_some]
  rw [b_tupleL A.e3, ws_some, b_tupleL A.e4, ws_some, b_tupleL A.e5, ws_some, b_tupleL A.e6, ws_some]
  exact k ⟨gs, ds, ls, qs⟩ h5 ⟨g1, by show gs.length ≤ 3; omega, og, d1, by show ds.length ≤ 10; omega, od, by show ls.length ≤ 10; omega, ol, q1, by show qs.length ≤ 10; omega, oq⟩ A.bx A.mx
end M11

end
section
set_option Elab.async false
set_option linter.all false
set_option autoImplicit false
/-! typed rules, some rules with a machine -/
namespace M11
open M
def turnD (name : List Nat) (reg : Nat) (by_ : Int) : Dd := ⟨name, .yes, [(.yes, [(reg, .bin .plus (.cnt reg) (.num by_))])]⟩
theorem turn_spec {N : Nat} {name : List Nat} {reg : Nat} {by_ : Int} {h : Hm} {Q : VQ} {E : XP} (q : Q (ddD (turnD name reg by_)) h) : FW P (N + 1) 168 [.str name, .int (reg : Int), .int by_] h Q E := by
  refine fw_open (d := D168) rfl rfl ?_
  unfold D168
  simp only [wpSs, wpS, wpE, wpEs, wpCs, wpP, wpPs, List.map, List.replicate, List.cons_append, List.nil_append, List.append_nil, List.getElem?_cons_zero, List.getElem?_cons_succ, jn, ws_some, List.length_cons, List.length_nil, List.set, at0, at1, at2, idx_tup, c_gt, c_lt, c_le, c_ge, c_is, c_isnt, c_eqI, c_neI, c_eqS, c_neS, c_eqB, c_neB, isS, isNonD, isBlD, t_bl, b_int, b_abs, b_max2, b_min2, b_lenT, o_add, o_sub, permD, Option.map_some]
  exact q
def nm (c k : Nat) : List Nat := [c, k]
def TR : Nat → Rules
  | 0 => ⟨[⟨[114, 48], 2, 0, false⟩], [⟨[100, 48], .less (.cnt 0) (.num 2), [(.yes, [(0, .bin .plus (.cnt 0) (.num 1))])]⟩, ⟨[100, 49], .less (.num 0) (.cnt 0), [(.yes, [(0, .bin .minus (.cnt 0) (.num 1))])]⟩], [], [([113, 48], .tells (.cnt 0))]⟩
  | 1 => ⟨[⟨[114, 48], 1, 0, true⟩, ⟨[114, 49], 1, 0, true⟩], [turnD [100, 48] 0 1, turnD [100, 49] 1 1], [], [([113, 48], .tells (.bin .plus (.cnt 0) (.cnt 1)))]⟩
  | 2 => ⟨[⟨[114, 48], 2, 0, true⟩], [turnD [100, 48] 0 1, turnD [100, 49] 0 2], [], [([113, 48], .yes (.same (.cnt 0) (.num 0)))]⟩
  | 3 => ⟨[⟨[114, 48], 1, 0, true⟩], [turnD [100, 48] 0 1, turnD [100, 49] 0 3, ⟨[100, 50], .less (.cnt 0) (.num 0), []⟩, ⟨[100, 51], .yes, []⟩], [], [([113, 48], .tells (.cnt 0))]⟩
  | _ => ⟨[⟨[114, 48], 1, 0, true⟩, ⟨[114, 49], 2, 0, false⟩], [turnD [100, 48] 0 1, turnD [100, 49] 1 1], [(false, .same (.cnt 0) (.num 0)), (true, .less (.cnt 1) (.num 2))], [([113, 48], .tells (.cnt 1))]⟩
def okSb (w : Nat) : Sm → Bool
  | .num _ => true
  | .cnt k => decide (k < w)
  | .bin _ a b => okSb w a && okSb w b
theorem okS_of {w : Nat} : ∀ {s : Sm}, okSb w s = true → OKS w s
  | .num _, _ => trivial
  | .cnt k, h => show k < w from of_decide_eq_true h
  | .bin _ a b, h => by
    unfold okSb at h
    rw [Bool.and_eq_true] at h
    exact ⟨okS_of h.1, okS_of h.2⟩
def okWb (w : Nat) : Wh → Bool
  | .yes => true
  | .not a => okWb w a
  | .and a b => okWb w a && okWb w b
  | .or a b => okWb w a && okWb w b
  | .less a b => okSb w a && okSb w b
  | .same a b => okSb w a && okSb w b
theorem okW_of {w : Nat} : ∀ {s : Wh}, okWb w s = true → OKW w s
  | .yes, _ => trivial
  | .not a, h => okW_of (s := a) h
  | .and a b, h => by
    unfold okWb at h
    rw [Bool.and_eq_true] at h
    exact ⟨okW_of h.1, okW_of h.2⟩
  | .or a b, h => by
    unfold okWb at h
    rw [Bool.and_eq_true] at h
    exact ⟨okW_of h.1, okW_of h.2⟩
  | .less a b, h => by
    unfold okWb at h
    rw [Bool.and_eq_true] at h
    exact ⟨okS_of h.1, okS_of h.2⟩
  | .same a b, h => by
    unfold okWb at h
    rw [Bool.and_eq_true] at h
    exact ⟨okS_of h.1, okS_of h.2⟩
def okRb (r : Rules) : Bool :=
  decide (1 ≤ r.regs.length) && decide (r.regs.length ≤ 3) && r.regs.all (fun g => decide (g.top ≤ 2) && decide (g.first ≤ g.top)) && decide (1 ≤ r.deeds.length) && decide (r.deeds.length ≤ 10) &&
  r.deeds.all (fun d => okWb r.regs.length d.whn && decide (dW d.whn ≤ 10) && decide (d.parts.length ≤ 10) && d.parts.all fun p => okWb r.regs.length p.1 && decide (dW p.1 ≤ 10) && p.2.all fun s => decide (s.1 < r.regs.length) && okSb r.regs.length s.2 && decide (dS s.2 ≤ 10)) &&
  decide (r.laws.length ≤ 10) && r.laws.all (fun l => okWb r.regs.length l.2 && decide (dW l.2 ≤ 10)) && decide (1 ≤ r.qs.length) && decide (r.qs.length ≤ 10) && r.qs.all (fun q => match q.2 with
    | .yes w => okWb r.regs.length w && decide (dW w ≤ 10)
    | .tells s => okSb r.regs.length s && decide (dS s ≤ 10))
theorem okR_of {r : Rules} (h : okRb r = true) : OKR r := by
  unfold okRb at h
  simp only [Bool.and_eq_true, decide_eq_true_eq, List.all_eq_true] at h
  obtain ⟨⟨⟨⟨⟨⟨⟨⟨⟨⟨a1, a2⟩, a3⟩, a4⟩, a5⟩, a6⟩, a7⟩, a8⟩, a9⟩, a10⟩, a11⟩ := h
  refine ⟨a1, a2, a3, a4, a5, fun d hd => ?_, a7, fun l hl => ⟨okW_of (a8 l hl).1, (a8 l hl).2⟩, a9, a10, fun q hq => ?_⟩
  · have := a6 d hd
    exact ⟨⟨okW_of this.1.1.1, this.1.1.2⟩, this.1.2, fun p hp => ⟨⟨okW_of (this.2 p hp).1.1, (this.2 p hp).1.2⟩, fun s hs => ⟨((this.2 p hp).2 s hs).1.1, okS_of ((this.2 p hp).2 s hs).1.2, ((this.2 p hp).2 s hs).2⟩⟩⟩
  · have := a11 q hq
    obtain ⟨nm, ql⟩ := q
    cases ql with
    | yes w =>
      simp only [Bool.and_eq_true, decide_eq_true_eq] at this
      exact ⟨⟨okW_of this.1, this.2⟩⟩
    | tells s =>
      simp only [Bool.and_eq_true, decide_eq_true_eq] at this
      exact ⟨⟨okS_of this.1, this.2⟩⟩
def brunF (r : Rules) : Nat → List Row → List Stp → Option (List Row × List Stp)
  | 0, _, _ => none
  | f + 1, rows, steps => if rows.length ≤ steps.length then some (rows, steps) else brunF r f (turnF r (rows.getD steps.length []) rows).1 (steps ++ [(turnF r (rows.getD steps.length []) rows).2])
theorem brun_of {r : Rules} : ∀ {f : Nat} {rows : List Row} {steps : List Stp} {out : List Row × List Stp}, brunF r f rows steps = some out → BRun r rows steps out
  | 0, _, _, _, h => by cases h
  | f + 1, rows, steps, out, h => by
    unfold brunF at h
    split at h
    · cases h
      exact .done (by assumption)
    · exact .step (by omega) (brun_of h)
def isMb (r : Rules) : Bool := lawF r true (startF r) && match brunF r 30 [startF r] [] with
  | some o => decide (0 ∈ goodR r o.1 o.2)
  | none => false
theorem isM_of {r : Rules} (h : isMb r = true) : IsM r := by
  unfold isMb at h
  rw [Bool.and_eq_true] at h
  obtain ⟨h1, h2⟩ := h
  split at h2
  · rename_i o ho
    refine ⟨o.1, o.2, ?_, of_decide_eq_true h2⟩
    unfold Bds
    rw [if_pos h1]
    exact brun_of ho
  · cases h2
theorem TR_ok : ∀ k, OKR (TR k) := fun k => by
  match k with
  | 0 => exact okR_of (by decide +kernel)
  | 1 => exact okR_of (by decide +kernel)
  | 2 => exact okR_of (by decide +kernel)
  | 3 => exact okR_of (by decide +kernel)
  | _ + 4 => exact okR_of (show okRb (TR 4) = true by decide +kernel)
theorem TR_m : ∀ k, IsM (TR k) := fun k => by
  match k with
  | 0 => exact isM_of (by decide +kernel)
  | 1 => exact isM_of (by decide +kernel)
  | 2 => exact isM_of (by decide +kernel)
  | 3 => exact isM_of (by decide +kernel)
  | _ + 4 => exact isM_of (show isMb (TR 4) = true by decide +kernel)
theorem cut12 (a b c : D) : cutL [a, b, c] none (some 1) = [a] := rfl
theorem cut23 (a b c : D) : cutL [a, b, c] (some 2) none = [c] := rfl
theorem typed_spec {N : Nat} {way : Int} (h0 : 0 ≤ way) (h4 : way ≤ 4) {h : Hm} {Q : VQ} {E : XP} (q : Q (rulesD (TR way.toNat)) h) : FW P (N + 2) 169 [.int way] h Q E := by
  have T : ∀ (name : List Nat) (reg : Nat) (b : Int) (h : Hm) (Q : VQ) (E : XP), Q (ddD (turnD name reg b)) h → FW P (N + 1) 168 [.str name, .int (reg : Int), .int b] h Q E := fun name reg b h Q E q => turn_spec q
  refine fw_open (d := D169) rfl rfl ?_
  generalize FW P (N + 1) = F at T ⊢
  have hw : way = 0 ∨ way = 1 ∨ way = 2 ∨ way = 3 ∨ way = 4 := by omega
  unfold D169
  rcases hw with rfl | rfl | rfl | rfl | rfl
  · simp only [wpSs, wpS, wpE, wpEs, wpCs, wpP, wpPs, List.map, List.replicate, List.cons_append, List.nil_append, List.append_nil, List.getElem?_cons_zero, List.getElem?_cons_succ, jn, ws_some, List.length_cons, List.length_nil, List.set, at0, at1, at2, idx_tup, c_gt, c_lt, c_le, c_ge, c_is, c_isnt, c_eqI, c_neI, c_eqS, c_neS, c_eqB, c_neB, isS, isNonD, isBlD, t_bl, b_int, b_abs, b_max2, b_min2, b_lenT, o_add, o_sub, permD, Option.map_some, decide_true, if_true]
    refine ⟨by simp, by simp, by simp, ?_⟩
    refine T [100, 48] 0 1 _ _ _ ?_
    simp only [ddD, turnD, List.map, optI_int, optI_non, ws_some, slc_tup, cut12]
    rw [o_addT (by simp [LIM]), ws_some]
    refine T [100, 48] 0 1 _ _ _ ?_
    simp only [ddD, turnD, List.map, optI_int, optI_non, ws_some, slc_tup, cut23]
    rw [o_addT (by simp [LIM]), ws_some]
    exact q
  · simp only [wpSs, wpS, wpE, wpEs, wpCs, wpP, wpPs, List.map, List.replicate, List.cons_append, List.nil_append, List.append_nil, List.getElem?_cons_zero, List.getElem?_cons_succ, jn, ws_some, List.length_cons, List.length_nil, List.set, at0, at1, at2, idx_tup, c_gt, c_lt, c_le, c_ge, c_is, c_isnt, c_eqI, c_neI, c_eqS, c_neS, c_eqB, c_neB, isS, isNonD, isBlD, t_bl, b_int, b_abs, b_max2, b_min2, b_lenT, o_add, o_sub, permD, Option.map_some, show decide ((1 : Int) = 0) = false from by decide, Bool.false_eq_true, if_false, decide_true, if_true]
    refine ⟨by simp, ?_⟩
    refine T [100, 48] 0 1 _ _ _ ?_
    refine T [100, 49] 1 1 _ _ _ ?_
    exact q
  · simp only [wpSs, wpS, wpE, wpEs, wpCs, wpP, wpPs, List.map, List.replicate, List.cons_append, List.nil_append, List.append_nil, List.getElem?_cons_zero, List.getElem?_cons_succ, jn, ws_some, List.length_cons, List.length_nil, List.set, at0, at1, at2, idx_tup, c_gt, c_lt, c_le, c_ge, c_is, c_isnt, c_eqI, c_neI, c_eqS, c_neS, c_eqB, c_neB, isS, isNonD, isBlD, t_bl, b_int, b_abs, b_max2, b_min2, b_lenT, o_add, o_sub, permD, Option.map_some, show decide ((2 : Int) = 0) = false from by decide, show decide ((2 : Int) = 1) = false from by decide, Bool.false_eq_true, if_false, decide_true, if_true]
    refine T [100, 48] 0 1 _ _ _ ?_
    refine T [100, 49] 0 2 _ _ _ ?_
    exact q
  · simp only [wpSs, wpS, wpE, wpEs, wpCs, wpP, wpPs, List.map, List.replicate, List.cons_append, List.nil_append, List.append_nil, List.getElem?_cons_zero, List.getElem?_cons_succ, jn, ws_some, List.length_cons, List.length_nil, List.set, at0, at1, at2, idx_tup, c_gt, c_lt, c_le, c_ge, c_is, c_isnt, c_eqI, c_neI, c_eqS, c_neS, c_eqB, c_neB, isS, isNonD, isBlD, t_bl, b_int, b_abs, b_max2, b_min2, b_lenT, o_add, o_sub, permD, Option.map_some, show decide ((3 : Int) = 0) = false from by decide, show decide ((3 : Int) = 1) = false from by decide, show decide ((3 : Int) = 2) = false from by decide, Bool.false_eq_true, if_false, decide_true, if_true]
    refine ⟨by simp, ?_⟩
    refine T [100, 48] 0 1 _ _ _ ?_
    refine T [100, 49] 0 3 _ _ _ ?_
    exact q
  · simp only [wpSs, wpS, wpE, wpEs, wpCs, wpP, wpPs, List.map, List.replicate, List.cons_append, List.nil_append, List.append_nil, List.getElem?_cons_zero, List.getElem?_cons_succ, jn, ws_some, List.length_cons, List.length_nil, List.set, at0, at1, at2, idx_tup, c_gt, c_lt, c_le, c_ge, c_is, c_isnt, c_eqI, c_neI, c_eqS, c_neS, c_eqB, c_neB, isS, isNonD, isBlD, t_bl, b_int, b_abs, b_max2, b_min2, b_lenT, o_add, o_sub, permD, Option.map_some, show decide ((4 : Int) = 0) = false from by decide, show decide ((4 : Int) = 1) = false from by decide, show decide ((4 : Int) = 2) = false from by decide, show decide ((4 : Int) = 3) = false from by decide, show decide ((4 : Int) = 5) = false from by decide, Bool.false_eq_true, if_false]
    refine ⟨by simp, ?_⟩
    refine T [100, 48] 0 1 _ _ _ ?_
    refine T [100, 49] 1 1 _ _ _ ?_
    exact q
end M11

end
section
set_option Elab.async false
set_option linter.all false
set_option autoImplicit false
/-! some rules; columns -/
namespace M11
open M
/-- what _law_some_rules calls -/
structure SF (F : FnS) : Prop where
  take : ∀ (h : Hm) (a : Nat) (many : Int) (Q : VQ) (E : XP), BX h a → 0 < many → many < 1000000 → (∀ (d : Int) h', 0 ≤ d → d < many → BX h' a → MX a h h' → Q (.int d) h') → F 113 [.ref a, .int many] h Q E
  rules : ∀ (h : Hm) (a : Nat) (Q : VQ) (E : XP), BX h a → (∀ r h', OKR r → BX h' a → MX a h h' → Q (rulesD r) h') → F 167 [.ref a] h Q E
  typed : ∀ (way : Int) (h : Hm) (Q : VQ) (E : XP), 0 ≤ way → way ≤ 4 → Q (rulesD (TR way.toNat)) h → F 169 [.int way] h Q E
  mac : ∀ (r : Rules) (h : Hm) (Q : VQ) (E : XP), OKR r → (∀ h', h <+: h' → NoM r → Q .non h') → (∀ h' rows steps order M, h <+: h' → MRl r rows steps order M → Q (macM M) h') → F 164 [rulesD r] h Q E
/-- the machine is small -/
def Sm5 (r : Rules) : Prop := ∀ rows steps order M, MRl r rows steps order M → M.found.length ≤ 5
theorem found_le {r : Rules} {rows : List Row} {steps : List Stp} {order : List Nat} {M : Mac} (a : MRl r rows steps order M) : M.found.length ≤ steps.length := by
  have zl : (steps.map (cutF (goodR r rows steps))).length = steps.length := List.length_map _
  obtain ⟨ps, bo⟩ := a.mr.bo
  rw [a.mr.len]
  exact bo.bi.len (n := steps.length) fun x hx => by rw [← zl]; exact rnd_lt _ _ x hx
theorem TR_s : ∀ k, k < 4 → Sm5 (TR k) := fun k hk => by
  have key : ∀ r : Rules, (lawF r true (startF r) && match brunF r 30 [startF r] [] with
    | some o => decide (o.2.length ≤ 5)
    | none => false) = true → Sm5 r := fun r h rows steps order M a => by
    rw [Bool.and_eq_true] at h
    obtain ⟨h1, h2⟩ := h
    split at h2
    · rename_i o ho
      have hb : Bds r o := by
        unfold Bds
        rw [if_pos h1]
        exact brun_of ho
      have e := a.bds.det hb
      have h5 := of_decide_eq_true h2
      have := found_le a
      rw [← e] at h5
      exact Nat.le_trans this h5
    · cases h2
  match k, hk with
  | 0, _ => exact key _ (by decide +kernel)
  | 1, _ => exact key _ (by decide +kernel)
  | 2, _ => exact key _ (by decide +kernel)
  | 3, _ => exact key _ (by decide +kernel)
theorem SF.mk' {N : Nat} (hN : 40 ≤ N) : SF (FW P N) := by
  obtain ⟨n, rfl⟩ : ∃ n, N = n + 1 + 1 := ⟨N - 2, by omega⟩
  exact ⟨fun h a many Q E b m0 m1 k => take_bx (n := n + 1) b m0 m1 k, fun h a Q E b k => anyrules_spec (N := n + 1) (by omega) b k, fun way h Q E w0 w4 q => typed_spec (N := n) w0 w4 q, fun r h Q E ok q0 q1 => machine_spec (N := n + 1) (by omega) ok q0 q1⟩
def T170 : List CS := [
    .asg (.slot 4) (.call 164 [(.loc 3)] [] [0]),
    .ite (.and (.cmp .isnt (.loc 4) (.lit .non)) (.chn .le .le (.lit (.int (2))) (.blt .len [(.idx (.loc 4) (.lit (.int (0))))]) (.loc 1))) [
      .ret (.loc 3)] []]
theorem d170_eq : D170 = ⟨2, 5, [
  .for_ (.slot 2) .range [(.lit (.int (6)))] (.asg (.slot 3) (.ife (.cmp .gt (.call 113 [(.loc 0), (.lit (.int (3)))] [] [0, 1]) (.lit (.int (0)))) (.call 167 [(.loc 0)] [] [0]) (.call 169 [(.call 113 [(.loc 0), (.lit (.int (5)))] [] [0, 1])] [] [0])) :: T170),
  .ret (.call 169 [(.ife (.cmp .gt (.loc 1) (.lit (.int (3)))) (.call 113 [(.loc 0), (.lit (.int (4)))] [] [0, 1]) (.lit (.int (2))))] [] [0])]⟩ := rfl
theorem t170 {F : FnS} (C : SF F) {E : XP} {r : Rules} (ok : OKR r) {h : Hm} {x0 x2 x4 : Option D} {Z : Ends} (qn : ∀ h' x4, h <+: h' → Z.nx [x0, some (.int 5), x2, some (rulesD r), x4] h') (qr : ∀ h', h <+: h' → IsM r → Sm5 r → Z.rt (rulesD r) h') : wpSs F E T170 [x0, some (.int 5), x2, some (rulesD r), x4] h Z := by
  unfold T170
  rw [wpSs, wpS]
  simp only [wpE, wpEs, List.getElem?_cons_succ, List.getElem?_cons_zero, Option.join_some, ws_some, permD, List.append_nil, wpP, List.set]
  refine C.mac r h _ _ ok (fun h1 p1 nm => ?_) fun h1 rows steps order M p1 mo => ?_
  · refine ⟨by simp, ?_⟩
    rw [wpSs, wpS]
    simp only [wpE, List.getElem?_cons_succ, List.getElem?_cons_zero, Option.join_some, ws_some, c_isnt, isS, isNonD, Option.map_some, t_bl, Bool.not_true, Bool.false_eq_true, if_false]
    rw [wpSs]
    dsimp only
    rw [wpSs]
    exact qn h1 _ p1
  · refine ⟨by simp, ?_⟩
    rw [wpSs, wpS]
    simp only [wpE, wpEs, List.getElem?_cons_succ, List.getElem?_cons_zero, Option.join_some, ws_some, c_isnt, macM, macD, isS, isNonD, Option.map_some, t_bl, Bool.not_false, if_true, idx_tup, at0, b_lenT, c_le]
    by_cases c : decide ((2 : Int) ≤ ((M.found.map stepD).length : Int)) = true
    · rw [if_pos c]
      split
      · rename_i c5
        have c5 : decide (((M.found.map stepD).length : Int) ≤ 5) = true := c5
        rw [List.length_map] at c5
        have c5 := of_decide_eq_true c5
        rw [wpSs, wpS, wpE]
        refine qr h1 p1 ⟨rows, steps, mo.bds, mo.good⟩ fun rows' steps' order' M' mo' => ?_
        rw [mo'.det mo]
        omega
      · rw [wpSs]
        dsimp only
        rw [wpSs]
        exact qn h1 _ p1
    · rw [if_neg c, if_neg (by decide), wpSs]
      dsimp only
      rw [wpSs]
      exact qn h1 _ p1
theorem some_spec {N : Nat} (hN : 40 ≤ N) {h : Hm} {a : Nat} {Q : VQ} {E : XP} (bx : BX h a) (k : ∀ r h', OKR r → IsM r → Sm5 r → BX h' a → MX a h h' → Q (rulesD r) h') : FW P (N + 1) 170 [.ref a, .int 5] h Q E := by
  refine fw_open (d := D170) rfl rfl ?_
  rw [d170_eq]
  have C := SF.mk' hN
  generalize FW P N = F at C ⊢
  simp only [List.map, List.replicate, List.cons_append, List.nil_append]
  rw [wpSs, wpS]
  simp only [wpE, wpEs]
  rw [it_range (by omega) (by omega), ws_some]
  refine forL_inv (fun l env h' => ∃ (x2 x3 x4 : Option D), BX h' a ∧ MX a h h' ∧ env = [some (.ref a), some (.int 5), x2, x3, x4])
    (fun _ _ _ _ => still_nil) (fun x l env h' R hi kk => ?_) (fun env h' hi => ?_) _ _ _ ⟨_, _, _, bx, MX.refl _ _, rfl⟩
  · obtain ⟨x2, x3, x4, bx, mx, rfl⟩ := hi
    simp only [wpP, List.set]
    refine ⟨by simp, ?_⟩
    rw [wpSs, wpS]
    simp only [wpE, wpEs, List.getElem?_cons_succ, List.getElem?_cons_zero, Option.join_some, ws_some, permD, List.append_nil, wpP, List.set]
    refine C.take _ _ _ _ _ bx (by omega) (by omega) fun t h1 t0 t1 bx1 mx1 => ?_
    rw [c_gt, ws_some, t_bl, ws_some]
    have tail : ∀ (r : Rules) (h2 : Hm), OKR r → BX h2 a → MX a h' h2 → wpSs F E T170 [some (.ref a), some (.int 5), some x, some (rulesD r), x4] h2 { nx := R, ct := R, bk := fun e' h' => wpSs F E [.ret (.call 169 [(.ife (.cmp .gt (.loc 1) (.lit (.int (3)))) (.call 113 [(.loc 0), (.lit (.int (4)))] [] [0, 1]) (.lit (.int (2))))] [] [0])] e' h' { nx := fun x h' => Q D.non h', rt := Q, bk := fun x x_1 => False, ct := fun x x_1 => False }, rt := Q } := fun r h2 ok bx2 mx2 =>
      t170 C ok (fun h3 x4 p3 => kk _ _ ⟨_, _, _, bx2.pre p3, mx.trans (mx2.trans (MX.pre p3)), rfl⟩) fun h3 p3 im sm => k r h3 ok im sm (bx2.pre p3) (mx.trans (mx2.trans (MX.pre p3)))
    by_cases c : 0 < t
    · rw [decide_eq_true c, if_pos rfl]
      refine C.rules _ _ _ _ bx1 fun r h2 ok bx2 mx2 => ?_
      refine ⟨by simp, ?_⟩
      exact tail r h2 ok bx2 (mx1.trans mx2)
    · rw [decide_eq_false c, if_neg (by decide)]
      refine C.take _ _ _ _ _ bx1 (by omega) (by omega) fun t h2 t0 t1 bx2 mx2 => ?_
      refine C.typed _ _ _ _ t0 (by omega) ?_
      refine ⟨by simp, ?_⟩
      exact tail _ h2 (TR_ok _) bx2 (mx1.trans mx2)
  · obtain ⟨x2, x3, x4, bx, mx, rfl⟩ := hi
    rw [wpSs, wpS]
    simp only [wpE, wpEs, List.getElem?_cons_succ, List.getElem?_cons_zero, Option.join_some, ws_some, permD, List.append_nil, c_gt, t_bl]
    rw [show decide ((3 : Int) < 5) = true from rfl, if_pos rfl]
    refine C.take _ _ _ _ _ bx (by omega) (by omega) fun t h2 t0 t1 bx2 mx2 => ?_
    refine C.typed _ _ _ _ t0 (by omega) ?_
    exact k _ h2 (TR_ok _) (TR_m _) (TR_s _ (by omega)) bx2 (mx.trans mx2)
end M11

end
section
set_option Elab.async false
set_option linter.all false
set_option autoImplicit false
/-! all rows of deeds so long -/
namespace M11
open M
def rwD (w : List Nat) : D := .tup (natsD w)
theorem ext_at {h : Hm} {a b : Nat} {xs ys : List D} (e1 : h[a]? = some (.lst xs)) (e2 : h[b]? = some (.lst ys)) (hab : a ≠ b) (hl : xs.length + ys.length ≤ LIM) : bltS .extend [.ref a, .ref b] h = some (.non, h.set a (.lst (xs ++ ys))) := by
  have g1 : getM h a = some xs := by unfold getM; rw [e1]
  have g2 : getM h b = some ys := by unfold getM; rw [e2]
  simp only [bltS, g1, g2, Option.bind_some]
  rw [if_pos ⟨hl, hab⟩]
theorem rec_ext {h : Hm} {a : Nat} {xs : List D} (e : h[a]? = some (.lst xs)) : recvOK .extend (.ref a) h = true := by
  show (getL h a).isSome = true
  unfold getL; rw [e]; rfl
theorem o_addLL {h : Hm} {a b : Nat} {xs ys : List D} (e1 : h[a]? = some (.lst xs)) (e2 : h[b]? = some (.lst ys)) (hl : xs.length + ys.length ≤ LIM) : binS .add (.ref a) (.ref b) h = some (.ref h.length, h ++ [.lst (xs ++ ys)]) := by
  have g1 : getM h a = some xs := by unfold getM; rw [e1]
  have g2 : getM h b = some ys := by unfold getM; rw [e2]
  simp only [binS, g1, g2]
  rw [if_pos hl]
  rfl
def nxF (m : Nat) (L : List (List Nat)) : List (List Nat) := L.flatMap fun row => (List.range m).map fun d => row ++ [d]
theorem nx_len {m : Nat} (hm : m ≤ 10) : ∀ L : List (List Nat), (nxF m L).length ≤ 10 * L.length
  | [] => Nat.zero_le _
  | x :: L => by
    have := nx_len hm L
    unfold nxF at this ⊢
    rw [List.flatMap_cons, List.length_append, List.length_map, List.length_range, List.length_cons]
    omega
theorem lv_len {m : Nat} (hm : m ≤ 10) : ∀ k, (lvF m k).length ≤ 10 ^ k
  | 0 => Nat.le_refl _
  | k + 1 => by
    have h1 := lv_len hm k
    have h2 : (lvF m (k + 1)).length ≤ 10 * (lvF m k).length := nx_len hm _
    rw [Nat.pow_succ]
    omega
theorem ar_len {m : Nat} (hm : m ≤ 10) : ∀ k, (arF m k).length ≤ 2 * 10 ^ k
  | 0 => by show 1 ≤ 2; omega
  | k + 1 => by
    have h1 := ar_len hm k
    have h2 := lv_len hm (k + 1)
    show (arF m k ++ lvF m (k + 1)).length ≤ _
    rw [List.length_append]
    rw [Nat.pow_succ] at h2 ⊢
    omega
theorem pow_le {k : Nat} (hk : k ≤ 5) : 10 ^ k ≤ 100000 := by
  rcases (show k = 0 ∨ k = 1 ∨ k = 2 ∨ k = 3 ∨ k = 4 ∨ k = 5 by omega) with rfl | rfl | rfl | rfl | rfl | rfl <;> decide
theorem lv_len5 {m k : Nat} (hm : m ≤ 10) (hk : k ≤ 5) : (lvF m k).length ≤ 100000 := Nat.le_trans (lv_len hm k) (pow_le hk)
theorem ar_len5 {m k : Nat} (hm : m ≤ 10) (hk : k ≤ 5) : (arF m k).length ≤ 200000 := by
  have h1 := ar_len hm k
  have h2 := pow_le hk
  omega
def I171 : List CS := [
      .expr (.meth .extend (.loc 5) [(.comp [7] (.slot 7) .range [(.loc 0)] [] (.bin .add (.loc 6) (.tup [(.loc 7)])))])]
def T171 : List CS := [
    .asg (.slot 4) (.loc 5),
    .asg (.slot 3) (.bin .add (.loc 3) (.loc 4))]
def B171 : List CS := .asg (.slot 5) (.lst []) :: .for_ (.slot 6) .val [(.loc 4)] I171 :: T171
theorem d171_eq : D171 = ⟨2, 8, [
  .asg (.tup [(.slot 3), (.slot 4)]) (.tup [(.lst [(.tup [])]), (.lst [(.tup [])])]),
  .for_ (.slot 2) .range [(.loc 1)] B171,
  .ret (.loc 3)]⟩ := rfl
theorem i171 {F : FnS} {E : XP} {m : Nat} (hm : m ≤ 10) {row : List Nat} (hr : row.length ≤ 10) {h : Hm} {r5 : Nat} {acc : List (List Nat)} (ha : acc.length ≤ 1000000) (e5 : h[r5]? = some (.lst (acc.map rwD))) {x1 x2 x3 x4 x7 : Option D} {Z : Ends}
    (q : ∀ h', h <+: h' → h'[r5]? = some (.lst (acc.map rwD)) → Z.nx [some (.int (m : Int)), x1, x2, x3, x4, some (.ref r5), some (rwD row), x7] (h'.set r5 (.lst ((acc ++ (List.range m).map fun d => row ++ [d]).map rwD)))) :
    wpSs F E I171 [some (.int (m : Int)), x1, x2, x3, x4, some (.ref r5), some (rwD row), x7] h Z := by
  unfold I171
  rw [wpSs, wpS]
  simp only [wpE, wpEs, List.getElem?_cons_succ, List.getElem?_cons_zero, Option.join_some, ws_some]
  refine ⟨rec_ext e5, ?_⟩
  rw [it_range (by omega) (by omega), ws_some, Int.toNat_natCast, range_map]
  refine comp_enc (xs := List.range m) (fun (k : Nat) => D.int (k : Int)) (fun d => some (rwD (row ++ [d]))) still_nil (by simp; unfold LIM; omega) (fun d hd h2 R2 p2 k2 => ?_) fun h2 p2 e2 => ?_
  · simp only [wpP, wpCs, wipeE, List.set]
    refine ⟨by simp, ?_⟩
    rw [if_pos trivial]
    simp only [List.getElem?_cons_succ, List.getElem?_cons_zero, Option.join_some, ws_some, List.foldl, List.set, rwD]
    rw [tadd (by omega), ws_some]
    exact k2 h2 (List.prefix_refl _)
  · rw [filterMap_some] at e2
    have hlt : r5 < h.length := (List.getElem?_eq_some_iff.mp e5).1
    rw [ext_at (pre_at p2 e5) e2 (by omega) (by rw [List.length_map, List.length_map, List.length_range]; unfold LIM; omega), ws_some, wpSs]
    have := q h2 p2 (pre_at p2 e5)
    rw [List.map_append, List.map_map] at this
    exact this
theorem b171 {F : FnS} {E : XP} {m j k : Nat} (hm : m ≤ 10) (hj : j < k) (hk : k ≤ 5) {h : Hm} {r3 r4 : Nat} (e3 : h[r3]? = some (.lst ((arF m j).map rwD))) (e4 : h[r4]? = some (.lst ((lvF m j).map rwD))) {x1 x2 x5 x6 x7 : Option D} {Z : Ends}
    (q : ∀ h' r3 r4 x5 x6, h <+: h' → h'[r3]? = some (.lst ((arF m (j + 1)).map rwD)) → h'[r4]? = some (.lst ((lvF m (j + 1)).map rwD)) → Z.nx [some (.int (m : Int)), x1, x2, some (.ref r3), some (.ref r4), x5, x6, x7] h') :
    wpSs F E B171 [some (.int (m : Int)), x1, x2, some (.ref r3), some (.ref r4), x5, x6, x7] h Z := by
  unfold B171
  rw [wpSs, wpS]
  simp only [wpE, wpEs, wpP, List.set]
  refine ⟨by simp, ?_⟩
  rw [wpSs, for_wp]
  simp only [wpE, wpEs, List.getElem?_cons_succ, List.getElem?_cons_zero, Option.join_some, ws_some]
  rw [it_lst (pre_at pre_one e4), ws_some]
  refine forL_inv (fun l env h' => ∃ (dn rest : List (List Nat)) (x6 : Option D), lvF m j = dn ++ rest ∧ l = rest.map rwD ∧ h <+: h' ∧ h'[h.length]? = some (.lst ((nxF m dn).map rwD)) ∧ env = [some (.int (m : Int)), x1, x2, some (.ref r3), some (.ref r4), some (.ref h.length), x6, x7])
    (fun _ _ _ ⟨_, _, _, _, _, p, _⟩ => still_one (pre_at p e4)) (fun x l env h' R hi kk => ?_) (fun env h' hi => ?_) _ _ _ ⟨[], lvF m j, x6, rfl, rfl, pre_one, last_at, rfl⟩
  · obtain ⟨dn, rest, x6, hl, hx, p, e5, rfl⟩ := hi
    cases rest with
    | nil => cases hx
    | cons row rest =>
      rw [List.map_cons] at hx
      cases hx
      simp only [wpP, List.set]
      refine ⟨by simp, ?_⟩
      have hrm : row ∈ lvF m j := by rw [hl]; simp
      have hrl := (mem_lv.mp hrm).2
      have hdn : dn.length ≤ (lvF m j).length := by rw [hl]; simp
      have hl5 := lv_len5 hm (show j ≤ 5 by omega)
      have hnx := nx_len hm dn
      refine i171 hm (by omega) (by omega) e5 fun h2 p2 e52 => ?_
      refine kk _ _ ⟨dn ++ [row], rest, _, by rw [hl]; simp, rfl, pre_set (p.trans p2) (Nat.le_refl _) _, ?_, rfl⟩
      rw [set_at e52]
      unfold nxF
      rw [List.flatMap_append, List.flatMap_singleton]
  · obtain ⟨dn, rest, x6, hl, hx, p, e5, rfl⟩ := hi
    have hr0 : rest = [] := List.map_eq_nil_iff.mp hx.symm
    subst hr0
    rw [List.append_nil] at hl
    rw [← hl] at e5
    have e5 : h'[h.length]? = some (.lst ((lvF m (j + 1)).map rwD)) := e5
    unfold T171
    rw [wpSs, wpS]
    simp only [wpE, wpP, List.set, List.getElem?_cons_succ, List.getElem?_cons_zero, Option.join_some, ws_some]
    refine ⟨by simp, ?_⟩
    rw [wpSs, wpS]
    simp only [wpE, wpP, List.set, List.getElem?_cons_succ, List.getElem?_cons_zero, Option.join_some, ws_some]
    have h1 := lv_len5 hm (show j + 1 ≤ 5 by omega)
    have h2 := ar_len5 hm (show j ≤ 5 by omega)
    rw [o_addLL (pre_at p e3) e5 (by rw [List.length_map, List.length_map]; unfold LIM; omega), ws_some]
    refine ⟨by simp, ?_⟩
    rw [wpSs]
    exact q _ _ _ _ _ (p.trans pre_one) (by rw [last_at]; show _ = some (Cell.lst ((arF m j ++ lvF m (j + 1)).map rwD)); rw [List.map_append]) (pre_at pre_one e5)
theorem allrows_spec {N m k : Nat} (hm : m ≤ 10) (hk : k ≤ 5) {h : Hm} {Q : VQ} {E : XP} (q : ∀ h' r, h <+: h' → h'[r]? = some (.lst ((arF m k).map rwD)) → Q (.ref r) h') : FW P (N + 1) 171 [.int (m : Int), .int (k : Int)] h Q E := by
  refine fw_open (d := D171) rfl rfl ?_
  generalize FW P N = F
  rw [d171_eq]
  simp only [List.map, List.replicate, List.cons_append, List.nil_append]
  rw [wpSs, wpS]
  simp only [wpE, wpEs, wpP, wpPs, List.set, ws_some]
  refine ⟨by simp, by simp, ?_⟩
  rw [wpSs, for_wp]
  simp only [wpE, wpEs, List.getElem?_cons_succ, List.getElem?_cons_zero, Option.join_some, ws_some]
  rw [it_range (by omega) (by omega), ws_some, Int.toNat_natCast]
  refine forL_inv (fun l env h' => ∃ (j r3 r4 : Nat) (x2 x5 x6 : Option D), l = (rngD 0 k).drop j ∧ j ≤ k ∧ h <+: h' ∧ h'[r3]? = some (.lst ((arF m j).map rwD)) ∧ h'[r4]? = some (.lst ((lvF m j).map rwD)) ∧ env = [some (.int (m : Int)), some (.int (k : Int)), x2, some (.ref r3), some (.ref r4), x5, x6, none])
    (fun _ _ _ _ => still_nil) (fun x l env h' R hi kk => ?_) (fun env h' hi => ?_) _ _ _ ⟨0, h.length, (h ++ [Cell.lst [D.tup []]]).length, none, none, none, rfl, Nat.zero_le _, pre_one.trans pre_one, pre_at pre_one last_at, last_at, rfl⟩
  · obtain ⟨j, r3, r4, x2, x5, x6, hl, hj, p, e3, e4, rfl⟩ := hi
    have hjk : j < k := by
      rcases Nat.lt_or_ge j k with z | z
      · exact z
      · rw [rng_end z] at hl; cases hl
    rw [rng_drop hjk] at hl
    cases hl
    simp only [wpP, List.set]
    refine ⟨by simp, ?_⟩
    exact b171 hm hjk hk e3 e4 fun h2 r3 r4 x5 x6 p2 e3 e4 => kk _ _ ⟨j + 1, r3, r4, _, x5, x6, rfl, hjk, p.trans p2, e3, e4, rfl⟩
  · obtain ⟨j, r3, r4, x2, x5, x6, hl, hj, p, e3, e4, rfl⟩ := hi
    have hjk : j = k := by
      rcases Nat.lt_or_ge j k with z | z
      · rw [rng_drop z] at hl; cases hl
      · omega
    subst hjk
    rw [wpSs, wpS, wpE]
    simp only [List.getElem?_cons_succ, List.getElem?_cons_zero, Option.join_some, ws_some]
    exact q h' r3 p e3
end M11

end
section
set_option Elab.async false
set_option linter.all false
set_option autoImplicit false
/-! parting deeds: the mathematics, the inner loop -/
namespace M11
open M
abbrev Pr := Option Nat × Option Nat
def prT (M : Mac) (s : Pr) (d : Nat) : Option Pr := some (stO M s.1 d, stO M s.2 d)
theorem runF_snoc {M : Mac} {a : Option Nat} {w : List Nat} {d : Nat} : runF M.found a (w ++ [d]) = stO M (runF M.found a w) d := by
  rw [runF_app]; rfl
theorem run_pr {M : Mac} {a b : Option Nat} (w : List Nat) : runT (prT M) (a, b) w = some (runF M.found a w, runF M.found b w) := by
  induction w using snoc_ind with
  | h0 => rfl
  | h1 w d ih => rw [runT_snoc, ih, runF_snoc, runF_snoc]; rfl
theorem nd_le {n : Nat} {l : List Nat} (nd : l.Nodup) (h : ∀ x ∈ l, x < n) : l.length ≤ n := by
  have := nd.length_le_of_subset (l₂ := List.range n) fun x hx => List.mem_range.mpr (h x hx)
  rw [List.length_range] at this
  exact this
theorem nd_map {α β : Type} {f : α → β} : ∀ {l : List α}, l.Nodup → (∀ x ∈ l, ∀ y ∈ l, f x = f y → x = y) → (l.map f).Nodup
  | [], _, _ => List.nodup_nil
  | x :: l, nd, h => by
    obtain ⟨h1, h2⟩ := List.nodup_cons.mp nd
    rw [List.map_cons, List.nodup_cons]
    refine ⟨fun z => ?_, nd_map h2 fun a ha b hb => h a (List.mem_cons_of_mem _ ha) b (List.mem_cons_of_mem _ hb)⟩
    obtain ⟨y, hy, e⟩ := List.mem_map.mp z
    have := h x List.mem_cons_self y (List.mem_cons_of_mem _ hy) e.symm
    rw [this] at h1
    exact h1 hy
def oc (a : Option Nat) : Nat := match a with
  | none => 0
  | some x => x + 1
theorem oc_inj {a b : Option Nat} (h : oc a = oc b) : a = b := by
  cases a <;> cases b <;> simp [oc] at h ⊢ <;> exact h
theorem oc_lt {n : Nat} {a : Option Nat} (h : InS n a) : oc a ≤ n := by
  cases a with
  | none => exact Nat.zero_le _
  | some x => exact h x rfl
theorem pr_le {n : Nat} (hn : n ≤ 27) {l : List Pr} (nd : l.Nodup) (h : ∀ p ∈ l, InS n p.1 ∧ InS n p.2) : l.length ≤ 784 := by
  have := nd_le (n := 784) (l := l.map fun p => oc p.1 * 28 + oc p.2) (nd_map nd fun x hx y hy e => ?_) fun x hx => ?_
  · rw [List.length_map] at this; exact this
  · have h1 := oc_lt (h x hx).1
    have h2 := oc_lt (h x hx).2
    have h3 := oc_lt (h y hy).1
    have h4 := oc_lt (h y hy).2
    exact Prod.ext (oc_inj (by omega)) (oc_inj (by omega))
  · obtain ⟨p, hp, rfl⟩ := List.mem_map.mp hx
    have h1 := oc_lt (h p hp).1
    have h2 := oc_lt (h p hp).2
    omega
theorem pr_in {m : Nat} {M : Mac} (L : WM m M) {a b : Option Nat} (ha : InS M.found.length a) (hb : InS M.found.length b) {line : List (List Nat × Pr)} {spot dd : Nat} (s : SI (prT M) m (a, b) line spot dd) : ∀ e ∈ line, okW m e.1 ∧ InS M.found.length e.2.1 ∧ InS M.found.length e.2.2 ∧ e.2 = (runF M.found a e.1, runF M.found b e.1) := fun e he => by
  obtain ⟨h1, h2⟩ := s.run e he
  rw [run_pr] at h2
  cases h2' : e.2 with
  | mk x y =>
    rw [h2'] at h2
    cases h2
    exact ⟨h1, run_in L ha h1, run_in L hb h1, rfl⟩
theorem line_le {m : Nat} {M : Mac} (L : WM m M) {a b : Option Nat} (ha : InS M.found.length a) (hb : InS M.found.length b) {line : List (List Nat × Pr)} {spot dd : Nat} (s : SI (prT M) m (a, b) line spot dd) : line.length ≤ 784 := by
  have := pr_le L.n2 s.nd fun p hp => by
    obtain ⟨e, he, rfl⟩ := List.mem_map.mp hp
    have := pr_in L ha hb s e he
    exact ⟨this.2.1, this.2.2.1⟩
  rw [List.length_map] at this
  exact this
/-- when all is gone through: no row tells the two apart -/
theorem part_none {m : Nat} {M : Mac} (hm : 1 ≤ m) {a b : Option Nat} {line : List (List Nat × Pr)} {spot : Nat} (s : SI (prT M) m (a, b) line spot 0) (hs : line.length ≤ spot) (ht : ∀ i e, i < spot → line[i]? = some e → tellF M e.2.1 = tellF M e.2.2) (v : List Nat) (ov : okW m v) : tellF M (runF M.found a v) = tellF M (runF M.found b v) := by
  rcases si_cov s hm v ov _ (run_pr v) with ⟨i, f, h1, h2, h3, h4⟩ | ⟨i, f, h1, h2, h3⟩
  · have := ht i f h1 h2
    rw [h3] at this
    exact this
  · have := (List.getElem?_eq_some_iff.mp h2).1
    omega
/-- the row at the spot is the least that tells the two apart -/
theorem part_some {m : Nat} {M : Mac} (hm : 1 ≤ m) {a b : Option Nat} {line : List (List Nat × Pr)} {spot : Nat} (s : SI (prT M) m (a, b) line spot 0) (ht : ∀ i e, i < spot → line[i]? = some e → tellF M e.2.1 = tellF M e.2.2) {e : List Nat × Pr} (he : line[spot]? = some e) (v : List Nat) (ov : okW m v) (hv : tellF M (runF M.found a v) ≠ tellF M (runF M.found b v)) : code m e.1 ≤ code m v := by
  rcases si_cov s hm v ov _ (run_pr v) with ⟨i, f, h1, h2, h3, h4⟩ | ⟨i, f, h1, h2, h3⟩
  · have := ht i f h1 h2
    rw [h3] at this
    exact absurd this hv
  · rcases Nat.lt_or_eq_of_le h1 with z | z
    · have := List.pairwise_iff_getElem.mp s.sorted spot i (List.getElem?_eq_some_iff.mp he).1 (List.getElem?_eq_some_iff.mp h2).1 z
      rw [(List.getElem?_eq_some_iff.mp he).2, (List.getElem?_eq_some_iff.mp h2).2] at this
      omega
    · subst z
      rw [he] at h2
      cases h2
      exact h3
instance : DecidableEq Pr := fun a b => decidable_of_iff (a.1 = b.1 ∧ a.2 = b.2) ⟨fun h => Prod.ext h.1 h.2, fun h => h ▸ ⟨rfl, rfl⟩⟩
def prD (p : Pr) : D := .tup [optD p.1, optD p.2]
def entD (e : List Nat × Pr) : D := .tup [rwD e.1, optD e.2.1, optD e.2.2]
theorem pure_opt (o : Option Nat) : pureD (optD o) = true ∧ dep (optD o) = 0 := by cases o <;> exact ⟨rfl, rfl⟩
def encP : Enc Pr where
  e := prD
  eq := fun a b => by
    obtain ⟨a1, a2⟩ := a
    obtain ⟨b1, b2⟩ := b
    simp only [prD, eqD, eqDs, eq_opt, Bool.and_true, Prod.mk.injEq]
    by_cases h1 : a1 = b1 <;> by_cases h2 : a2 = b2 <;> simp [h1, h2]
  ok := fun a => by
    obtain ⟨h1, h2⟩ := pure_opt a.1
    obtain ⟨h3, h4⟩ := pure_opt a.2
    simp [prD, keyOK, pureDs, deps, h1, h2, h3, h4]
  tup := true
  tp := fun _ => rfl
def yesd (_ : Nat) : D := .bl true
def pb (line : List (List Nat × Pr)) : List (Pr × Nat) := line.map fun e => (e.2, 0)
theorem pb_keys (line : List (List Nat × Pr)) : (pb line).map (·.1) = line.map (·.2) := by
  unfold pb; rw [List.map_map]; rfl
def C153 : List CS := [
        .set (.loc 5) (.loc 10) (.lit (.bl true)),
        .expr (.meth .append (.loc 3) [(.bin .add (.tup [(.bin .add (.loc 7) (.tup [(.loc 6)]))]) (.loc 10))])]
def I153 : List CS := [
      .asg (.slot 10) (.blt .tuple [(.comp [1] (.slot 1) .val [(.tup [(.loc 8), (.loc 9)])] [] (stE 1 6))]),
      .ite (.cmp .notin (.loc 10) (.loc 5)) C153 []]
theorem c153 {F : FnS} {E : XP} {line : List (List Nat × Pr)} (hl : line.length ≤ 900) {w : List Nat} (hw : w.length ≤ 900) {d : Nat} {s' : Pr} (hn : s' ∉ line.map (·.2)) {h : Hm} {r3 r5 : Nat} (h35 : r3 ≠ r5) (e3 : h[r3]? = some (.lst (line.map entD))) (e5 : h[r5]? = some (.dct (encL encP yesd (pb line)))) {x0 x1 x2 x4 x8 x9 : Option D} {Z : Ends}
    (q : ∀ h', h'[r3]? = some (.lst ((line ++ [(w ++ [d], s')]).map entD)) → h'[r5]? = some (.dct (encL encP yesd (pb (line ++ [(w ++ [d], s')])))) → (∀ hb : Hm, hb <+: h → hb.length ≤ r3 → hb.length ≤ r5 → hb <+: h') → Z.nx [x0, x1, x2, some (.ref r3), x4, some (.ref r5), some (.int (d : Int)), some (rwD w), x8, x9, some (prD s')] h') :
    wpSs F E C153 [x0, x1, x2, some (.ref r3), x4, some (.ref r5), some (.int (d : Int)), some (rwD w), x8, x9, some (prD s')] h Z := by
  have hlk : look (pb line) s' = none := by
    cases e : look (pb line) s' with
    | none => rfl
    | some v =>
      have : s' ∈ (pb line).map (·.1) := List.mem_map.mpr ⟨_, look_mem e, rfl⟩
      rw [pb_keys] at this
      exact absurd this hn
  have hin : keyIn (encL encP yesd (pb line)) (prD s') = true := enc_in encP yesd (pb line) s'
  have hput : dput (encL encP yesd (pb line)) (prD s') (.bl true) = encL encP yesd (pb (line ++ [(w ++ [d], s')])) := by
    have h1 : dput (encL encP yesd (pb line)) (prD s') (.bl true) = encL encP yesd (put (pb line) s' 0) := enc_put encP yesd (pb line) s' 0
    rw [h1, put_new hlk]
    unfold pb
    rw [List.map_append]; rfl
  have hset : setS (.ref r5) (prD s') (.bl true) h = some (h.set r5 (.dct (encL encP yesd (pb (line ++ [(w ++ [d], s')]))))) := by
    simp only [setS, e5]
    rw [if_pos ⟨hin, by unfold encL pb; rw [List.length_map, List.length_map]; unfold LIM; omega⟩, hput]
  unfold C153
  rw [wpSs, wpS]
  simp only [wpE, wpEs, List.getElem?_cons_succ, List.getElem?_cons_zero, Option.join_some, ws_some]
  rw [hset, ws_some, wpSs, wpS]
  have e32 : (h.set r5 (.dct (encL encP yesd (pb (line ++ [(w ++ [d], s')])))))[r3]? = some (.lst (line.map entD)) := by
    rw [List.getElem?_set_ne h35.symm]; exact e3
  simp only [wpE, wpEs, List.getElem?_cons_succ, List.getElem?_cons_zero, Option.join_some, ws_some]
  refine ⟨rec_app e32, ?_⟩
  unfold rwD prD
  rw [tadd (by omega), ws_some]
  rw [o_addT (by simp [LIM]), ws_some]
  rw [app_at e32 (by rw [List.length_map]; omega), ws_some, wpSs]
  refine q _ ?_ ?_ fun hb p l3 l5 => pre_set (pre_set p l5 _) l3 _
  · rw [set_at e32, List.map_append]; rfl
  · rw [List.getElem?_set_ne h35]
    exact set_at e5
theorem i153 {F : FnS} {E : XP} {m : Nat} {M : Mac} (L : WM m M) {line : List (List Nat × Pr)} (hl : line.length ≤ 900) {w : List Nat} (hw : w.length ≤ 900) {s : Pr} (hs1 : InS M.found.length s.1) (hs2 : InS M.found.length s.2) {d : Nat} (hd : d < m) {h : Hm} {r3 r5 : Nat} (h35 : r3 ≠ r5) (e3 : h[r3]? = some (.lst (line.map entD))) (e5 : h[r5]? = some (.dct (encL encP yesd (pb line)))) {x1 x2 x4 x10 : Option D} {Z : Ends}
    (q : ∀ h' x10, h'[r3]? = some (.lst ((ad (prT M) w s line d).map entD)) → h'[r5]? = some (.dct (encL encP yesd (pb (ad (prT M) w s line d)))) → (∀ hb : Hm, hb <+: h → hb.length ≤ r3 → hb.length ≤ r5 → hb <+: h') → Z.nx [some (macM M), x1, x2, some (.ref r3), x4, some (.ref r5), some (.int (d : Int)), some (rwD w), some (optD s.1), some (optD s.2), x10] h') :
    wpSs F E I153 [some (macM M), x1, x2, some (.ref r3), x4, some (.ref r5), some (.int (d : Int)), some (rwD w), some (optD s.1), some (optD s.2), x10] h Z := by
  unfold I153
  rw [wpSs, wpS]
  simp only [wpE, wpEs, List.getElem?_cons_succ, List.getElem?_cons_zero, Option.join_some, ws_some]
  rw [it_tup, ws_some]
  refine comp_enc (xs := [s.1, s.2]) optD (fun o => some (optD (stO M o d))) still_nil (by simp [LIM]) (fun o ho h2 R2 p2 k2 => ?_) fun h2 p2 e2 => ?_
  · simp only [wpP, wpCs, wipeE, List.set]
    refine ⟨by simp, ?_⟩
    rw [if_pos trivial]
    have hio : InS M.found.length o := by
      rcases List.mem_cons.mp ho with rfl | ho
      · exact hs1
      · rw [List.mem_singleton.mp ho]; exact hs2
    exact st_e L (d := d) rfl rfl rfl hio hd (k2 h2 (List.prefix_refl _))
  · rw [filterMap_some] at e2
    rw [b_tupleL e2, ws_some]
    simp only [wpP, List.set]
    refine ⟨by simp, ?_⟩
    rw [wpSs, wpS]
    simp only [wpE, List.getElem?_cons_succ, List.getElem?_cons_zero, Option.join_some, ws_some]
    have hp : D.tup (List.map (fun o => optD (stO M o d)) [s.1, s.2]) = prD (stO M s.1 d, stO M s.2 d) := rfl
    rw [hp]
    generalize hs' : ((stO M s.1 d, stO M s.2 d) : Pr) = s'
    have hin : keyIn (encL encP yesd (pb line)) (prD s') = true := enc_in encP yesd (pb line) s'
    have hgt : dget (encL encP yesd (pb line)) (prD s') = (look (pb line) s').map yesd := enc_get encP yesd (pb line) s'
    rw [in_dict (pre_at p2 e5) hin, hgt, ws_some, Option.isSome_map]
    have hT : prT M s d = some s' := by rw [← hs']; rfl
    by_cases c : s' ∈ line.map (·.2)
    · have had : ad (prT M) w s line d = line := by
        unfold ad; rw [hT]; dsimp only; rw [if_pos c]
      rw [had] at q
      obtain ⟨v, hv⟩ := look_some_of (ps := pb line) (k := s') (by rw [pb_keys]; exact c)
      rw [hv]
      simp only [Option.isSome_some, Bool.not_true, t_bl, ws_some, Bool.false_eq_true, if_false]
      rw [wpSs]
      dsimp only
      rw [wpSs]
      exact q h2 _ (pre_at p2 e3) (pre_at p2 e5) fun hb p _ _ => p.trans p2
    · have had : ad (prT M) w s line d = line ++ [(w ++ [d], s')] := by
        unfold ad; rw [hT]; dsimp only; rw [if_neg c]
      rw [had] at q
      have hv : look (pb line) s' = none := by
        cases e : look (pb line) s' with
        | none => rfl
        | some v =>
          have : s' ∈ (pb line).map (·.1) := List.mem_map.mpr ⟨_, look_mem e, rfl⟩
          rw [pb_keys] at this
          exact absurd this c
      rw [hv]
      simp only [Option.isSome_none, Bool.not_false, t_bl, ws_some, if_true]
      refine c153 hl hw c h35 (pre_at p2 e3) (pre_at p2 e5) fun h3 e3 e5 p3 => ?_
      dsimp only
      rw [wpSs]
      exact q h3 _ e3 e5 fun hb p l3 l5 => p3 hb (p.trans p2) l3 l5
end M11

end
section
set_option Elab.async false
set_option linter.all false
set_option autoImplicit false
/-! parting deeds, whole -/
namespace M11
open M
theorem merge1 {k v : D} (hk : keyOK k = true) : mergeK [] [(k, v)] = some [(k, v)] := by
  simp [mergeK, keyIn, hk, dput]
/-- what _parting_deeds calls -/
structure PF (F : FnS) (m : Nat) (M : Mac) : Prop where
  seen : ∀ (a : Option Nat) (h : Hm) (Q : VQ) (E : XP), InS M.found.length a → Q (tlD (tellF M a)) h → F 152 [macM M, optD a] h Q E
theorem PF.mk' {N m : Nat} {M : Mac} (L : WM m M) : PF (FW P (N + 1)) m M := ⟨fun a h Q E ha q => seen_spec L ha q⟩
theorem m_at0 {M : Mac} {h : Hm} : idxS (macM M) (.int 0) h = some (.tup (M.found.map stepD)) := mac0
theorem m_at00 {m : Nat} {M : Mac} (L : WM m M) {h : Hm} : idxS (.tup (M.found.map stepD)) (.int 0) h = some (stepD (M.found.getD 0 [])) := by
  rw [idx_tup, mac00 L.n1]
theorem m_len0 {m : Nat} {M : Mac} (L : WM m M) {h : Hm} : bltS .len [stepD (M.found.getD 0 [])] h = some (.int (m : Int), h) := by
  unfold stepD
  rw [b_lenT, List.length_map]
  have : M.found.getD 0 [] ∈ M.found := mem_getD L.n1
  rw [(L.row _ this).1]
def B153 : List CS := [
    .asg (.tup [(.slot 7), (.slot 8), (.slot 9)]) (.idx (.loc 3) (.loc 4)),
    .ite (.cmp .ne (.call 152 [(.loc 0), (.loc 8)] [] [0, 1]) (.call 152 [(.loc 0), (.loc 9)] [] [0, 1])) [
      .ret (.loc 7)] [],
    .for_ (.slot 6) .range [(.blt .len [(.idx (.idx (.loc 0) (.lit (.int (0)))) (.lit (.int (0))))])] I153,
    .aug 4 .add (.lit (.int (1)))]
def W153 : CS := .whil (.cmp .lt (.loc 4) (.blt .len [(.loc 3)])) B153
theorem d153_eq : D153 = ⟨3, 11, [
  .asg (.tup [(.slot 3), (.slot 4), (.slot 5)]) (.tup [(.lst [(.tup [(.tup []), (.loc 1), (.loc 2)])]), (.lit (.int (0))), (.dctP [(.tup [(.loc 1), (.loc 2)]), (.lit (.bl true))])]),
  W153,
  .ret (.lit .non)]⟩ := rfl
theorem b153 {F : FnS} {E : XP} {m : Nat} {M : Mac} (L : WM m M) (C : PF F m M) {a b : Option Nat} (ha : InS M.found.length a) (hb : InS M.found.length b) {line : List (List Nat × Pr)} {spot : Nat} (si : SI (prT M) m (a, b) line spot 0) {e : List Nat × Pr} (he : line[spot]? = some e) {h0 h : Hm} {r3 r5 : Nat} (h35 : r3 ≠ r5) (l3 : h0.length ≤ r3) (l5 : h0.length ≤ r5) (p0 : h0 <+: h) (e3 : h[r3]? = some (.lst (line.map entD))) (e5 : h[r5]? = some (.dct (encL encP yesd (pb line)))) {x6 x7 x8 x9 x10 : Option D} {Z : Ends}
    (qr : tellF M e.2.1 ≠ tellF M e.2.2 → Z.rt (rwD e.1) h)
    (q : ∀ h' line' x6 x7 x8 x9 x10, tellF M e.2.1 = tellF M e.2.2 → SI (prT M) m (a, b) line' (spot + 1) 0 → line <+: line' → h0 <+: h' → h'[r3]? = some (.lst (line'.map entD)) → h'[r5]? = some (.dct (encL encP yesd (pb line'))) → Z.nx [some (macM M), some (optD a), some (optD b), some (.ref r3), some (.int ((spot + 1 : Nat) : Int)), some (.ref r5), x6, x7, x8, x9, x10] h') :
    wpSs F E B153 [some (macM M), some (optD a), some (optD b), some (.ref r3), some (.int (spot : Int)), some (.ref r5), x6, x7, x8, x9, x10] h Z := by
  have hin := pr_in L ha hb si e (List.mem_of_getElem? he)
  have hl7 := line_le L ha hb si
  have hsl := (List.getElem?_eq_some_iff.mp he).1
  have m1 := L.m1
  have m2 := L.m2
  unfold B153
  rw [wpSs, wpS]
  simp only [wpE, List.getElem?_cons_succ, List.getElem?_cons_zero, Option.join_some, ws_some]
  have hx : idxS (.ref r3) (.int (spot : Int)) h = some (entD e) := by
    rw [idx_lst e3]
    refine at_nat ?_
    rw [List.getElem?_map, he]; rfl
  rw [hx, ws_some]
  unfold entD
  simp only [wpP, wpPs, List.set]
  refine ⟨by simp, by simp, by simp, ?_⟩
  rw [wpSs, wpS]
  simp only [wpE, wpEs, List.getElem?_cons_succ, List.getElem?_cons_zero, Option.join_some, ws_some, permD, List.append_nil]
  refine C.seen _ _ _ _ hin.2.1 ?_
  refine C.seen _ _ _ _ hin.2.2.1 ?_
  rw [ne_tl, ws_some, t_bl, ws_some]
  by_cases ct : tellF M e.2.1 = tellF M e.2.2
  · rw [decide_eq_true ct, if_neg (by decide), wpSs]
    dsimp only
    rw [wpSs, for_wp]
    simp only [wpE, wpEs, List.getElem?_cons_succ, List.getElem?_cons_zero, Option.join_some, ws_some]
    rw [m_at0, ws_some, m_at00 L, ws_some, m_len0 L, ws_some]
    dsimp only
    rw [it_range (by omega) (by omega), ws_some, Int.toNat_natCast]
    refine forL_inv (fun l env h' => ∃ (dd : Nat) (line' : List (List Nat × Pr)) (x6 x10 : Option D), l = (rngD 0 m).drop dd ∧ dd ≤ m ∧ SI (prT M) m (a, b) line' spot dd ∧ line'[spot]? = some e ∧ line <+: line' ∧ h0 <+: h' ∧ h'[r3]? = some (.lst (line'.map entD)) ∧ h'[r5]? = some (.dct (encL encP yesd (pb line'))) ∧ env = [some (macM M), some (optD a), some (optD b), some (.ref r3), some (.int (spot : Int)), some (.ref r5), x6, some (rwD e.1), some (optD e.2.1), some (optD e.2.2), x10])
      (fun _ _ _ _ => still_nil) (fun x l env h' R hi kk => ?_) (fun env h' hi => ?_) _ _ _ ⟨0, line, _, _, rfl, Nat.zero_le _, si, he, List.prefix_refl _, p0, e3, e5, rfl⟩
    · obtain ⟨dd, line', x6, x10, hl, hdd, si', he', pl, p, e3, e5, rfl⟩ := hi
      have hdm : dd < m := by
        rcases Nat.lt_or_ge dd m with z | z
        · exact z
        · rw [rng_end z] at hl; cases hl
      rw [rng_drop hdm] at hl
      cases hl
      simp only [wpP, List.set]
      refine ⟨by simp, ?_⟩
      have hl8 := line_le L ha hb si'
      have hw := si'.len spot e he'
      have hs8 := (List.getElem?_eq_some_iff.mp he').1
      obtain ⟨w, s⟩ := e
      have sa := si_ad si' m1 hdm he'
      refine i153 L (line := line') (w := w) (s := s) (by omega) (by dsimp only at hw; omega) hin.2.1 hin.2.2.1 hdm h35 e3 e5 fun h2 x10 e3 e5 p2 => ?_
      refine kk _ _ ⟨dd + 1, _, _, _, rfl, hdm, sa.1, sa.2, pl.trans ?_, p2 h0 p l3 l5, e3, e5, rfl⟩
      unfold ad
      split
      · exact List.prefix_refl _
      · split
        · exact List.prefix_refl _
        · exact List.prefix_append _ _
    · obtain ⟨dd, line', x6, x10, hl, hdd, si', he', pl, p, e3, e5, rfl⟩ := hi
      have hdm : dd = m := by
        rcases Nat.lt_or_ge dd m with z | z
        · rw [rng_drop z] at hl; cases hl
        · omega
      subst hdm
      rw [wpSs, wpS]
      simp only [wpE, List.getElem?_cons_succ, List.getElem?_cons_zero, Option.join_some, ws_some, augS, List.set]
      rw [wpSs]
      exact q h' line' _ _ _ _ _ ct (si_next si') pl p e3 e5
  · rw [decide_eq_false ct, if_pos (by decide), wpSs, wpS, wpE]
    simp only [List.getElem?_cons_succ, List.getElem?_cons_zero, Option.join_some, ws_some]
    exact qr ct
theorem parting_spec {N m : Nat} {M : Mac} (L : WM m M) {a b : Option Nat} (ha : InS M.found.length a) (hb : InS M.found.length b) {h : Hm} {Q : VQ} {E : XP}
    (q0 : ∀ h', h <+: h' → (∀ w, okW m w → tellF M (runF M.found a w) = tellF M (runF M.found b w)) → Q .non h')
    (q1 : ∀ h' w, h <+: h' → okW m w → tellF M (runF M.found a w) ≠ tellF M (runF M.found b w) → (∀ v, okW m v → tellF M (runF M.found a v) ≠ tellF M (runF M.found b v) → code m w ≤ code m v) → Q (rwD w) h') :
    FW P (N + 2) 153 [macM M, optD a, optD b] h Q E := by
  refine fw_open (d := D153) rfl rfl ?_
  have C : PF (FW P (N + 1)) m M := PF.mk' L
  generalize FW P (N + 1) = F at C ⊢
  rw [d153_eq]
  simp only [List.map, List.replicate, List.cons_append, List.nil_append]
  rw [wpSs, wpS]
  simp only [wpE, wpEs, List.getElem?_cons_succ, List.getElem?_cons_zero, Option.join_some, ws_some, evens, Option.map_some]
  refine ⟨last_at, by simp, ?_⟩
  have hk : keyOK (prD (a, b)) = true := encP.ok (a, b)
  have hm : mergeK [] [(D.tup [optD a, optD b], D.bl true)] = some [(D.tup [optD a, optD b], D.bl true)] := merge1 hk
  rw [hm, ws_some]
  simp only [wpP, wpPs, List.set]
  refine ⟨by simp, by simp, by simp, ?_⟩
  rw [wpSs]
  unfold W153
  rw [wpS]
  have pA : h <+: ((h ++ [Cell.lst [D.tup [D.tup [], optD a, optD b]]] ++ [Cell.dct []]).set (h ++ [Cell.lst [D.tup [D.tup [], optD a, optD b]]]).length (Cell.dct [(D.tup [optD a, optD b], D.bl true)])) := pre_set (pre_one.trans pre_one) (by rw [List.length_append]; omega) _
  have e3 : ((h ++ [Cell.lst [D.tup [D.tup [], optD a, optD b]]] ++ [Cell.dct []]).set (h ++ [Cell.lst [D.tup [D.tup [], optD a, optD b]]]).length (Cell.dct [(D.tup [optD a, optD b], D.bl true)]))[h.length]? = some (.lst ([(([] : List Nat), ((a, b) : Pr))].map entD)) := by
    rw [List.getElem?_set_ne (by rw [List.length_append, List.length_singleton]; omega)]
    exact pre_at pre_one last_at
  have e5 : ((h ++ [Cell.lst [D.tup [D.tup [], optD a, optD b]]] ++ [Cell.dct []]).set (h ++ [Cell.lst [D.tup [D.tup [], optD a, optD b]]]).length (Cell.dct [(D.tup [optD a, optD b], D.bl true)]))[(h ++ [Cell.lst [D.tup [D.tup [], optD a, optD b]]]).length]? = some (.dct (encL encP yesd (pb [(([] : List Nat), ((a, b) : Pr))]))) := set_at last_at
  have hne : h.length ≠ (h ++ [Cell.lst [D.tup [D.tup [], optD a, optD b]]]).length := by rw [List.length_append, List.length_singleton]; omega
  have hle : h.length ≤ (h ++ [Cell.lst [D.tup [D.tup [], optD a, optD b]]]).length := by rw [List.length_append]; omega
  generalize (h ++ [Cell.lst [D.tup [D.tup [], optD a, optD b]]] ++ [Cell.dct []]).set (h ++ [Cell.lst [D.tup [D.tup [], optD a, optD b]]]).length (Cell.dct [(D.tup [optD a, optD b], D.bl true)]) = h1 at pA e3 e5
  generalize (h ++ [Cell.lst [D.tup [D.tup [], optD a, optD b]]]).length = r5 at e5 hne hle
  generalize hr3 : h.length = r3 at e3 hne
  refine ⟨fun v env h' => ∃ (line : List (List Nat × Pr)) (spot : Nat) (x6 x7 x8 x9 x10 : Option D), v = 1000 - spot ∧ SI (prT M) m (a, b) line spot 0 ∧ (∀ i e, i < spot → line[i]? = some e → tellF M e.2.1 = tellF M e.2.2) ∧ h <+: h' ∧ h'[r3]? = some (.lst (line.map entD)) ∧ h'[r5]? = some (.dct (encL encP yesd (pb line))) ∧ env = [some (macM M), some (optD a), some (optD b), some (.ref r3), some (.int (spot : Int)), some (.ref r5), x6, x7, x8, x9, x10],
    ⟨_, [([], (a, b))], 0, _, _, _, _, _, rfl, si_start, (fun i e hi => absurd hi (Nat.not_lt_zero i)), pA, e3, e5, rfl⟩, fun v env h' hi => ?_⟩
  obtain ⟨line, spot, x6, x7, x8, x9, x10, rfl, si, ht, p, e3, e5, rfl⟩ := hi
  simp only [wpE, wpEs, List.getElem?_cons_succ, List.getElem?_cons_zero, Option.join_some, ws_some]
  rw [b_lenL e3, ws_some, c_lt, ws_some, t_bl, ws_some, List.length_map]
  have hl7 := line_le L ha hb si
  by_cases c : spot < line.length
  · rw [decide_eq_true (by omega : (spot : Int) < (line.length : Int)), if_pos rfl]
    have he := List.getElem?_eq_getElem c
    generalize line[spot] = e at he
    refine b153 L C ha hb si he hne (h0 := h) (by omega) hle p e3 e5 (fun hd => ?_) fun h2 line' x6 x7 x8 x9 x10 te si' pl p2 e3 e5 => ?_
    · have hin := pr_in L ha hb si e (List.mem_of_getElem? he)
      refine q1 h' e.1 p hin.1 ?_ fun v ov hv => part_some L.m1 si ht he v ov hv
      have := hin.2.2.2
      rw [this] at hd
      exact hd
    · refine ⟨1000 - (spot + 1), by omega, line', spot + 1, x6, x7, x8, x9, x10, rfl, si', fun i f hi hf => ?_, p2, e3, e5, rfl⟩
      have hil : i < line.length := by omega
      have hp : line[i]? = some f := by
        obtain ⟨t, rfl⟩ := pl
        rw [List.getElem?_append_left hil] at hf
        exact hf
      rcases (show i < spot ∨ i = spot by omega) with z | z
      · exact ht i f z hp
      · subst z
        rw [he] at hp
        cases hp
        exact te
  · rw [decide_eq_false (by omega : ¬ (spot : Int) < (line.length : Int)), if_neg (by decide)]
    rw [wpSs, wpS, wpE]
    exact q0 h' p fun w ow => part_none L.m1 si (by omega) ht w ow
end M11

end
section
set_option Elab.async false
set_option linter.all false
set_option autoImplicit false
/-! first ways -/
namespace M11
open M
def oneT (M : Mac) (b d : Nat) : Option Nat := stO M (some b) d
theorem run_one {M : Mac} (w : List Nat) : runT (oneT M) 0 w = runF M.found (some 0) w := by
  induction w using snoc_ind with
  | h0 => rfl
  | h1 w d ih =>
    rw [runT_snoc, ih, runF_snoc]
    cases runF M.found (some 0) w <;> rfl
theorem look_nd {α β : Type} [DecidableEq α] : ∀ {ps : List (α × β)} {k : α} {v : β}, (ps.map (·.1)).Nodup → (k, v) ∈ ps → look ps k = some v
  | [], k, v, _, h => nomatch h
  | p :: ps, k, v, nd, h => by
    rw [List.map_cons, List.nodup_cons] at nd
    unfold look
    rw [List.find?_cons]
    rcases List.mem_cons.mp h with z | z
    · rw [← z]
      simp
    · have hne : p.1 ≠ k := fun e => nd.1 (by rw [e]; exact List.mem_map.mpr ⟨_, z, rfl⟩)
      have := look_nd nd.2 z
      unfold look at this
      simp [hne]
      simpa using this
def wb (line : List (List Nat × Nat)) : List (Nat × List Nat) := line.map fun e => (e.2, e.1)
theorem wb_keys (line : List (List Nat × Nat)) : (wb line).map (·.1) = line.map (·.2) := by
  unfold wb; rw [List.map_map]; rfl
theorem wb_look {line : List (List Nat × Nat)} (nd : (line.map (·.2)).Nodup) {e : List Nat × Nat} (he : e ∈ line) : look (wb line) e.2 = some e.1 :=
  look_nd (by rw [wb_keys]; exact nd) (List.mem_map.mpr ⟨e, he, rfl⟩)
theorem wk_get {h : Hm} {a : Nat} {ps : List (Nat × List Nat)} {k : Nat} {v : List Nat} (e : h[a]? = some (.dct (encL encNat rwD ps))) (hk : look ps k = some v) : idxS (.ref a) (.int (k : Int)) h = some (rwD v) := by
  have hin : keyIn (encL encNat rwD ps) (.int (k : Int)) = true := enc_in encNat rwD ps k
  have hg : dget (encL encNat rwD ps) (.int (k : Int)) = (look ps k).map rwD := enc_get encNat rwD ps k
  simp only [idxS, e, hin, if_true, hg, hk]
  rfl
theorem wk_in {h : Hm} {a : Nat} {ps : List (Nat × List Nat)} {k : Nat} (e : h[a]? = some (.dct (encL encNat rwD ps))) : cmpS .notin (.int (k : Int)) (.ref a) h = some (!(look ps k).isSome) := by
  have hin : keyIn (encL encNat rwD ps) (.int (k : Int)) = true := enc_in encNat rwD ps k
  have hg : dget (encL encNat rwD ps) (.int (k : Int)) = (look ps k).map rwD := enc_get encNat rwD ps k
  rw [in_dict e hin, hg, Option.isSome_map]
theorem wk_set {h : Hm} {a : Nat} {ps : List (Nat × List Nat)} {k : Nat} {v : List Nat} (e : h[a]? = some (.dct (encL encNat rwD ps))) (hl : ps.length ≤ 1000) : setS (.ref a) (.int (k : Int)) (rwD v) h = some (h.set a (.dct (encL encNat rwD (put ps k v)))) := by
  have hin : keyIn (encL encNat rwD ps) (.int (k : Int)) = true := enc_in encNat rwD ps k
  have hput : dput (encL encNat rwD ps) (.int (k : Int)) (rwD v) = encL encNat rwD (put ps k v) := enc_put encNat rwD ps k v
  simp only [setS, e]
  rw [if_pos ⟨hin, by unfold encL; rw [List.length_map]; unfold LIM; omega⟩, hput]
theorem it_enumT {h : Hm} {xs : List D} : iterS .enum [.tup xs] h = some (enumD xs, []) := rfl
theorem enum_drop {s : Stp} {j : Nat} (hj : j < s.length) : (enumD (s.map optD)).drop j = .tup [.int (j : Int), optD (s.getD j none)] :: (enumD (s.map optD)).drop (j + 1) := by
  have hl : (enumD (s.map optD)).length = s.length := by rw [enum_map, List.length_map, List.length_range, List.length_map]
  rw [List.drop_eq_getElem_cons (by rw [hl]; exact hj)]
  congr 1
  have : (enumD (s.map optD))[j]? = some (.tup [.int (j : Int), optD (s.getD j none)]) := by
    rw [enum_map, List.getElem?_map, List.getElem?_range (by rw [List.length_map]; exact hj)]
    simp only [Option.map_some, Option.some.injEq, D.tup.injEq, List.cons.injEq, true_and, and_true]
    rw [List.getD_eq_getElem?_getD, List.getElem?_map, List.getElem?_eq_getElem hj, List.getD_eq_getElem?_getD, List.getElem?_eq_getElem hj]
    rfl
  rw [List.getElem?_eq_getElem (by rw [hl]; exact hj)] at this
  exact Option.some.inj this
theorem enum_end {s : Stp} {j : Nat} (hj : s.length ≤ j) : (enumD (s.map optD)).drop j = [] := List.drop_eq_nil_of_le (by rw [enum_map, List.length_map, List.length_range, List.length_map]; exact hj)
theorem one_in {m : Nat} {M : Mac} (L : WM m M) {line : List (List Nat × Nat)} {spot dd : Nat} (s : SI (oneT M) m 0 line spot dd) : ∀ e ∈ line, okW m e.1 ∧ e.2 < M.found.length ∧ runF M.found (some 0) e.1 = some e.2 := fun e he => by
  obtain ⟨h1, h2⟩ := s.run e he
  rw [run_one] at h2
  exact ⟨h1, run_in L (in0 L) h1 _ h2, h2⟩
theorem line1_le {m : Nat} {M : Mac} (L : WM m M) {line : List (List Nat × Nat)} {spot dd : Nat} (s : SI (oneT M) m 0 line spot dd) : line.length ≤ M.found.length := by
  have := nd_le s.nd fun x hx => by
    obtain ⟨e, he, rfl⟩ := List.mem_map.mp hx
    exact (one_in L s e he).2.1
  rw [List.length_map] at this
  exact this
def I154 : List CS := [
      .ite (.and (.cmp .isnt (.loc 5) (.lit .non)) (.cmp .notin (.loc 5) (.loc 1))) [
        .set (.loc 1) (.loc 5) (.bin .add (.idx (.loc 1) (.idx (.loc 2) (.loc 3))) (.tup [(.loc 4)])),
        .expr (.meth .append (.loc 2) [(.loc 5)])] []]
theorem i154 {F : FnS} {E : XP} {m : Nat} {M : Mac} (L : WM m M) {line : List (List Nat × Nat)} {spot d : Nat} (si : SI (oneT M) m 0 line spot d) {w : List Nat} {b : Nat} (he : line[spot]? = some (w, b)) (hd : d < m) {h : Hm} {r1 r2 : Nat} (h12 : r1 ≠ r2) (e1 : h[r1]? = some (.dct (encL encNat rwD (wb line)))) (e2 : h[r2]? = some (.lst (natsD (line.map (·.2))))) {x0 x6 : Option D} {Z : Ends}
    (q : ∀ h', h'[r1]? = some (.dct (encL encNat rwD (wb (ad (oneT M) w b line d)))) → h'[r2]? = some (.lst (natsD ((ad (oneT M) w b line d).map (·.2)))) → (∀ hb : Hm, hb <+: h → hb.length ≤ r1 → hb.length ≤ r2 → hb <+: h') → Z.nx [x0, some (.ref r1), some (.ref r2), some (.int (spot : Int)), some (.int (d : Int)), some (optD (stO M (some b) d)), x6] h') :
    wpSs F E I154 [x0, some (.ref r1), some (.ref r2), some (.int (spot : Int)), some (.int (d : Int)), some (optD (stO M (some b) d)), x6] h Z := by
  have hll := line1_le L si
  have hn2 := L.n2
  have hin := one_in L si _ (List.mem_of_getElem? he)
  have hsl := (List.getElem?_eq_some_iff.mp he).1
  have hwl := si.len spot _ he
  dsimp only at hwl hin
  unfold I154
  rw [wpSs, wpS]
  simp only [wpE, List.getElem?_cons_succ, List.getElem?_cons_zero, Option.join_some, ws_some, c_isnt, is_opt, Option.map_some, t_bl]
  have hT : oneT M b d = stO M (some b) d := rfl
  cases ht : stO M (some b) d with
  | none =>
    have had : ad (oneT M) w b line d = line := by unfold ad; rw [hT, ht]
    rw [had, ht] at q
    simp only [Option.isNone, Bool.not_true, Bool.false_eq_true, if_false, ws_some, t_bl]
    rw [wpSs]
    dsimp only
    rw [wpSs]
    exact q h e1 e2 fun hb p _ _ => p
  | some t =>
    rw [ht] at q
    simp only [Option.isNone, Bool.not_false, if_true, optD]
    rw [wk_in e1, ws_some]
    by_cases c : t ∈ line.map (·.2)
    · have had : ad (oneT M) w b line d = line := by unfold ad; rw [hT, ht]; dsimp only; rw [if_pos c]
      rw [had] at q
      obtain ⟨v, hv⟩ := look_some_of (ps := wb line) (k := t) (by rw [wb_keys]; exact c)
      rw [hv]
      simp only [Option.isSome_some, Bool.not_true, Bool.false_eq_true, if_false]
      rw [wpSs]
      dsimp only
      rw [wpSs]
      exact q h e1 e2 fun hb p _ _ => p
    · have had : ad (oneT M) w b line d = line ++ [(w ++ [d], t)] := by unfold ad; rw [hT, ht]; dsimp only; rw [if_neg c]
      rw [had] at q
      have hv : look (wb line) t = none := by
        cases e : look (wb line) t with
        | none => rfl
        | some v =>
          have : t ∈ (wb line).map (·.1) := List.mem_map.mpr ⟨_, look_mem e, rfl⟩
          rw [wb_keys] at this
          exact absurd this c
      rw [hv]
      simp only [Option.isSome_none, Bool.not_false, if_true]
      rw [wpSs, wpS]
      simp only [wpE, wpEs, List.getElem?_cons_succ, List.getElem?_cons_zero, Option.join_some, ws_some]
      have hx : idxS (.ref r2) (.int (spot : Int)) h = some (.int (b : Int)) := by
        rw [n_at e2 (by rw [List.length_map]; exact hsl)]
        congr 2
        rw [List.getD_eq_getElem?_getD, List.getElem?_map, he]; rfl
      have hlw : look (wb line) b = some w := wb_look si.nd (e := (w, b)) (List.mem_of_getElem? he)
      rw [hx, ws_some, wk_get e1 hlw, ws_some]
      unfold rwD
      rw [tadd (by omega), ws_some]
      have hset := wk_set (k := t) (v := w ++ [d]) e1 (by unfold wb; rw [List.length_map]; omega)
      unfold rwD at hset
      rw [hset, ws_some, put_new hv]
      have e12 : (h.set r1 (.dct (encL encNat rwD (wb line ++ [(t, w ++ [d])]))))[r1]? = some (.dct (encL encNat rwD (wb (line ++ [(w ++ [d], t)])))) := by
        rw [set_at e1]
        unfold wb
        rw [List.map_append]; rfl
      have e22 : (h.set r1 (.dct (encL encNat rwD (wb line ++ [(t, w ++ [d])]))))[r2]? = some (.lst (natsD (line.map (·.2)))) := by
        rw [List.getElem?_set_ne h12]; exact e2
      have p2 : ∀ hb : Hm, hb <+: h → hb.length ≤ r1 → hb <+: h.set r1 (.dct (encL encNat rwD (wb line ++ [(t, w ++ [d])]))) := fun hb p l => pre_set p l _
      have er : (fun w => D.tup (natsD w)) = rwD := rfl
      rw [er]
      generalize h.set r1 (.dct (encL encNat rwD (wb line ++ [(t, w ++ [d])]))) = h2 at e12 e22 p2
      rw [wpSs, wpS]
      simp only [wpE, wpEs, List.getElem?_cons_succ, List.getElem?_cons_zero, Option.join_some, ws_some]
      refine ⟨rec_app e22, ?_⟩
      rw [app_at e22 (by rw [nats_len, List.length_map]; omega), ws_some, wpSs]
      dsimp only
      rw [wpSs]
      refine q _ ?_ ?_ fun hb p l1 l2 => pre_set (p2 hb p l1) l2 _
      · rw [List.getElem?_set_ne h12.symm]; exact e12
      · rw [set_at e22, nats_app, List.map_append]; rfl
end M11

end
section
set_option Elab.async false
set_option linter.all false
set_option autoImplicit false
/-! first ways, whole -/
namespace M11
open M
/-- when all is gone through: each board's way is the least row that leads to it -/
theorem ways_done {m : Nat} {M : Mac} (L : WM m M) {line : List (List Nat × Nat)} {spot : Nat} (s : SI (oneT M) m 0 line spot 0) (hs : line.length ≤ spot) {b : Nat} (hr : ∃ w, okW m w ∧ runF M.found (some 0) w = some b) :
    ∃ w, look (wb line) b = some w ∧ okW m w ∧ runF M.found (some 0) w = some b ∧ w.length ≤ M.found.length ∧ ∀ v, okW m v → runF M.found (some 0) v = some b → code m w ≤ code m v := by
  have key : ∀ v, okW m v → runF M.found (some 0) v = some b → ∃ (i : Nat) (f : List Nat × Nat), line[i]? = some f ∧ f.2 = b ∧ code m f.1 ≤ code m v := fun v ov hv => by
    rcases si_cov s L.m1 v ov b (by rw [run_one]; exact hv) with ⟨i, f, h1, h2, h3, h4⟩ | ⟨i, f, h1, h2, h3⟩
    · exact ⟨i, f, h2, h3, h4⟩
    · have := (List.getElem?_eq_some_iff.mp h2).1
      omega
  obtain ⟨w0, o0, r0⟩ := hr
  obtain ⟨i, f, h1, h2, h3⟩ := key w0 o0 r0
  have hf := List.mem_of_getElem? h1
  have hin := one_in L s f hf
  have hl := wb_look s.nd hf
  have hlen := s.len i f h1
  have hil := (List.getElem?_eq_some_iff.mp h1).1
  have hll := line1_le L s
  refine ⟨f.1, by rw [← h2]; exact hl, hin.1, by rw [hin.2.2, h2], by omega, fun v ov hv => ?_⟩
  obtain ⟨j, g, g1, g2, g3⟩ := key v ov hv
  have hlg := wb_look s.nd (List.mem_of_getElem? g1)
  rw [g2, ← h2, hl] at hlg
  rw [Option.some.inj hlg]
  exact g3
def B154 : List CS := [
    .for_ (.tup [(.slot 4), (.slot 5)]) .enum [(.idx (.idx (.loc 0) (.lit (.int (0)))) (.idx (.loc 2) (.loc 3)))] I154,
    .aug 3 .add (.lit (.int (1)))]
def W154 : CS := .whil (.cmp .lt (.loc 3) (.blt .len [(.loc 2)])) B154
def R154 : List CS := [.ret (.blt .tuple [(.comp [6] (.slot 6) .range [(.blt .len [(.idx (.loc 0) (.lit (.int (0))))])] [] (.idx (.loc 1) (.loc 6)))])]
theorem d154_eq : D154 = ⟨1, 7, [
  .asg (.tup [(.slot 1), (.slot 2), (.slot 3)]) (.tup [(.dctP [(.lit (.int (0))), (.tup [])]), (.lst [(.lit (.int (0)))]), (.lit (.int (0)))]), W154] ++ R154⟩ := rfl
theorem b154 {F : FnS} {E : XP} {m : Nat} {M : Mac} (L : WM m M) {line : List (List Nat × Nat)} {spot : Nat} (si : SI (oneT M) m 0 line spot 0) {w : List Nat} {b : Nat} (he : line[spot]? = some (w, b)) {h0 h : Hm} {r1 r2 : Nat} (h12 : r1 ≠ r2) (l1 : h0.length ≤ r1) (l2 : h0.length ≤ r2) (p0 : h0 <+: h) (e1 : h[r1]? = some (.dct (encL encNat rwD (wb line)))) (e2 : h[r2]? = some (.lst (natsD (line.map (·.2))))) {x4 x5 x6 : Option D} {Z : Ends}
    (q : ∀ h' line' x4 x5, SI (oneT M) m 0 line' (spot + 1) 0 → h0 <+: h' → h'[r1]? = some (.dct (encL encNat rwD (wb line'))) → h'[r2]? = some (.lst (natsD (line'.map (·.2)))) → Z.nx [some (macM M), some (.ref r1), some (.ref r2), some (.int ((spot + 1 : Nat) : Int)), x4, x5, x6] h') :
    wpSs F E B154 [some (macM M), some (.ref r1), some (.ref r2), some (.int (spot : Int)), x4, x5, x6] h Z := by
  have hin := one_in L si _ (List.mem_of_getElem? he)
  have hsl := (List.getElem?_eq_some_iff.mp he).1
  have hrow := L.row _ (mem_getD (z := []) hin.2.1)
  dsimp only at hin hrow
  unfold B154
  rw [wpSs, for_wp]
  simp only [wpE, wpEs, List.getElem?_cons_succ, List.getElem?_cons_zero, Option.join_some, ws_some]
  have hx : idxS (.ref r2) (.int (spot : Int)) h = some (.int (b : Int)) := by
    rw [n_at e2 (by rw [List.length_map]; exact hsl)]
    congr 2
    rw [List.getD_eq_getElem?_getD, List.getElem?_map, he]; rfl
  rw [m_at0, ws_some, hx, ws_some, found_at hin.2.1, ws_some]
  unfold stepD
  rw [it_enumT, ws_some]
  generalize hs : M.found.getD b [] = s at hrow
  refine forL_inv (fun l env h' => ∃ (dd : Nat) (line' : List (List Nat × Nat)) (x4 x5 : Option D), l = (enumD (s.map optD)).drop dd ∧ dd ≤ m ∧ SI (oneT M) m 0 line' spot dd ∧ line'[spot]? = some (w, b) ∧ h0 <+: h' ∧ h'[r1]? = some (.dct (encL encNat rwD (wb line'))) ∧ h'[r2]? = some (.lst (natsD (line'.map (·.2)))) ∧ env = [some (macM M), some (.ref r1), some (.ref r2), some (.int (spot : Int)), x4, x5, x6])
    (fun _ _ _ _ => still_nil) (fun x l env h' R hi kk => ?_) (fun env h' hi => ?_) _ _ _ ⟨0, line, _, _, rfl, Nat.zero_le _, si, he, p0, e1, e2, rfl⟩
  · obtain ⟨dd, line', x4, x5, hl, hdd, si', he', p, e1, e2, rfl⟩ := hi
    have hdm : dd < m := by
      rcases Nat.lt_or_ge dd m with z | z
      · exact z
      · rw [enum_end (by rw [hrow.1]; exact z)] at hl; cases hl
    rw [enum_drop (by rw [hrow.1]; exact hdm)] at hl
    cases hl
    simp only [wpP, wpPs, List.set]
    refine ⟨by simp, by simp, ?_⟩
    have sa := si_ad si' L.m1 hdm he'
    have hst : s.getD dd none = stO M (some b) dd := by rw [← hs]; rfl
    rw [hst]
    refine i154 L si' he' hdm h12 e1 e2 fun h2 e1 e2 p2 => ?_
    exact kk _ _ ⟨dd + 1, _, _, _, rfl, hdm, sa.1, sa.2, p2 h0 p l1 l2, e1, e2, rfl⟩
  · obtain ⟨dd, line', x4, x5, hl, hdd, si', he', p, e1, e2, rfl⟩ := hi
    have hdm : dd = m := by
      rcases Nat.lt_or_ge dd m with z | z
      · rw [enum_drop (by rw [hrow.1]; exact z)] at hl; cases hl
      · omega
    subst hdm
    rw [wpSs, wpS]
    simp only [wpE, List.getElem?_cons_succ, List.getElem?_cons_zero, Option.join_some, ws_some, augS, List.set]
    rw [wpSs]
    exact q h' line' _ _ (si_next si') p e1 e2
theorem r154 {F : FnS} {E : XP} {m : Nat} {M : Mac} (L : WM m M) {ps : List (Nat × List Nat)} {W : Nat → List Nat} (hw : ∀ b, b < M.found.length → look ps b = some (W b)) {h : Hm} {r1 : Nat} (e1 : h[r1]? = some (.dct (encL encNat rwD ps))) {x2 x3 x4 x5 x6 : Option D} {Z : Ends}
    (q : ∀ h', h <+: h' → Z.rt (.tup ((List.range M.found.length).map fun b => rwD (W b))) h') : wpSs F E R154 [some (macM M), some (.ref r1), x2, x3, x4, x5, x6] h Z := by
  have n2 := L.n2
  unfold R154
  rw [wpSs, wpS]
  simp only [wpE, wpEs, List.getElem?_cons_succ, List.getElem?_cons_zero, Option.join_some, ws_some]
  rw [m_at0, ws_some, b_lenT, ws_some, List.length_map]
  dsimp only
  rw [it_range (by omega) (by omega), ws_some, Int.toNat_natCast, range_map]
  refine comp_enc (xs := List.range M.found.length) (fun (k : Nat) => D.int (k : Int)) (fun b => some (rwD (W b))) still_nil (by simp; unfold LIM; omega) (fun b hb h2 R2 p2 k2 => ?_) fun h2 p2 e2 => ?_
  · simp only [wpP, wpCs, wipeE, List.set]
    refine ⟨by simp, ?_⟩
    rw [if_pos trivial]
    simp only [List.getElem?_cons_succ, List.getElem?_cons_zero, Option.join_some, ws_some, List.foldl, List.set]
    rw [wk_get (pre_at p2 e1) (hw b (List.mem_range.mp hb)), ws_some]
    exact k2 h2 (List.prefix_refl _)
  · rw [filterMap_some] at e2
    rw [b_tupleL e2, ws_some]
    exact q h2 p2
theorem ways_spec {N m : Nat} {M : Mac} (L : WM m M) (hr : ∀ b, b < M.found.length → ∃ w, okW m w ∧ runF M.found (some 0) w = some b) {h : Hm} {Q : VQ} {E : XP}
    (q : ∀ h' (W : Nat → List Nat), h <+: h' → (∀ b, b < M.found.length → okW m (W b) ∧ runF M.found (some 0) (W b) = some b ∧ (W b).length ≤ M.found.length ∧ ∀ v, okW m v → runF M.found (some 0) v = some b → code m (W b) ≤ code m v) → Q (.tup ((List.range M.found.length).map fun b => rwD (W b))) h') :
    FW P (N + 1) 154 [macM M] h Q E := by
  refine fw_open (d := D154) rfl rfl ?_
  generalize FW P N = F
  rw [d154_eq]
  simp only [List.map, List.replicate, List.cons_append, List.nil_append]
  rw [wpSs, wpS]
  simp only [wpE, wpEs, List.getElem?_cons_succ, List.getElem?_cons_zero, Option.join_some, ws_some, evens, Option.map_some]
  refine ⟨last_at, by simp, ?_⟩
  have hm : mergeK [] [(D.int 0, D.tup [])] = some [(D.int 0, D.tup [])] := merge1 rfl
  rw [hm, ws_some]
  simp only [wpP, wpPs, List.set]
  refine ⟨by simp, by simp, by simp, ?_⟩
  rw [wpSs]
  unfold W154
  rw [wpS]
  have hl0 : ((h ++ [Cell.dct []]).set h.length (Cell.dct [(D.int 0, D.tup [])])).length = h.length + 1 := by rw [List.length_set, List.length_append]; rfl
  have e1 : (((h ++ [Cell.dct []]).set h.length (Cell.dct [(D.int 0, D.tup [])])) ++ [Cell.lst [D.int 0]])[h.length]? = some (.dct (encL encNat rwD (wb [(([] : List Nat), 0)]))) := pre_at pre_one (set_at last_at)
  have e2 : (((h ++ [Cell.dct []]).set h.length (Cell.dct [(D.int 0, D.tup [])])) ++ [Cell.lst [D.int 0]])[((h ++ [Cell.dct []]).set h.length (Cell.dct [(D.int 0, D.tup [])])).length]? = some (.lst (natsD ([(([] : List Nat), 0)].map (·.2)))) := last_at
  have pA : h <+: (((h ++ [Cell.dct []]).set h.length (Cell.dct [(D.int 0, D.tup [])])) ++ [Cell.lst [D.int 0]]) := (pre_set pre_one (Nat.le_refl _) _).trans pre_one
  generalize (((h ++ [Cell.dct []]).set h.length (Cell.dct [(D.int 0, D.tup [])])) ++ [Cell.lst [D.int 0]]) = h1 at e1 e2 pA
  generalize ((h ++ [Cell.dct []]).set h.length (Cell.dct [(D.int 0, D.tup [])])).length = r2 at e2 hl0
  generalize hr1 : h.length = r1 at e1 hl0
  refine ⟨fun v env h' => ∃ (line : List (List Nat × Nat)) (spot : Nat) (x4 x5 : Option D), v = 1000 - spot ∧ SI (oneT M) m 0 line spot 0 ∧ h <+: h' ∧ h'[r1]? = some (.dct (encL encNat rwD (wb line))) ∧ h'[r2]? = some (.lst (natsD (line.map (·.2)))) ∧ env = [some (macM M), some (.ref r1), some (.ref r2), some (.int (spot : Int)), x4, x5, none],
    ⟨_, [([], 0)], 0, _, _, rfl, si_start, pA, e1, e2, rfl⟩, fun v env h' hi => ?_⟩
  obtain ⟨line, spot, x4, x5, rfl, si, p, e1, e2, rfl⟩ := hi
  have hll := line1_le L si
  have hn2 := L.n2
  simp only [wpE, wpEs, List.getElem?_cons_succ, List.getElem?_cons_zero, Option.join_some, ws_some]
  rw [b_lenL e2, ws_some, c_lt, ws_some, t_bl, ws_some, nats_len, List.length_map]
  by_cases c : spot < line.length
  · rw [decide_eq_true (by omega : (spot : Int) < (line.length : Int)), if_pos rfl]
    have he := List.getElem?_eq_getElem c
    generalize line[spot] = e at he
    obtain ⟨w, b⟩ := e
    refine b154 L si he (by omega) (h0 := h) (by omega) (by omega) p e1 e2 fun h2 line' x4 x5 si' p2 e1 e2 => ?_
    exact ⟨1000 - (spot + 1), by omega, line', spot + 1, x4, x5, rfl, si', p2, e1, e2, rfl⟩
  · rw [decide_eq_false (by omega : ¬ (spot : Int) < (line.length : Int)), if_neg (by decide)]
    have key := fun b hb => ways_done L si (by omega) (hr b hb)
    have k2 : ∀ b, b < M.found.length → look (wb line) b = some ((look (wb line) b).getD []) := fun b hb => by
      obtain ⟨w, h1, _⟩ := key b hb
      rw [h1]; rfl
    refine r154 L (W := fun b => (look (wb line) b).getD []) k2 e1 fun h2 p2 => ?_
    refine q h2 _ (p.trans p2) fun b hb => ?_
    obtain ⟨w, h1, h2⟩ := key b hb
    rw [h1]
    exact h2
end M11

end
section
set_option Elab.async false
set_option linter.all false
set_option autoImplicit false
/-! the law's tests -/
namespace M11
open M
theorem eq_optE {h : Hm} (a b : Option Nat) : cmpS .eq (optD a) (optD b) h = some (decide (a = b)) := by
  have ha : ∀ a : Option Nat, pureD (optD a) = true ∧ dep (optD a) = 0 := fun a => by cases a <;> exact ⟨rfl, rfl⟩
  show eqv h (optD a) (optD b) = _
  rw [eqv_pure (ha a).1 (ha b).1 (Or.inl (by rw [(ha a).2]; omega)), eq_opt]
theorem pure_nats : ∀ l : List Nat, pureDs (natsD l) = true ∧ deps (natsD l) = 0
  | [] => ⟨rfl, rfl⟩
  | x :: l => by
    obtain ⟨a, b⟩ := pure_nats l
    exact ⟨by show (pureD (.int x) && pureDs (natsD l)) = true; rw [a]; rfl, by show max (dep (.int x)) (deps (natsD l)) = 0; rw [b]; rfl⟩
theorem pure_rw (w : List Nat) : pureD (rwD w) = true ∧ dep (rwD w) ≤ 1 := by
  obtain ⟨h1, h2⟩ := pure_nats w
  exact ⟨by unfold rwD; rw [pureD]; exact h1, by unfold rwD; rw [dep, h2]; omega⟩
theorem pure_rws : ∀ l : List (List Nat), pureDs (l.map rwD) = true
  | [] => rfl
  | x :: l => by
    rw [List.map_cons, pureDs, (pure_rw x).1, pure_rws l]; rfl
theorem eqv_rws {h : Hm} {a b : Nat} {L : List (List Nat)} (e1 : h[a]? = some (.lst (L.map rwD))) (e2 : h[b]? = some (.lst [])) : eqv h (.ref a) (.ref b) = some L.isEmpty := by
  have s1 : snap h (.ref a) = some (.lst (L.map rwD)) := by
    simp only [snap, snapD, snapN, getL, e1, snapDs_pure _ _ (pure_rws L), Option.map_some]
  have s2 : snap h (.ref b) = some (.lst []) := by
    simp only [snap, snapD, snapN, getL, e2, snapDs, Option.map_some]
  have h2 : dep (.lst []) ≤ 1 := by simp only [dep, deps]; omega
  simp only [eqv, s1, s2]
  rw [if_pos (by omega)]
  cases L <;> simp [eqD, eqDs]
theorem eq_nil {h : Hm} {a b : Nat} {L : List (List Nat)} (e1 : h[a]? = some (.lst (L.map rwD))) (e2 : h[b]? = some (.lst [])) : cmpS .eq (.ref a) (.ref b) h = some L.isEmpty := eqv_rws e1 e2
theorem ne_nil {h : Hm} {a b : Nat} {L : List (List Nat)} (e1 : h[a]? = some (.lst (L.map rwD))) (e2 : h[b]? = some (.lst [])) : cmpS .ne (.ref a) (.ref b) h = some (!L.isEmpty) := by
  show (eqv h (.ref a) (.ref b)).map not = _
  rw [eqv_rws e1 e2]; rfl
/-- what the law calls, of a machine -/
structure KW (F : FnS) (m : Nat) (M : Mac) : Prop where
  w : WM m M
  le : Least m M
  n5 : M.found.length ≤ 5
  take : ∀ (h : Hm) (a : Nat) (many : Int) (Q : VQ) (E : XP), BX h a → 0 < many → many < 1000000 → (∀ (d : Int) h', 0 ≤ d → d < many → BX h' a → MX a h h' → Q (.int d) h') → F 113 [.ref a, .int many] h Q E
  board : ∀ (row : List Nat) (h : Hm) (Q : VQ) (E : XP), okW m row → Q (optD (runF M.found (some 0) row)) h → F 150 [macM M, rwD row] h Q E
  ans : ∀ (row : List Nat) (h : Hm) (Q : VQ) (E : XP), okW m row → Q (tlD (tellF M (runF M.found (some 0) row))) h → F 151 [macM M, rwD row] h Q E
  part : ∀ (a b : Option Nat) (h : Hm) (Q : VQ) (E : XP), InS M.found.length a → InS M.found.length b → (∀ h', h <+: h' → (∀ w, okW m w → tellF M (runF M.found a w) = tellF M (runF M.found b w)) → Q .non h') →
    (∀ h' w, h <+: h' → okW m w → tellF M (runF M.found a w) ≠ tellF M (runF M.found b w) → (∀ v, okW m v → tellF M (runF M.found a v) ≠ tellF M (runF M.found b v) → code m w ≤ code m v) → Q (rwD w) h') → F 153 [macM M, optD a, optD b] h Q E
  from_ : ∀ (a : Option Nat) (row : List Nat) (h : Hm) (Q : VQ) (E : XP), InS M.found.length a → okW m row → Q (optD (runF M.found a row)) h → F 172 [macM M, optD a, rwD row] h Q E
  tfrom : ∀ (a : Option Nat) (row : List Nat) (h : Hm) (Q : VQ) (E : XP), InS M.found.length a → okW m row → Q (tlD (tellF M (runF M.found a row))) h → F 173 [macM M, optD a, rwD row] h Q E
  same : ∀ (d : D) (h : Hm) (Q : VQ) (E : XP), pureD d = true → dep d ≤ 10 → Q (.bl true) h → F 19 [d, d] h Q E
theorem KW.mk' {N m : Nat} {M : Mac} (hN : 20 ≤ N) (w : WM m M) (le : Least m M) (n5 : M.found.length ≤ 5) : KW (FW P N) m M := by
  obtain ⟨n, rfl⟩ : ∃ n, N = n + 2 := ⟨N - 2, by omega⟩
  exact ⟨w, le, n5, fun h a many Q E b m0 m1 k => take_bx (n := n + 1) b m0 m1 k, fun row h Q E o q => cboard_spec (N := n + 1) w o q, fun row h Q E o q => cans_spec (N := n) w o q,
    fun a b h Q E ha hb q0 q1 => parting_spec (N := n) w ha hb q0 q1, fun a row h Q E ha o q => from_spec (N := n + 1) w ha o q, fun a row h Q E ha o q => tfrom_spec (N := n) w ha o q, fun d h Q E p hd q => same_refl 10 p hd (by omega) q⟩
/-- the law's places -/
def EW (k : Int) (a : Nat) (R M W : D) (e6 e7 : Option D) (n : Nat) (r9 : Nat) (e10 e11 e12 e13 e14 : Option D) : Env := [some (.ref 0), some (.int k), some (.ref a), some R, some M, some W, e6, e7, some (.int (n : Int)), some (.ref r9), e10, e11, e12, e13, e14]
def C6 : CE := .not (.call 19 [(.idx (.loc 5) (.loc 6)), (.idx (.comp [13] (.slot 13) .val [(.loc 9)] [(.cmp .eq (.call 172 [(.loc 4), (.lit (.int (0))), (.loc 13)] [] [0, 1, 2]) (.loc 6))] (.loc 13)) (.lit (.int (0))))] [] [0, 1])
/-- the ways that were found -/
def WOK (m : Nat) (M : Mac) (W : Nat → List Nat) : Prop := ∀ b, b < M.found.length → okW m (W b) ∧ runF M.found (some 0) (W b) = some b ∧ (W b).length ≤ M.found.length ∧ ∀ v, okW m v → runF M.found (some 0) v = some b → code m (W b) ≤ code m v
def waysD (M : Mac) (W : Nat → List Nat) : D := .tup ((List.range M.found.length).map fun b => rwD (W b))
theorem ways_at {M : Mac} {W : Nat → List Nat} {b : Nat} (hb : b < M.found.length) {h : Hm} : idxS (waysD M W) (optD (some b)) h = some (rwD (W b)) := by
  unfold waysD optD
  rw [idx_tup]
  refine at_nat ?_
  rw [List.getElem?_map, List.getElem?_range hb]; rfl
theorem c6 {F : FnS} {m : Nat} {M : Mac} (C : KW F m M) {E : XP} {W : Nat → List Nat} (hW : WOK m M W) {b : Nat} (hb : b < M.found.length) {h : Hm} {r9 : Nat} (e9 : h[r9]? = some (.lst ((arF m M.found.length).map rwD))) {k : Int} {a : Nat} {R : D} {e7 e10 e11 e12 e13 e14 : Option D} {Q : VQ}
    (q : ∀ h', h <+: h' → Q (.bl false) h') : wpE F E C6 (EW k a R (macM M) (waysD M W) (some (optD (some b))) e7 M.found.length r9 e10 e11 e12 e13 e14) h Q := by
  have hlen := ar_len5 C.w.m2 C.n5
  obtain ⟨w1, w2, w3, w4⟩ := hW b hb
  unfold C6 EW
  simp only [wpE, wpEs, List.getElem?_cons_succ, List.getElem?_cons_zero, Option.join_some, ws_some, permD, List.append_nil]
  rw [ways_at hb, ws_some, it_lst e9, ws_some]
  refine comp_enc (xs := arF m M.found.length) rwD (fun w => if decide (runF M.found (some 0) w = some b) = true then some (rwD w) else none) (still_one e9) (by unfold LIM; omega) (fun w hw h2 R2 p2 k2 => ?_) fun h2 p2 e2 => ?_
  · simp only [wpP, wpCs, wipeE, List.foldl, List.set]
    refine ⟨by simp, ?_⟩
    simp only [wpE, wpEs, List.getElem?_cons_succ, List.getElem?_cons_zero, Option.join_some, ws_some, permD, List.append_nil]
    refine C.from_ (some 0) w _ _ _ (in0 C.w) (mem_ar.mp hw).1 ?_
    rw [eq_optE, ws_some, t_bl, ws_some]
    have k2 := k2 h2 (List.prefix_refl _)
    by_cases c : runF M.found (some 0) w = some b
    · rw [decide_eq_true c] at k2 ⊢
      rw [if_pos rfl] at k2 ⊢
      rw [if_pos trivial]
      exact k2
    · rw [decide_eq_false c] at k2 ⊢
      rw [if_neg (by decide)] at k2 ⊢
      rw [if_neg (by decide)]
      exact k2
  · rw [filterMap_if] at e2
    obtain ⟨t, ht⟩ := first_of (k := M.found.length) C.w.m1 (p := fun w => decide (runF M.found (some 0) w = some b)) (mem_ar.mpr ⟨w1, w3⟩) (decide_eq_true w2) fun v hv hp => w4 v (mem_ar.mp hv).1 (of_decide_eq_true hp)
    rw [ht, List.map_cons] at e2
    rw [idx_lst e2, at0, ws_some]
    refine C.same (rwD (W b)) _ _ _ (pure_rw _).1 (Nat.le_trans (pure_rw _).2 (by omega)) ?_
    simp only [ws_some, t_bl, Bool.not_true]
    exact q h2 p2
/-- whether a row tells two apart -/
def ptF (M : Mac) (b : Nat) (o : Option Nat) (w : List Nat) : Bool := !decide (tellF M (runF M.found (some b) w) = tellF M (runF M.found o w))
def C10 : CE := .or (.not (.call 19 [(.call 153 [(.loc 4), (.loc 6), (.loc 10)] [] [0, 1, 2]), (.ife (.cmp .ne (.loc 12) (.lst [])) (.idx (.loc 12) (.lit (.int (0)))) (.lit .non))] [] [0, 1])) (.cmp .ne (.cmp .eq (.loc 12) (.lst [])) (.cmp .eq (.loc 6) (.loc 10)))
theorem pt_eq {M : Mac} {b : Nat} {o : Option Nat} {w : List Nat} : ptF M b o w = true ↔ tellF M (runF M.found (some b) w) ≠ tellF M (runF M.found o w) := by
  unfold ptF
  simp
theorem c10 {F : FnS} {m : Nat} {M : Mac} (C : KW F m M) {E : XP} {W : D} {b : Nat} (hb : b < M.found.length) {o : Option Nat} (ho : InS M.found.length o) {h : Hm} {r9 r12 : Nat} (e12 : h[r12]? = some (.lst (((arF m M.found.length).filter (ptF M b o)).map rwD))) {k : Int} {a : Nat} {R : D} {e7 e11 e13 e14 : Option D} {Q : VQ}
    (q : ∀ h', h <+: h' → Q (.bl false) h') : wpE F E C10 (EW k a R (macM M) W (some (optD (some b))) e7 M.found.length r9 (some (optD o)) e11 (some (.ref r12)) e13 e14) h Q := by
  have hib : InS M.found.length (some b) := fun x e => by cases e; exact hb
  unfold C10 EW
  simp only [wpE, wpEs, List.getElem?_cons_succ, List.getElem?_cons_zero, Option.join_some, ws_some, permD, List.append_nil]
  refine C.part (some b) o _ _ _ hib ho (fun h1 p1 heq => ?_) fun h1 w p1 ow hw hmin => ?_
  · have hf : (arF m M.found.length).filter (ptF M b o) = [] := List.filter_eq_nil_iff.mpr fun w hw => by
      rw [pt_eq]
      exact fun z => z (heq w (mem_ar.mp hw).1)
    rw [hf] at e12
    have hbo : some b = o := Classical.byContradiction fun z => by
      obtain ⟨w, h1, _, h3⟩ := C.le.part hib ho z
      exact h3 (heq w h1)
    have e12' := pre_at (p1.trans (pre_one (c := .lst []))) e12
    rw [ne_nil e12' last_at, ws_some, t_bl, ws_some]
    rw [show (!([] : List (List Nat)).isEmpty) = false from rfl, if_neg (by decide)]
    refine C.same .non _ _ _ rfl (by show 0 ≤ 10; omega) ?_
    simp only [ws_some, t_bl, Bool.not_true, Bool.false_eq_true, if_false]
    rw [eq_nil (pre_at pre_one e12') last_at, ws_some, eq_optE, ws_some, decide_eq_true hbo, c_neB, ws_some]
    exact q _ (p1.trans (pre_one.trans pre_one))
  · have hbo : some b ≠ o := fun z => by rw [z] at hw; exact hw rfl
    have hwm : w ∈ arF m M.found.length := by
      obtain ⟨v, h1, h2, h3⟩ := C.le.part hib ho hbo
      exact mem_ar.mpr ⟨ow, Nat.le_trans (code_len C.w.m1 h1 (hmin v h1 h3)) h2⟩
    obtain ⟨t, ht⟩ := first_of (k := M.found.length) C.w.m1 (p := ptF M b o) hwm (pt_eq.mpr hw) fun v hv hp => hmin v (mem_ar.mp hv).1 (pt_eq.mp hp)
    rw [ht] at e12
    have e12' := pre_at (p1.trans (pre_one (c := .lst []))) e12
    rw [ne_nil e12' last_at, ws_some, t_bl, ws_some]
    rw [show (!(w :: t).isEmpty) = true from rfl, if_pos rfl]
    rw [idx_lst e12', List.map_cons, at0, ws_some]
    refine C.same (rwD w) _ _ _ (pure_rw _).1 (Nat.le_trans (pure_rw _).2 (by omega)) ?_
    simp only [ws_some, t_bl, Bool.not_true, Bool.false_eq_true, if_false]
    rw [eq_nil (pre_at pre_one e12') last_at, ws_some, eq_optE, ws_some, decide_eq_false hbo, c_neB, ws_some]
    exact q _ (p1.trans (pre_one.trans pre_one))
end M11

end
section
set_option Elab.async false
set_option linter.all false
set_option autoImplicit false
/-! the law's loops -/
namespace M11
open M
theorem b_lr {n : Nat} (hn : n ≤ 1000) {h : Hm} : bltS .lstRange [.int (n : Int)] h = some (.ref h.length, h ++ [.lst (((List.range n).map some).map optD)]) := by
  have hs : small (n : Int) = true := by
    unfold small
    simp only [Bool.and_eq_true, decide_eq_true_eq]
    omega
  simp only [bltS, hs, if_true]
  rw [Int.toNat_natCast, range_map, List.map_map]
  rfl
def P12 : CE := .comp [13] (.slot 13) .val [(.loc 9)] [(.cmp .ne (.call 173 [(.loc 4), (.loc 6), (.loc 13)] [] [0, 1, 2]) (.call 173 [(.loc 4), (.loc 10), (.loc 13)] [] [0, 1, 2]))] (.loc 13)
theorem p12 {F : FnS} {m : Nat} {M : Mac} (C : KW F m M) {E : XP} {W : D} {b : Nat} (hb : b < M.found.length) {o : Option Nat} (ho : InS M.found.length o) {h : Hm} {r9 : Nat} (e9 : h[r9]? = some (.lst ((arF m M.found.length).map rwD))) {k : Int} {a : Nat} {R : D} {e7 e11 e12 e13 e14 : Option D} {Q : VQ}
    (q : ∀ h' r12, h <+: h' → h'[r12]? = some (.lst (((arF m M.found.length).filter (ptF M b o)).map rwD)) → Q (.ref r12) h') : wpE F E P12 (EW k a R (macM M) W (some (optD (some b))) e7 M.found.length r9 (some (optD o)) e11 e12 e13 e14) h Q := by
  have hlen := ar_len5 C.w.m2 C.n5
  have hib : InS M.found.length (some b) := fun x e => by cases e; exact hb
  unfold P12 EW
  simp only [wpE, wpEs, List.getElem?_cons_succ, List.getElem?_cons_zero, Option.join_some, ws_some]
  rw [it_lst e9, ws_some]
  refine comp_enc (xs := arF m M.found.length) rwD (fun w => if ptF M b o w = true then some (rwD w) else none) (still_one e9) (by unfold LIM; omega) (fun w hw h2 R2 p2 k2 => ?_) fun h2 p2 e2 => ?_
  · simp only [wpP, wpCs, wipeE, List.foldl, List.set]
    refine ⟨by simp, ?_⟩
    simp only [wpE, wpEs, List.getElem?_cons_succ, List.getElem?_cons_zero, Option.join_some, ws_some, permD, List.append_nil]
    refine C.tfrom (some b) w _ _ _ hib (mem_ar.mp hw).1 ?_
    refine C.tfrom o w _ _ _ ho (mem_ar.mp hw).1 ?_
    rw [ne_tl, ws_some, t_bl, ws_some]
    have k2 := k2 h2 (List.prefix_refl _)
    show if ptF M b o w = true then _ else _
    cases c : ptF M b o w with
    | true =>
      rw [c] at k2
      rw [if_pos rfl] at k2 ⊢
      rw [if_pos trivial]
      exact k2
    | false =>
      rw [c] at k2
      rw [if_neg (by decide)] at k2 ⊢
      rw [if_neg (by decide)]
      exact k2
  · rw [filterMap_if] at e2
    exact q h2 _ p2 e2
def I10b : List CS := [.ite C10 [.ret (.lit (.bl false))] []]
def I10 : List CS := .asg (.slot 12) P12 :: I10b
def A10 : CE := .bin .add (.blt .lstRange [(.loc 8)]) (.lst [(.lit .non)])
def I6b : List CS := [.for_ (.slot 10) .val [A10] I10]
def I6 : List CS := .ite C6 [.ret (.lit (.bl false))] [] :: I6b
def L6 : CS := .for_ (.slot 6) .range [(.loc 8)] I6
theorem i10 {F : FnS} {m : Nat} {M : Mac} (C : KW F m M) {E : XP} {W : D} {b : Nat} (hb : b < M.found.length) {o : Option Nat} (ho : InS M.found.length o) {h : Hm} {r9 : Nat} (e9 : h[r9]? = some (.lst ((arF m M.found.length).map rwD))) {k : Int} {a : Nat} {R : D} {e7 e11 e12 e13 e14 : Option D} {Z : Ends}
    (q : ∀ h' e12, h <+: h' → Z.nx (EW k a R (macM M) W (some (optD (some b))) e7 M.found.length r9 (some (optD o)) e11 e12 e13 e14) h') :
    wpSs F E I10 (EW k a R (macM M) W (some (optD (some b))) e7 M.found.length r9 (some (optD o)) e11 e12 e13 e14) h Z := by
  unfold I10
  rw [wpSs, wpS]
  refine p12 C hb ho e9 fun h1 r12 p1 e12 => ?_
  simp only [EW, wpP, List.set]
  refine ⟨by simp, ?_⟩
  unfold I10b
  rw [wpSs, wpS]
  refine c10 C hb ho e12 fun h2 p2 => ?_
  simp only [ws_some, t_bl, Bool.false_eq_true, if_false]
  rw [wpSs]
  dsimp only
  rw [wpSs]
  exact q h2 _ (p1.trans p2)
theorem a10 {F : FnS} {E : XP} {n : Nat} (hn : n ≤ 5) {W R M : D} {h : Hm} {r9 : Nat} {k : Int} {a : Nat} {e6 e7 e10 e11 e12 e13 e14 : Option D} {Q : VQ}
    (q : ∀ h' r, h <+: h' → h'[r]? = some (.lst (((List.range n).map some ++ [none]).map optD)) → Q (.ref r) h') : wpE F E A10 (EW k a R M W e6 e7 n r9 e10 e11 e12 e13 e14) h Q := by
  unfold A10 EW
  simp only [wpE, wpEs, List.getElem?_cons_succ, List.getElem?_cons_zero, Option.join_some, ws_some]
  rw [b_lr (by omega), ws_some]
  rw [o_addLL (pre_at pre_one last_at) last_at (by simp [LIM]; omega), ws_some]
  refine q _ _ (pre_one.trans (pre_one.trans pre_one)) ?_
  rw [last_at, List.map_append]; rfl
theorem i6 {F : FnS} {m : Nat} {M : Mac} (C : KW F m M) {E : XP} {W : Nat → List Nat} (hW : WOK m M W) {b : Nat} (hb : b < M.found.length) {h : Hm} {r9 : Nat} (e9 : h[r9]? = some (.lst ((arF m M.found.length).map rwD))) {k : Int} {a : Nat} {R : D} {e7 e10 e11 e12 e13 e14 : Option D} {Z : Ends}
    (q : ∀ h' e10 e12, h <+: h' → Z.nx (EW k a R (macM M) (waysD M W) (some (optD (some b))) e7 M.found.length r9 e10 e11 e12 e13 e14) h') :
    wpSs F E I6 (EW k a R (macM M) (waysD M W) (some (optD (some b))) e7 M.found.length r9 e10 e11 e12 e13 e14) h Z := by
  unfold I6
  rw [wpSs, wpS]
  refine c6 C hW hb e9 fun h1 p1 => ?_
  simp only [ws_some, t_bl, Bool.false_eq_true, if_false]
  rw [wpSs]
  dsimp only
  unfold I6b
  rw [wpSs, for_wp, wpEs]
  refine a10 C.n5 fun h2 rA p2 eA => ?_
  rw [wpEs, it_lst eA, ws_some]
  dsimp only
  refine forL_inv (fun l env h' => ∃ (os : List (Option Nat)) (e10 e12 : Option D), l = os.map optD ∧ (∀ o ∈ os, InS M.found.length o) ∧ h2 <+: h' ∧ env = EW k a R (macM M) (waysD M W) (some (optD (some b))) e7 M.found.length r9 e10 e11 e12 e13 e14)
    (fun _ _ _ ⟨_, _, _, _, _, p, _⟩ => still_one (pre_at p eA)) (fun x l env h' R hi kk => ?_) (fun env h' hi => ?_) _ _ _ ⟨_, _, _, rfl, fun o ho => ?_, List.prefix_refl _, rfl⟩
  · obtain ⟨os, e10, e12, hl, hos, p, rfl⟩ := hi
    cases os with
    | nil => cases hl
    | cons o os =>
      rw [List.map_cons] at hl
      cases hl
      simp only [EW, wpP, List.set]
      refine ⟨by simp, ?_⟩
      exact i10 C hb (hos o List.mem_cons_self) (pre_at (p1.trans (p2.trans p)) e9) fun h3 e12 p3 => kk _ _ ⟨os, _, e12, rfl, fun y hy => hos y (List.mem_cons_of_mem _ hy), p.trans p3, rfl⟩
  · obtain ⟨os, e10, e12, hl, hos, p, rfl⟩ := hi
    rw [wpSs]
    exact q h' _ _ (p1.trans (p2.trans p))
  · rcases List.mem_append.mp ho with ho | ho
    · obtain ⟨x, hx, rfl⟩ := List.mem_map.mp ho
      intro y e
      cases e
      exact List.mem_range.mp hx
    · rw [List.mem_singleton.mp ho]
      intro y e
      cases e
theorem rng_mem1 {m : Nat} : ∀ x ∈ rngD 0 (m : Int).toNat, ∃ t : Nat, t < m ∧ x = optD (some t) := fun x hx => by
  unfold rngD at hx
  obtain ⟨t, ht, rfl⟩ := List.mem_map.mp hx
  have := List.mem_range.mp ht
  exact ⟨t, by omega, by rw [Int.zero_add]; rfl⟩
theorem l6 {F : FnS} {m : Nat} {M : Mac} (C : KW F m M) {E : XP} {W : Nat → List Nat} (hW : WOK m M W) {h : Hm} {r9 : Nat} (e9 : h[r9]? = some (.lst ((arF m M.found.length).map rwD))) {k : Int} {a : Nat} {R : D} {e6 e7 e10 e11 e12 e13 e14 : Option D} {Z : Ends}
    (q : ∀ h' e6 e10 e12, h <+: h' → Z.nx (EW k a R (macM M) (waysD M W) e6 e7 M.found.length r9 e10 e11 e12 e13 e14) h') :
    wpS F E L6 (EW k a R (macM M) (waysD M W) e6 e7 M.found.length r9 e10 e11 e12 e13 e14) h Z := by
  have n5 := C.n5
  unfold L6
  rw [for_wp]
  simp only [EW, wpE, wpEs, List.getElem?_cons_succ, List.getElem?_cons_zero, Option.join_some, ws_some]
  rw [it_range (by omega) (by omega), ws_some]
  refine forL_inv (fun l env h' => ∃ e6 e10 e12, h <+: h' ∧ (∀ x ∈ l, ∃ t : Nat, t < M.found.length ∧ x = optD (some t)) ∧ env = EW k a R (macM M) (waysD M W) e6 e7 M.found.length r9 e10 e11 e12 e13 e14)
    (fun _ _ _ _ => still_nil) (fun x l env h' R hh kk => ?_) (fun env h' hh => ?_) _ _ _ ⟨_, _, _, List.prefix_refl _, rng_mem1, rfl⟩
  · obtain ⟨e6, e10, e12, p, hx, rfl⟩ := hh
    obtain ⟨b, hb, rfl⟩ := hx x List.mem_cons_self
    simp only [EW, wpP, List.set]
    refine ⟨by simp, ?_⟩
    exact i6 C hW hb (pre_at p e9) fun h2 e10 e12 p2 => kk _ _ ⟨_, _, _, p.trans p2, fun y hy => hx y (List.mem_cons_of_mem _ hy), rfl⟩
  · obtain ⟨e6, e10, e12, p, hx, rfl⟩ := hh
    exact q h' _ _ _ p
def R11 : CE := .blt .tuple [(.comp [14] (.slot 14) .range [(.call 113 [(.loc 2), (.lit (.int (8)))] [] [0, 1])] [] (.call 113 [(.loc 2), (.blt .len [(.idx (.loc 3) (.lit (.int (1))))])] [] [0, 1]))]
theorem r11 {F : FnS} {r : Rules} {M : Mac} (C : KW F r.deeds.length M) {E : XP} {c : Cell} {h : Hm} {a : Nat} (h0 : h[0]? = some c) (ha : 0 ≠ a) (bx : BX h a) {k : Int} {Md W : D} {n r9 : Nat} {e6 e7 e10 e11 e12 e13 e14 : Option D} {Q : VQ}
    (q : ∀ h' row, okW r.deeds.length row → row.length ≤ 8 → h'[0]? = some c → BX h' a → Q (rwD row) h') : wpE F E R11 (EW k a (rulesD r) Md W e6 e7 n r9 e10 e11 e12 e13 e14) h Q := by
  have m1 := C.w.m1
  have m2 := C.w.m2
  unfold R11 EW
  simp only [wpSs, wpS, wpE, wpEs, wpCs, wpP, wpPs, List.map, List.replicate, List.cons_append, List.nil_append, List.append_nil, List.getElem?_cons_zero, List.getElem?_cons_succ, jn, ws_some, List.length_cons, List.length_nil, List.set, at0, at1, at2, idx_tup, c_gt, c_lt, c_le, c_ge, c_is, c_isnt, c_eqI, c_neI, c_eqS, c_neS, c_eqB, c_neB, isS, isNonD, isBlD, t_bl, b_int, b_abs, b_max2, b_min2, b_lenT, o_add, o_sub, permD, Option.map_some]
  refine C.take h a 8 _ _ bx (by omega) (by omega) fun n h1 n0 n5 bx1 mx1 => ?_
  rw [it_range (by omega) (by omega)]
  simp only [ws_some]
  have h01 := mx1.cell h0 ha
  refine comp_inv (fun l acc hh => ∃ (row : List Nat), acc = natsD row ∧ l.length + row.length = n.toNat ∧ (∀ d ∈ row, d < r.deeds.length) ∧ hh[0]? = some c ∧ BX hh a ∧ hh[h1.length]? = some (.lst acc))
    (fun _ _ _ _ => still_nil) (fun y l' acc hh R' hi k1 k2 => ?_) (fun vs h9 hi => ?_) _ _ _ ⟨[], rfl, by simp [rngD], (fun d hd => nomatch hd), pre_at pre_one h01, bx1.pre pre_one, last_at⟩
  · obtain ⟨row, rfl, hl, hr, hh0, bxa, ea⟩ := hi
    have bl := bx1.lt
    rw [List.length_cons] at hl
    simp only [wpSs, wpS, wpE, wpEs, wpCs, wpP, wpPs, List.map, List.replicate, List.cons_append, List.nil_append, List.append_nil, List.getElem?_cons_zero, List.getElem?_cons_succ, jn, ws_some, List.length_cons, List.length_nil, List.set, at0, at1, at2, idx_tup, c_gt, c_lt, c_le, c_ge, c_is, c_isnt, c_eqI, c_neI, c_eqS, c_neS, c_eqB, c_neB, isS, isNonD, isBlD, t_bl, b_int, b_abs, b_max2, b_min2, b_lenT, o_add, o_sub, permD, Option.map_some, wipeE, rulesD]
    refine ⟨by simp, ?_⟩
    rw [if_pos trivial]
    rw [List.length_map]
    refine C.take hh a r.deeds.length _ _ bxa (by omega) (by omega) fun d h2 d0 d1 bx2 mx2 => ?_
    have e2 := mx2.cell ea (show h1.length ≠ a by omega)
    obtain ⟨j, rfl⟩ : ∃ j : Nat, (j : Int) = d := ⟨d.toNat, by omega⟩
    have h00 : 0 < h1.length := (List.getElem?_eq_some_iff.mp h01).1
    refine k1 _ h2 e2 (by rw [nats_len]; unfold LIM; omega) ⟨row ++ [j], nats_app row j, by rw [List.length_append, List.length_singleton]; omega, fun d hd => ?_, ?_, bx2.set (by omega) _, ?_⟩
    · rcases List.mem_append.mp hd with hd | hd
      · exact hr d hd
      · rw [List.mem_singleton.mp hd]; omega
    · rw [List.getElem?_set_ne (by omega)]; exact mx2.cell hh0 ha
    · exact set_at e2
  · obtain ⟨row, rfl, hl, hr, hh0, bxa, ea⟩ := hi
    rw [b_tupleL ea, ws_some]
    rw [List.length_nil] at hl
    exact q h9 row hr (by omega) hh0 bxa
def C7 : CE := .or (.not (.call 19 [(.call 150 [(.loc 4), (.loc 11)] [] [0, 1]), (.call 172 [(.loc 4), (.lit (.int (0))), (.loc 11)] [] [0, 1, 2])] [] [0, 1])) (.not (.call 19 [(.call 151 [(.loc 4), (.loc 11)] [] [0, 1]), (.call 173 [(.loc 4), (.lit (.int (0))), (.loc 11)] [] [0, 1, 2])] [] [0, 1]))
def I7b : List CS := [.ite C7 [.ret (.lit (.bl false))] []]
def I7 : List CS := .asg (.slot 11) R11 :: I7b
def L7 : CS := .for_ (.slot 7) .range [(.lit (.int (6)))] I7
theorem c7 {F : FnS} {m : Nat} {M : Mac} (C : KW F m M) {E : XP} {row : List Nat} (hr : okW m row) {h : Hm} {k : Int} {a : Nat} {R W : D} {n r9 : Nat} {e6 e7 e10 e12 e13 e14 : Option D} {Q : VQ}
    (q : Q (.bl false) h) : wpE F E C7 (EW k a R (macM M) W e6 e7 n r9 e10 (some (rwD row)) e12 e13 e14) h Q := by
  unfold C7 EW
  simp only [wpE, wpEs, List.getElem?_cons_succ, List.getElem?_cons_zero, Option.join_some, ws_some, permD, List.append_nil]
  refine C.board row _ _ _ hr ?_
  refine C.from_ (some 0) row _ _ _ (in0 C.w) hr ?_
  refine C.same _ _ _ _ (pure_opt _).1 (by rw [(pure_opt _).2]; omega) ?_
  simp only [ws_some, t_bl, Bool.not_true, Bool.false_eq_true, if_false]
  refine C.ans row _ _ _ hr ?_
  refine C.tfrom (some 0) row _ _ _ (in0 C.w) hr ?_
  refine C.same _ _ _ _ (pure_tl _).1 (Nat.le_trans (pure_tl _).2 (by omega)) ?_
  simp only [ws_some, t_bl, Bool.not_true]
  exact q
theorem l7 {F : FnS} {r : Rules} {M : Mac} (C : KW F r.deeds.length M) {E : XP} {c : Cell} {h : Hm} {a : Nat} (h0 : h[0]? = some c) (ha : 0 ≠ a) (bx : BX h a) {k : Int} {W : D} {n r9 : Nat} {e6 e7 e10 e11 e12 e13 e14 : Option D} {Z : Ends}
    (q : ∀ h' e7 e11, h'[0]? = some c → Z.nx (EW k a (rulesD r) (macM M) W e6 e7 n r9 e10 e11 e12 e13 e14) h') :
    wpS F E L7 (EW k a (rulesD r) (macM M) W e6 e7 n r9 e10 e11 e12 e13 e14) h Z := by
  unfold L7
  rw [for_wp]
  simp only [wpE, wpEs]
  rw [it_range (by omega) (by omega), ws_some]
  refine forL_inv (fun l env h' => ∃ e7 e11, h'[0]? = some c ∧ BX h' a ∧ env = EW k a (rulesD r) (macM M) W e6 e7 n r9 e10 e11 e12 e13 e14)
    (fun _ _ _ _ => still_nil) (fun x l env h' R hh kk => ?_) (fun env h' hh => ?_) _ _ _ ⟨_, _, h0, bx, rfl⟩
  · obtain ⟨e7, e11, h0, bx, rfl⟩ := hh
    simp only [EW, wpP, List.set]
    refine ⟨by simp, ?_⟩
    unfold I7
    rw [wpSs, wpS]
    refine r11 C h0 ha bx fun h1 row hr hl h01 bx1 => ?_
    simp only [EW, wpP, List.set]
    refine ⟨by simp, ?_⟩
    unfold I7b
    rw [wpSs, wpS]
    refine c7 C hr ?_
    simp only [ws_some, t_bl, Bool.false_eq_true, if_false]
    rw [wpSs]
    dsimp only
    rw [wpSs]
    exact kk _ _ ⟨_, _, h01, bx1, rfl⟩
  · obtain ⟨e7, e11, h0, bx, rfl⟩ := hh
    exact q h' _ _ h0
end M11

end
section
set_option Elab.async false
set_option linter.all false
set_option autoImplicit false
set_option maxRecDepth 4000
/-! the law -/
namespace M11
open M
/-- what the law calls of all -/
structure LF (F : FnS) : Prop where
  box : ∀ (h : Hm) (c : Cell) (ns : List Int) (k : Int) (Q : VQ) (E : XP), h[0]? = some c → (c = .lst (ns.map D.int) ∨ c = .ro (ns.map D.int)) → 0 ≤ k → (∀ b0 b1 : Int, Q (.ref h.length) (h ++ [.lst [.int b0, .int b1]])) → F 112 [.ref 0, .int k] h Q E
  some_ : ∀ (h : Hm) (a : Nat) (Q : VQ) (E : XP), BX h a → (∀ r h', OKR r → IsM r → Sm5 r → BX h' a → MX a h h' → Q (rulesD r) h') → F 170 [.ref a, .int 5] h Q E
  mac : ∀ (r : Rules) (h : Hm) (Q : VQ) (E : XP), OKR r → IsM r → (∀ h' rows steps order M, h <+: h' → MRl r rows steps order M → Q (macM M) h') → F 164 [rulesD r] h Q E
  allr : ∀ (m k : Nat) (h : Hm) (Q : VQ) (E : XP), m ≤ 10 → k ≤ 5 → (∀ h' r, h <+: h' → h'[r]? = some (.lst ((arF m k).map rwD)) → Q (.ref r) h') → F 171 [.int (m : Int), .int (k : Int)] h Q E
  ways : ∀ (m : Nat) (M : Mac) (h : Hm) (Q : VQ) (E : XP), WM m M → Least m M → (∀ h' W, h <+: h' → WOK m M W → Q (waysD M W) h') → F 154 [macM M] h Q E
  kw : ∀ (m : Nat) (M : Mac), WM m M → Least m M → M.found.length ≤ 5 → KW F m M
theorem LF.mk' {N : Nat} (hN : 60 ≤ N) : LF (FW P N) := by
  obtain ⟨n, rfl⟩ : ∃ n, N = n + 3 := ⟨N - 3, by omega⟩
  exact ⟨fun h c ns k Q E h0 hc k0 q => box_spec (n := n + 2) h0 hc k0 q, fun h a Q E b k => some_spec (N := n + 2) (by omega) b k,
    fun r h Q E ok im q => machine_spec (N := n + 2) (by omega) ok (fun _ _ nm => (no_both nm im).elim) q, fun m k h Q E hm hk q => allrows_spec (N := n + 2) hm hk q,
    fun m M h Q E w le q => ways_spec (N := n + 2) w le.reach q, fun m M w le n5 => KW.mk' (by omega) w le n5⟩
def B174f : List CS := [L6, L7]
def B174e : List CS := .asg (.slot 5) (.call 154 [(.loc 4)] [] [0]) :: B174f
def B174d : List CS := .asg (.tup [(.slot 8), (.slot 9)]) (.tup [(.blt .len [(.idx (.loc 4) (.lit (.int (0))))]), (.call 171 [(.blt .len [(.idx (.loc 3) (.lit (.int (1))))]), (.blt .len [(.idx (.loc 4) (.lit (.int (0))))])] [] [0, 1])]) :: B174e
def B174c : List CS := .asg (.slot 4) (.call 164 [(.loc 3)] [] [0]) :: B174d
def B174b : List CS := .asg (.slot 3) (.call 170 [(.loc 2), (.lit (.int (5)))] [] [0, 1]) :: B174c
def B174 : List CS := .asg (.slot 2) (.call 112 [(.loc 0), (.loc 1)] [] [0, 1]) :: B174b
def J174 : CE := .blt .max2 [(.lit (.int (3))), (.blt .min2 [(.blt .len [(.loc 0)]), (.lit (.int (7)))])]
def E174 : List CS := [.ret (.cmp .is (.call 153 [(.tup [(.tup [(.tup [(.lit (.int (0)))])]), (.tup [(.lit (.bl true))]), (.tup [(.tup [(.lit (.int (0)))])])]), (.lit .non), (.lit .non)] [] [0, 1, 2]) (.lit .non))]
theorem d174_eq : D174 = ⟨1, 15, .for_ (.slot 1) .range [J174] B174 :: E174⟩ := rfl
theorem rules1 {r : Rules} {h : Hm} : idxS (rulesD r) (.int 1) h = some (.tup (r.deeds.map ddD)) := at1
theorem b174 {F : FnS} (C : LF F) {E : XP} {c : Cell} {ns : List Int} (hc : c = .lst (ns.map D.int) ∨ c = .ro (ns.map D.int)) {h : Hm} (h0 : h[0]? = some c) {k : Int} (k0 : 0 ≤ k) {e2 e3 e4 e5 e6 e7 e8 e9 e10 e11 e12 e13 e14 : Option D} {Z : Ends}
    (q : ∀ h' e2 e3 e4 e5 e6 e7 e8 e9 e10 e11 e12 e13 e14, h'[0]? = some c → Z.nx [some (.ref 0), some (.int k), e2, e3, e4, e5, e6, e7, e8, e9, e10, e11, e12, e13, e14] h') :
    wpSs F E B174 [some (.ref 0), some (.int k), e2, e3, e4, e5, e6, e7, e8, e9, e10, e11, e12, e13, e14] h Z := by
  have hlen0 : 0 < h.length := (List.getElem?_eq_some_iff.mp h0).1
  unfold B174
  rw [wpSs, wpS]
  simp only [wpE, wpEs, List.getElem?_cons_succ, List.getElem?_cons_zero, Option.join_some, ws_some, permD, List.append_nil]
  refine C.box _ _ _ _ _ _ h0 hc k0 fun b0 b1 => ?_
  simp only [wpP, List.set]
  refine ⟨by simp, ?_⟩
  have bx : BX (h ++ [.lst [.int b0, .int b1]]) h.length := ⟨b0, b1, last_at⟩
  have h0' := pre_at (pre_one (c := .lst [.int b0, .int b1])) h0
  generalize h ++ [Cell.lst [D.int b0, D.int b1]] = h1 at bx h0'
  generalize ha : h.length = a at bx
  have ha0 : 0 ≠ a := by omega
  unfold B174b
  rw [wpSs, wpS]
  simp only [wpE, wpEs, List.getElem?_cons_succ, List.getElem?_cons_zero, Option.join_some, ws_some, permD, List.append_nil]
  refine C.some_ h1 a _ _ bx fun r h2 ok im sm bx2 mx2 => ?_
  have h02 := mx2.cell h0' ha0
  simp only [wpP, List.set]
  refine ⟨by simp, ?_⟩
  unfold B174c
  rw [wpSs, wpS]
  simp only [wpE, wpEs, List.getElem?_cons_succ, List.getElem?_cons_zero, Option.join_some, ws_some, permD, List.append_nil]
  refine C.mac r h2 _ _ ok im fun h3 rows steps order M p3 mo => ?_
  have le := least_of mo
  have n5 := sm rows steps order M mo
  have w : WM r.deeds.length M := ⟨le.n1, le.n2, ok.d1, ok.d2, le.row, le.al⟩
  have KC := C.kw _ M w le n5
  simp only [wpP, List.set]
  refine ⟨by simp, ?_⟩
  unfold B174d
  rw [wpSs, wpS]
  simp only [wpE, wpEs, List.getElem?_cons_succ, List.getElem?_cons_zero, Option.join_some, ws_some, permD, List.append_nil]
  rw [m_at0, ws_some, b_lenT, ws_some]
  simp only [rules1, ws_some, b_lenT, m_at0, List.length_map]
  refine C.allr _ _ _ _ _ w.m2 n5 fun h4 r9 p4 e9 => ?_
  simp only [wpP, wpPs, List.set]
  refine ⟨by simp, by simp, ?_⟩
  unfold B174e
  rw [wpSs, wpS]
  simp only [wpE, wpEs, List.getElem?_cons_succ, List.getElem?_cons_zero, Option.join_some, ws_some, permD, List.append_nil]
  refine C.ways _ M _ _ _ w le fun h5 W p5 hW => ?_
  simp only [wpP, List.set]
  refine ⟨by simp, ?_⟩
  unfold B174f
  rw [wpSs]
  refine l6 KC hW (pre_at p5 e9) fun h6 e6 e10 e12 p6 => ?_
  dsimp only
  rw [wpSs]
  have p26 := p3.trans (p4.trans (p5.trans p6))
  refine l7 KC (pre_at p26 h02) ha0 (bx2.pre p26) fun h7 e7 e11 h07 => ?_
  dsimp only
  rw [wpSs]
  exact q h7 _ _ _ _ _ _ _ _ _ _ _ _ _ h07
theorem j174 {F : FnS} {E : XP} {c : Cell} {ns : List Int} (hc : c = .lst (ns.map D.int) ∨ c = .ro (ns.map D.int)) {h : Hm} (h0 : h[0]? = some c) {l : Env} {R : List D → Hm → Prop} (q : ∀ t : Int, 0 ≤ t → t ≤ 7 → R [.int t] h) : wpEs F E [J174] (some (.ref 0) :: l) h R := by
  unfold J174
  simp only [wpSs, wpS, wpE, wpEs, wpCs, wpP, wpPs, List.map, List.replicate, List.cons_append, List.nil_append, List.append_nil, List.getElem?_cons_zero, List.getElem?_cons_succ, jn, ws_some, List.length_cons, List.length_nil, List.set, at0, at1, at2, idx_tup, c_gt, c_lt, c_le, c_ge, c_is, c_isnt, c_eqI, c_neI, c_eqS, c_neS, c_eqB, c_neB, isS, isNonD, isBlD, t_bl, b_int, b_abs, b_max2, b_min2, b_lenT, o_add, o_sub, permD, Option.map_some]
  rw [b_lenC (h := h) (a := 0) h0 hc]
  simp only [wpSs, wpS, wpE, wpEs, wpCs, wpP, wpPs, List.map, List.replicate, List.cons_append, List.nil_append, List.append_nil, List.getElem?_cons_zero, List.getElem?_cons_succ, jn, ws_some, List.length_cons, List.length_nil, List.set, at0, at1, at2, idx_tup, c_gt, c_lt, c_le, c_ge, c_is, c_isnt, c_eqI, c_neI, c_eqS, c_neS, c_eqB, c_neB, isS, isNonD, isBlD, t_bl, b_int, b_abs, b_max2, b_min2, b_lenT, o_add, o_sub, permD, Option.map_some]
  have hr : ∃ t : Int, (if (if (7 : Int) < ((ns.map D.int).length : Int) then (7 : Int) else ((ns.map D.int).length : Int)) > 3 then (if (7 : Int) < ((ns.map D.int).length : Int) then (7 : Int) else ((ns.map D.int).length : Int)) else 3) = t ∧ 0 ≤ t ∧ t ≤ 7 := by
    refine ⟨_, rfl, ?_, ?_⟩
    · split <;> (try split) <;> omega
    · split <;> (try split) <;> omega
  obtain ⟨t, ht, t0, t7⟩ := hr
  rw [ht]
  exact q t t0 t7
def M0 : Mac := ⟨[[some 0]], [true], [some [0]]⟩
theorem w0 : WM 1 M0 := ⟨by decide, by decide, by decide, by decide, fun s hs => by
  rw [List.mem_singleton.mp hs]
  refine ⟨rfl, fun t ht => ?_⟩
  rw [List.mem_singleton] at ht
  cases ht
  decide, rfl⟩
theorem law_ok {c : Cell} {ns : List Int} (hc : c = .lst (ns.map D.int) ∨ c = .ro (ns.map D.int)) (hns : ns.length ≤ 63) {Q : VQ} {E : XP} (q : ∀ h', Q (.bl true) h') : FW P 100 174 [.ref 0] [c] Q E := by
  refine fw_open (n := 99) (d := D174) rfl rfl ?_
  have C : LF (FW P 99) := LF.mk' (by omega)
  have PS := fun {h Q E} => @parting_spec 97 1 M0 w0 none none (fun _ e => nomatch e) (fun _ e => nomatch e) h Q E
  rw [d174_eq]
  generalize FW P 99 = F at C PS ⊢
  simp only [List.map, List.replicate]
  have h01 : ([c] : Hm)[0]? = some c := rfl
  rw [wpSs, for_wp]
  refine j174 hc h01 fun t t0 t6 => ?_
  rw [it_range (by omega) (by omega)]
  simp only [ws_some]
  refine forL_inv (fun l env h' => ∃ e1 e2 e3 e4 e5 e6 e7 e8 e9 e10 e11 e12 e13 e14 : Option D, env = [some (.ref 0), e1, e2, e3, e4, e5, e6, e7, e8, e9, e10, e11, e12, e13, e14] ∧ h'[0]? = some c ∧ ∀ x ∈ l, ∃ i : Int, 0 ≤ i ∧ x = .int i)
    (fun _ _ _ _ => still_nil) (fun x l env h' R hi kk => ?_) (fun env h' hi => ?_) _ _ _ ⟨none, none, none, none, none, none, none, none, none, none, none, none, none, none, rfl, h01, fun x hx => ?_⟩
  · obtain ⟨e1, e2, e3, e4, e5, e6, e7, e8, e9, e10, e11, e12, e13, e14, rfl, h0, hx⟩ := hi
    obtain ⟨i, i0, rfl⟩ := hx x List.mem_cons_self
    simp only [wpP, List.set]
    refine ⟨by simp, ?_⟩
    exact b174 C hc h0 i0 fun h5 e2 e3 e4 e5 e6 e7 e8 e9 e10 e11 e12 e13 e14 h05 => kk _ _ ⟨_, _, _, _, _, _, _, _, _, _, _, _, _, _, rfl, h05, fun y hy => hx y (List.mem_cons_of_mem _ hy)⟩
  · unfold E174
    rw [wpSs, wpS]
    simp only [wpE, wpEs, ws_some, permD, List.append_nil]
    refine PS (fun h2 _ _ => ?_) fun h2 w _ _ hw _ => absurd rfl hw
    rw [c_is]
    exact q h2
  · unfold rngD at hx
    obtain ⟨i, _, rfl⟩ := List.mem_map.mp hx
    exact ⟨_, by omega, rfl⟩
end M11

end
section
set_option Elab.async false
set_option linter.all false
set_option maxRecDepth 100000
set_option maxHeartbeats 0
namespace M11
open M PySem
def ids : List (PySem.Str × Nat × List PySem.Str) := [
  (S "course_board", 150, [S "machine", S "deeds", S "board", S "deed"]),
  (S "course_answers", 151, [S "machine", S "deeds", S "board"]),
  (S "seen_at", 152, [S "machine", S "board"]),
  (S "parting_deeds", 153, [S "machine", S "one", S "two", S "line", S "spot", S "met", S "deed", S "deeds", S "here", S "there", S "pair"]),
  (S "first_ways", 154, [S "machine", S "found", S "line", S "spot", S "deed", S "there", S "board"]),
  (S "_law_box", 112, [S "script", S "k", S "cell", S "great"]),
  (S "_law_take", 113, [S "box", S "many", S "raw", S "digit"]),
  (S "_law_pick", 18, [S "box", S "some"]),
  (S "_law_same", 19, [S "told", S "due", S "one", S "other"]),
  (S "_law_mixed", 138, [S "box", S "some", S "turn", S "left", S "found"]),
  (S "_law_sum", 155, [S "told", S "row", S "one", S "two"]),
  (S "_law_holds", 156, [S "told", S "row", S "one", S "two"]),
  (S "_law_kept", 157, [S "reg", S "worth"]),
  (S "_law_is_lawful", 158, [S "rules", S "word", S "row", S "law_word", S "told"]),
  (S "_law_done", 159, [S "rules", S "row", S "deed", S "found", S "when", S "steps", S "reg", S "told"]),
  (S "_law_told_at", 160, [S "rules", S "question", S "row", S "kind"]),
  (S "_law_start", 161, [S "rules", S "name", S "top", S "first", S "kind"]),
  (S "_law_course", 162, [S "rules", S "deeds", S "row", S "deed"]),
  (S "_law_boards", 163, [S "rules", S "rows", S "places", S "steps", S "found", S "deed", S "row"]),
  (S "_law_can_end", 47, [S "steps", S "ends", S "good", S "turn", S "spot", S "told", S "there"]),
  (S "_law_machine", 164, [S "rules", S "ends", S "good", S "steps", S "answers", S "kinds", S "turn", S "rows", S "order", S "spots", S "found", S "row", S "there", S "names", S "later", S "spot", S "told", S "answer", S "question"]),
  (S "_law_any_sum", 165, [S "box", S "registers", S "spot", S "way"]),
  (S "_law_any_when", 166, [S "box", S "registers", S "deep", S "way"]),
  (S "_law_any_rules", 167, [S "box", S "spot", S "word", S "registers", S "deeds", S "laws", S "questions", S "top", S "left", S "steps", S "parts", S "when", S "begins_now", S "name", S "first", S "kind"]),
  (S "_law_turn_deed", 168, [S "name", S "reg", S "by"]),
  (S "_law_typed_rules", 169, [S "way", S "laws", S "take", S "registers", S "never", S "can_bring", S "can_take", S "lit", S "spot"]),
  (S "_law_some_rules", 170, [S "box", S "boards", S "turn", S "rules", S "machine"]),
  (S "_law_all_rows", 171, [S "many", S "long", S "place", S "found", S "rows", S "later", S "row", S "deed"]),
  (S "_law_from", 172, [S "machine", S "board", S "deeds", S "deed"]),
  (S "_law_told_from", 173, [S "machine", S "board", S "deeds", S "there"]),
  (S "law", 174, [S "script", S "k", S "box", S "rules", S "machine", S "ways", S "one", S "turn", S "boards", S "rows", S "two", S "deeds", S "some", S "row", S "more"])]
def csts : List (PySem.Str × D) := []
abbrev R : PySem.W.OpenRow := PySem.W.OpenLaw.row PySem.Challenge.rw_strangewords_k11_whole_courses_parted
abbrev body : List PySem.Stmt := PySem.Challenge.pw_strangewords_k11_whole_courses_parted.main.body
abbrev tab : List M.Row := tabOf ids body
abbrev fa : List He.Fa := faOf tab
abbrev fn : List He.DefD := fnOfTab tab
abbrev hk : PySem.W.Hook := hookM 4 fa csts fn
def ob (s : PySem.W.SharedT) : He.AlD := obsMG 4 fa csts fn (HandSHeadRun.getT s)
theorem ob_eq (s : PySem.W.SharedT) : ob s = hk.obs s.abs := obsMG_eq (HandSHeadRun.getT_eq s)
theorem tabB : tab.all rowB = true := by kernel_rfl
abbrev loose : List PySem.Str := [S "course_board", S "course_answers", S "seen_at", S "parting_deeds", S "first_ways", S "_law_box", S "_law_take", S "_law_pick", S "_law_same", S "_law_mixed", S "_law_sum", S "_law_holds", S "_law_kept", S "_law_is_lawful", S "_law_done", S "_law_told_at", S "_law_start", S "_law_course", S "_law_boards", S "_law_can_end", S "_law_machine", S "_law_any_sum", S "_law_any_when", S "_law_any_rules", S "_law_turn_deed", S "_law_typed_rules", S "_law_some_rules", S "_law_all_rows", S "_law_from", S "_law_told_from"]
theorem run (w : PySem.World) : HandSHeadRun.RunEq R (PySem.W.view R.prog [32]) hk ob 4000 loose w := by
  intro os
  kernel_rfl
theorem allC : (tab.all fun r => (r.def_ (gmOf tab csts)).isSome) = true := by kernel_rfl
theorem idsN : (tab.map fun r => r.fi.id).Nodup := by decide +kernel
theorem P_eq : progOf tab (gmOf tab csts) = P := by kernel_rfl
theorem P_ok : ∀ r ∈ tab, ∃ d, r.def_ (gmOf tab csts) = some d ∧ P.lookup r.fi.id = some d := by rw [← P_eq]; exact prog_ok allC idsN
def rLaw : M.Row := (tab[30]?).getD noRow
end M11
open PySem PySem.W PySem.Calls PyProof.Rows
set_option maxRecDepth 100000 in
set_option maxHeartbeats 0 in
theorem PySem.Challenge.cw_strangewords_k11_whole_courses_parted_holds : PySem.Challenge.rw_strangewords_k11_whole_courses_parted.Holds := by
  w_on; o_law
  refine HandSHeadRun.head_any (r := OpenLaw.row PySem.Challenge.rw_strangewords_k11_whole_courses_parted) (q := view (OpenLaw.row PySem.Challenge.rw_strangewords_k11_whole_courses_parted).prog [32]) (H := M11.hk) (ob := M11.ob) (M := 4000) (loose := M11.loose) (d := HandSHeadRun.topDef (OpenLaw.row PySem.Challenge.rw_strangewords_k11_whole_courses_parted).prog 32) (kwd := []) M11.ob_eq
    (by kernel_rfl) (fun s => by kernel_rfl) M11.run (by kernel_rfl) (by kernel_rfl) (by kernel_rfl) (by rfl) (by first | assumption | decide +kernel) (by decide +kernel) ⟨rfl, rfl, rfl, rfl, rfl, by decide +kernel⟩ ?hw ?hc
  case hw => w_witness2
  case hc =>
    refine L2.walk_ofE (l := PySem.Challenge.rw_strangewords_k11_whole_courses_parted) (n := 63) (k := 100) (x := "script") (CX := M.CXN) rfl (by decide) (by kernel_rfl) ⟨rfl, by decide, by decide⟩ ?F (fun _ _ _ _ z => z)
    intro w mg fa h Y G hmg0
    obtain ⟨K, KX, c⟩ := Y
    have hmg : mg ("law" : PySem.Str) = some (.ref fa) := by
      have e : (HandSHeadRun.topDef (OpenLaw.row PySem.Challenge.rw_strangewords_k11_whole_courses_parted).prog 32).name = ("law" : PySem.Str) := by kernel_rfl
      rw [← e]
      exact hmg0
    exact M.law_end (tab := M11.tab) (cs := M11.csts) (Pm := M11.P) (r := M11.rLaw) 100 KX G hmg c M11.tabB M11.P_ok (i := 30) (by kernel_rfl) (by kernel_rfl) (by kernel_rfl) (by kernel_rfl) (by kernel_rfl) fun c ns hc hl => M11.law_ok hc hl fun _ => rfl

end
