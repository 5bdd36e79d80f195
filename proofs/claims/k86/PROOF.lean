import PyProof.Rows.All
import Wide.All
import OpenK.AllK
import Wide.FinOn
import HandS.ForMost
import HandS.Deep
import HandS.Conv
import HandS.More
import HandS.IsInst
import HandS.TupAny
import HandS.TupLe
import HandS.Style
import HandS.NoneIn
import HandS.Wide
import KE.SortCalls
import KE.KDictKeyed
import KE.KDictWalk
import PyProof.ReprRoads
import HandS.TupMul
import KE.DataCmp
import KE.SortData
import KE.KDictPairs
import KE.KDictSum
import HandS.TupLen
import PyProof.ReprBulk
import PySem.Challenge.RW_topplingsteps_k86_whole_chains_and_borde
set_option Elab.async false
set_option linter.all false
set_option maxRecDepth 100000
/-! Core1: a small interpreter for the part of Python that the programs use: values D, cells, expressions E, statements S, their run. -/
namespace Co
open PySem L2

/-- a value: data, or the place of a changing object -/
inductive D where
  | non | bl (b : Bool) | int (i : Int) | str (x : Str) | tup (xs : List D) | fl (xs : List D) | ref (n : Nat)

namespace D
mutual
def beq : D → D → Bool
  | .non, .non => true
  | .bl a, .bl b => decide (a = b)
  | .int a, .int b => decide (a = b)
  | .str a, .str b => decide (a = b)
  | .ref a, .ref b => decide (a = b)
  | .tup a, .tup b => beqs a b
  | .fl a, .fl b => beqs a b
  | _, _ => false
def beqs : List D → List D → Bool
  | [], [] => true
  | a :: as, b :: bs => beq a b && beqs as bs
  | _, _ => false
end
mutual
theorem beq_self : ∀ a : D, beq a a = true
  | .non => rfl
  | .bl a => by simp [beq]
  | .int a => by simp [beq]
  | .str a => by simp [beq]
  | .ref a => by simp [beq]
  | .tup a => by rw [beq]; exact beqs_self a
  | .fl a => by rw [beq]; exact beqs_self a
theorem beqs_self : ∀ a : List D, beqs a a = true
  | [] => rfl
  | a :: as => by rw [beqs, beq_self a, beqs_self as]; rfl
end
mutual
theorem eq_of_beq : ∀ a b : D, beq a b = true → a = b
  | .non, b, h => by cases b <;> first | rfl | (simp [beq] at h)
  | .bl a, b, h => by cases b <;> simp [beq] at h; rw [h]
  | .int a, b, h => by cases b <;> simp [beq] at h; rw [h]
  | .str a, b, h => by cases b <;> simp [beq] at h; rw [h]
  | .ref a, b, h => by cases b <;> simp [beq] at h; rw [h]
  | .tup a, b, h => by
    cases b with
    | tup b => rw [beq] at h; rw [eq_of_beqs a b h]
    | _ => simp [beq] at h
  | .fl a, b, h => by
    cases b with
    | fl b => rw [beq] at h; rw [eq_of_beqs a b h]
    | _ => simp [beq] at h
theorem eq_of_beqs : ∀ a b : List D, beqs a b = true → a = b
  | [], [], _ => rfl
  | [], _ :: _, h => by simp [beqs] at h
  | _ :: _, [], h => by simp [beqs] at h
  | a :: as, b :: bs, h => by
    rw [beqs, Bool.and_eq_true] at h
    rw [eq_of_beq a b h.1, eq_of_beqs as bs h.2]
end
instance : DecidableEq D := fun a b => if h : beq a b = true then .isTrue (eq_of_beq a b h) else .isFalse fun e => h (e ▸ beq_self a)
end D

inductive Cell where
  | lst (xs : List D)
  | dct (kvs : List (D × D))
  | ins (c : Nat) (fs : List (Str × D))

abbrev Hh := List Cell
abbrev Rho := List (Option D)

/-- what an expression gives: a value, or a list that nobody else holds -/
inductive Res where
  | v (d : D) | f (ds : List D)

mutual
/-- no changing object within -/
def pure? : D → Bool
  | .ref _ => false
  | .tup xs => pures xs
  | .fl xs => pures xs
  | _ => true
def pures : List D → Bool
  | [] => true
  | x :: xs => pure? x && pures xs
end
mutual
/-- as the library's data -/
def py : D → PyData
  | .non => .none
  | .bl b => .bool b
  | .int i => .int i
  | .str x => .str x
  | .tup xs => .tuple (pys xs)
  | .fl xs => .list (pys xs)
  | .ref _ => .none
def pys : List D → List PyData
  | [] => []
  | x :: xs => py x :: pys xs
end

/-- the data of a value, its lists within read from the heap (a list may hold lists, at most three deep) -/
def look : Hh → Nat → Option Cell := fun h n => h[n]?
def optAll {α β : Type} (f : α → Option β) : List α → Option (List β)
  | [] => some []
  | x :: xs => match f x, optAll f xs with
    | some y, some ys => some (y :: ys)
    | _, _ => none
mutual
def dat1 (h : Hh) (k : List D → Option (List PyData)) : D → Option PyData
  | .non => some .none
  | .bl b => some (.bool b)
  | .int i => some (.int i)
  | .str x => some (.str x)
  | .tup xs => (dats1 h k xs).map .tuple
  | .fl _ => none
  | .ref n => match look h n with
    | some (.lst xs) => (k xs).map .list
    | some (.dct []) => some (.dict [])
    | _ => none
def dats1 (h : Hh) (k : List D → Option (List PyData)) : List D → Option (List PyData)
  | [] => some []
  | x :: xs => match dat1 h k x, dats1 h k xs with
    | some y, some ys => some (y :: ys)
    | _, _ => none
end
def datsN (h : Hh) : Nat → List D → Option (List PyData)
  | 0, _ => none
  | n + 1, xs => dats1 h (datsN h n) xs
mutual
/-- a list lies within -/
def hasList : PyData → Bool
  | .list _ => true
  | .tuple xs => hasLists xs
  | _ => false
def hasLists : List PyData → Bool
  | [] => false
  | x :: xs => hasList x || hasLists xs
end
/-- data of a value -/
def dat (h : Hh) (d : D) : Option PyData := if pure? d then some (py d) else dat1 h (datsN h 4) d
def dats (h : Hh) (xs : List D) : Option (List PyData) := if pures xs then some (pys xs) else dats1 h (datsN h 4) xs
def datR (h : Hh) : Res → Option PyData
  | .v d => dat h d
  | .f ds => (dats h ds).map .list

/-- a list that is taken over by the heap -/
def adopt : Res → Hh → D × Hh
  | .v d, h => (d, h)
  | .f ds, h => (.ref h.length, h ++ [.lst ds])

/-- the items of a list or tuple -/
def seqOf (h : Hh) : Res → Option (List D)
  | .f ds => some ds
  | .v (.tup ds) => some ds
  | .v (.fl ds) => some ds
  | .v (.ref n) => match look h n with
    | some (.lst ds) => some ds
    | _ => none
  | _ => none
def listOf (h : Hh) : Res → Option (List D)
  | .f ds => some ds
  | .v (.fl ds) => some ds
  | .v (.ref n) => match look h n with
    | some (.lst ds) => some ds
    | _ => none
  | _ => none
def lstOf (h : Hh) : Res → Option (List D)
  | .f ds => some ds
  | .v (.ref n) => match look h n with
    | some (.lst ds) => some ds
    | _ => none
  | _ => none
/-- .. or the keys of a dict -/
def keysOf (h : Hh) : Res → Option (List D)
  | .v (.ref n) => match look h n with
    | some (.dct kvs) => some (kvs.map (·.1))
    | _ => none
  | _ => none
def iterOf (h : Hh) (r : Res) : Option (List D) := match seqOf h r with
  | some ds => some ds
  | none => keysOf h r

def small (n : Nat) : Bool := decide (n ≤ 16777216)

inductive Bop where | add | sub | mul | fdiv | mod | pow
  deriving DecidableEq
inductive Cop where | eq | ne | lt | le | gt | ge | isin | notin
  deriving DecidableEq
inductive Ty where | int | bool | str | tuple | list | dict
  deriving DecidableEq
inductive Bi where | len | abs | int | min | max | sum | sorted | list | tuple | dict | all | any | repr
  deriving DecidableEq
inductive Me where | append | pop | get | items | values | update | extend | count | index | split | remove | clear | setdefault
  deriving DecidableEq

def bitsOk (i j : Int) : Bool := decide (-(2 ^ 64) < i ∧ i < 2 ^ 64) || decide (-(2 ^ 64) < j ∧ j < 2 ^ 64)

def repD (xs : List D) (k : Int) : List D := (List.replicate k.toNat xs).flatten

def binop (o : Bop) (h : Hh) (a b : Res) : Option Res := match o with
  | .add => match a, b with
    | .v (.int i), .v (.int j) => some (.v (.int (i + j)))
    | .v (.str x), .v (.str y) => if small (x.length + y.length) then some (.v (.str (x ++ y))) else none
    | .v (.tup xs), .v (.tup ys) => if small (xs.length + ys.length) then some (.v (.tup (xs ++ ys))) else none
    | _, _ => match lstOf h a, lstOf h b with
      | some xs, some ys => if small (xs.length + ys.length) then some (.f (xs ++ ys)) else none
      | _, _ => none
  | .sub => match a, b with
    | .v (.int i), .v (.int j) => some (.v (.int (i - j)))
    | _, _ => none
  | .mul => match a, b with
    | .v (.int i), .v (.int j) => if bitsOk i j then some (.v (.int (i * j))) else none
    | a, .v (.int k) => match lstOf h a with
      | some xs => if decide (-1000 ≤ k) && decide (k ≤ 1000) && decide (xs.length ≤ 1000) then some (.f (repD xs k)) else none
      | none => none
    | _, _ => none
  | .fdiv => match a, b with
    | .v (.int i), .v (.int j) => if decide (0 < j) && decide (j < 1073741824) then some (.v (.int (i / j))) else
      if decide (j ≠ 0) && decide (j.natAbs < 1073741824) then some (.v (.int (i.fdiv j))) else none
    | _, _ => none
  | .mod => match a, b with
    | .v (.int i), .v (.int j) => if decide (0 < j) then some (.v (.int (i % j))) else if decide (j ≠ 0) then some (.v (.int (i.fmod j))) else none
    | _, _ => none
  | .pow => match a, b with
    | .v (.int i), .v (.int j) => if decide (0 ≤ j) && decide (j ≤ 1000000) && decide (i.natAbs < 2 ^ 64) then some (.v (.int (i ^ j.toNat))) else none
    | _, _ => none

def ltInt (o : Cop) (i j : Int) : Bool := match o with
  | .lt => decide (i < j) | .le => decide (i ≤ j) | .gt => decide (j < i) | .ge => decide (j ≤ i) | _ => false
def ltData (o : Cop) (x y : PyData) : Bool := match o with
  | .lt => PySem.W.dataLt x y | .le => !PySem.W.dataLt y x | .gt => PySem.W.dataLt y x | .ge => !PySem.W.dataLt x y | _ => false
/-- tuples that can be compared by < -/
def cmpOk (x y : PyData) : Bool := SeqAt.shaped x && SeqAt.shaped y && PySem.W.alike x y
def isTup : Res → Bool
  | .v (.tup _) => true
  | _ => false

def keyOk : D → Bool
  | .int _ => true
  | .str _ => true
  | _ => false
mutual
/-- as a nested key -/
def nk : D → Option NestedKey
  | .non => some .none
  | .int i => some (.num i)
  | .str x => some (.text x)
  | .tup xs => (nks xs).map .tup
  | _ => none
def nks : List D → Option (List NestedKey)
  | [] => some []
  | x :: xs => match nk x, nks xs with
    | some k, some ks => some (k :: ks)
    | _, _ => none
end
/-- a tuple as a key -/
def tupKey : D → Bool
  | .tup xs => match nks xs with
    | some ks => decide ((NestedKey.tup ks).depth ≤ 8)
    | none => false
  | _ => false
/-- all keys of one kind, and the new one of it too -/
def keysFit (kvs : List (D × D)) (k : D) : Bool :=
  (keyOk k && kvs.all fun p => keyOk p.1) || (tupKey k && kvs.all fun p => tupKey p.1)
def dget (kvs : List (D × D)) (k : D) : Option D := (kvs.find? fun p => decide (p.1 = k)).map (·.2)
def dput (kvs : List (D × D)) (k v : D) : List (D × D) :=
  if kvs.any (fun p => decide (p.1 = k)) then kvs.map (fun p => if p.1 = k then (p.1, v) else p) else kvs ++ [(k, v)]
def ddrop (kvs : List (D × D)) (k : D) : List (D × D) := kvs.filter fun p => decide (p.1 ≠ k)

/-- x in a sequence: its items are data -/
def inSeq (h : Hh) (a b : Res) : Option Bool :=
  match datR h a, datR h b with
  | some d, some (.list ds) => if SeqAt.shaped d && SeqAt.shaped (.list ds) then some (ds.any fun z => PyData.eqv z d) else none
  | some d, some (.tuple ds) => if SeqAt.shaped d && SeqAt.shaped (.tuple ds) then some (ds.any fun z => PyData.eqv z d) else none
  | _, _ => none
def isIn (h : Hh) (a b : Res) : Option Bool := match a, b with
  | .v (.str x), .v (.str y) => some (!(Builtin.Str.occurrences y x 0 y.length 1).isEmpty)
  | a, .v (.ref n) => match look h n with
    | some (.dct kvs) => match a with
      | .v k => if keysFit kvs k then some (dget kvs k).isSome else none
      | _ => none
    | _ => inSeq h a b
  | _, _ => inSeq h a b
def eqGen (h : Hh) (a b : Res) : Option Bool := match datR h a, datR h b with
  | some x, some y => if SeqAt.shaped x && SeqAt.shaped y then some (PyData.eqv x y) else none
  | _, _ => none
/-- a == b: lists of unlike lengths are unlike, whatever they hold -/
def eqRes (h : Hh) (a b : Res) : Option Bool := match listOf h a, listOf h b with
  | some xs, some ys => if xs.length = ys.length then eqGen h a b else some false
  | _, _ => eqGen h a b
def ordop (o : Cop) (a b : Res) : Option Bool := match a, b with
  | .v (.int i), .v (.int j) => some (ltInt o i j)
  | .v (.tup xs), .v (.tup ys) => if pures xs && pures ys && cmpOk (py (.tup xs)) (py (.tup ys)) then some (ltData o (py (.tup xs)) (py (.tup ys))) else none
  | .v (.str x), .v (.str y) => if o = .lt then some (decide (x.cps.toList < y.cps.toList)) else none
  | _, _ => none
def cmpop (o : Cop) (h : Hh) (a b : Res) : Option Bool := match o with
  | .eq => eqRes h a b
  | .ne => (eqRes h a b).map (!·)
  | .isin => isIn h a b
  | .notin => (isIn h a b).map (!·)
  | o => ordop o a b

/-- the order of sorted -/
def leD (a b : D) : Bool := !PySem.W.dataLt (py b) (py a)
def depth : D → Nat := fun d => (py d).depth
def sortOk (ds : List D) : Bool :=
  (ds.all fun a => pure? a && SeqAt.shaped (py a)) && (ds.all fun a => ds.all fun b => PySem.W.alike (py a) (py b)) && (ds.all fun a => match a with | .non => false | _ => true) && small ds.length
def sortD (ds : List D) : Option (List D) := if sortOk ds then some (ds.mergeSort leD) else none

def intsD : List D → Option (List Int)
  | [] => some []
  | .int i :: r => (intsD r).map (i :: ·)
  | _ => none
def bools : List D → Option (List Bool)
  | [] => some []
  | .bl i :: r => (bools r).map (i :: ·)
  | _ => none
def pairsOf : List D → Option (List (D × D))
  | [] => some []
  | .tup [a, b] :: r => (pairsOf r).map ((a, b) :: ·)
  | _ => none
def mkDict (kvs : List (D × D)) : List (D × D) := kvs.foldl (fun acc p => dput acc p.1 p.2) []
def dictOk (kvs : List (D × D)) : Bool := (kvs.all fun p => keyOk p.1) || (kvs.all fun p => tupKey p.1)
def rangeOk (a b : Int) : Bool := decide (-1000000 ≤ a) && decide (a ≤ 1000000) && decide (-1000000 ≤ b) && decide (b ≤ 1000000)
def rangeD (a b : Int) : List D := (List.range (b - a).toNat).map fun (i : Nat) => D.int (a + (i : Int))
def maxI : List Int → Option Int
  | [] => none
  | x :: r => some (r.foldl max x)
def minI : List Int → Option Int
  | [] => none
  | x :: r => some (r.foldl min x)
def tyOf (h : Hh) : Res → Option Ty
  | .f _ => some .list
  | .v .non => none
  | .v (.bl _) => some .bool
  | .v (.int _) => some .int
  | .v (.str _) => some .str
  | .v (.tup _) => some .tuple
  | .v (.fl _) => some .list
  | .v (.ref n) => match look h n with
    | some (.lst _) => some .list
    | some (.dct _) => some .dict
    | _ => none
def tyIs (t : Option Ty) (u : Ty) : Bool := match t with
  | none => false
  | some t => decide (t = u) || (decide (t = .bool) && decide (u = .int))
def knownTy (h : Hh) : Res → Bool
  | .v (.ref n) => match look h n with
    | some (.lst _) => true
    | some (.dct _) => true
    | _ => false
  | _ => true

/-- range(..) and the like give no value of their own here: only where they are walked or made a list or tuple of -/
inductive Arg where
  | r (x : Res) | rg (a b : Int) | seq (ds : List D)

/-- dict(d), dict(pairs) -/
def dictBi (h : Hh) (r : Res) : Option (Res × Hh) := match seqOf h r with
  | some ds => match pairsOf ds with
    | some kvs => if dictOk kvs then some (.v (.ref h.length), h ++ [.dct (mkDict kvs)]) else none
    | none => none
  | none => match r with
    | .v (.ref n) => match look h n with
      | some (.dct kvs) => if kvs.all fun p => keyOk p.1 then some (.v (.ref h.length), h ++ [.dct kvs]) else none
      | _ => none
    | _ => none
def reprBi (h : Hh) (r : Res) : Option Str := match datR h r with
  | some x => if x.showable && decide (x.depth ≤ 64) && !(x.hasDict && hasList x) && small x.shown.length then some x.shown else none
  | none => none
def biLen (h : Hh) : List Res → Option (Res × Hh)
  | [r] => match r with
    | .v (.str x) => if small x.length then some (.v (.int x.length), h) else none
    | r => match iterOf h r with
      | some ds => some (.v (.int ds.length), h)
      | none => none
  | _ => none
def biAbs (h : Hh) : List Res → Option (Res × Hh)
  | [.v (.int i)] => some (.v (.int (if i < 0 then -i else i)), h)
  | _ => none
def biInt (h : Hh) : List Res → Option (Res × Hh)
  | [.v (.int i)] => some (.v (.int i), h)
  | [.v (.bl k)] => some (.v (.int (if k then 1 else 0)), h)
  | [.v (.str x)] => match intText? x with
    | some n => if decide (x.length ≤ 640) then some (.v (.int n), h) else none
    | none => none
  | _ => none
def ints1 (h : Hh) (r : Res) : Option (List Int) := match listOf h r with
  | some ds => intsD ds
  | none => none
def bools1 (h : Hh) (r : Res) : Option (List Bool) := match listOf h r with
  | some ds => bools ds
  | none => none
def biMax (h : Hh) : List Res → Option (Res × Hh)
  | [.v (.int i), .v (.int j)] => some (.v (.int (if j > i then j else i)), h)
  | [r] => match ints1 h r with
    | some ns => (maxI ns).map fun m => (.v (.int m), h)
    | none => none
  | _ => none
def biMin (h : Hh) : List Res → Option (Res × Hh)
  | [.v (.int i), .v (.int j)] => some (.v (.int (if j < i then j else i)), h)
  | [r] => match ints1 h r with
    | some ns => (minI ns).map fun m => (.v (.int m), h)
    | none => none
  | _ => none
def biSum (h : Hh) : List Res → Option (Res × Hh)
  | [r] => match ints1 h r with
    | some ns => some (.v (.int ns.sum), h)
    | none => none
  | _ => none
def biSorted (h : Hh) : List Res → Option (Res × Hh)
  | [r] => match iterOf h r with
    | some ds => (sortD ds).map fun ds' => (.f ds', h)
    | none => none
  | _ => none
def biList (h : Hh) : List Res → Option (Res × Hh)
  | [r] => match iterOf h r with
    | some ds => some (.f ds, h)
    | none => none
  | _ => none
def biTuple (h : Hh) : List Res → Option (Res × Hh)
  | [r] => match seqOf h r with
    | some ds => some (.v (.tup ds), h)
    | none => none
  | _ => none
def biAll (h : Hh) : List Res → Option (Res × Hh)
  | [r] => match bools1 h r with
    | some bs => some (.v (.bl (bs.all id)), h)
    | none => none
  | _ => none
def biAny (h : Hh) : List Res → Option (Res × Hh)
  | [r] => match bools1 h r with
    | some bs => some (.v (.bl (bs.any id)), h)
    | none => none
  | _ => none
def biDict (h : Hh) : List Res → Option (Res × Hh)
  | [r] => dictBi h r
  | _ => none
def biRepr (h : Hh) : List Res → Option (Res × Hh)
  | [r] => match reprBi h r with
    | some x => some (.v (.str x), h)
    | none => none
  | _ => none
def bltn (b : Bi) (h : Hh) (as : List Res) : Option (Res × Hh) := match b with
  | .len => biLen h as | .abs => biAbs h as | .int => biInt h as | .min => biMin h as | .max => biMax h as | .sum => biSum h as | .sorted => biSorted h as
  | .list => biList h as | .tuple => biTuple h as | .dict => biDict h as | .all => biAll h as | .any => biAny h as | .repr => biRepr h as

def ixN? (n : Nat) (i : Int) : Option Nat := L2.ixN n i
/-! hash(x) of ints and tuples of them -/
mutual
def hashD : D → Option Int
  | .int i => some (hashInt i)
  | .tup xs => (hashsD xs).map fun hs => reduceHash (Builtin.Tuple.tupleHashOf hs)
  | _ => none
def hashsD : List D → Option (List Int)
  | [] => some []
  | x :: xs => match hashD x, hashsD xs with
    | some k, some ks => some (k :: ks)
    | _, _ => none
end
/-- no two keys hash alike -/
def hashApart (kvs : List (D × D)) : Bool := match hashsD (kvs.map (·.1)) with
  | some hs => decide hs.Nodup
  | none => false
/-- the kind of a method's receiver -/
def mkd (h : Hh) : D → Nat
  | .ref n => match look h n with
    | some (.lst _) => 0
    | some (.dct _) => 1
    | _ => 9
  | .str _ => 2
  | .tup _ => 3
  | _ => 9
def mLst (m : Me) (h : Hh) (n : Nat) (xs : List D) (as : List Res) : Option (Res × Hh) := match m, as with
  | .pop, [] => match xs[xs.length - 1]? with
    | some d => some (.v d, h.set n (.lst xs.dropLast))
    | none => none
  | .pop, [.v (.int i)] => match ixN? xs.length i with
    | some j => match xs[j]? with
      | some d => some (.v d, h.set n (.lst (xs.eraseIdx j)))
      | none => none
    | none => none
  | .extend, [r] => match lstOf h r with
    | some ys => if small (xs.length + ys.length) then some (.v .non, h.set n (.lst (xs ++ ys))) else none
    | none => none
  | .append, [.v d] => if decide (xs.length < 16777216) then some (.v .non, h.set n (.lst (xs ++ [d]))) else none
  | _, _ => none
def mDct (m : Me) (h : Hh) (n : Nat) (kvs : List (D × D)) (as : List Res) : Option (Res × Hh) := match m, as with
  | .get, [.v k, .v x] => if keysFit kvs k then some (.v ((dget kvs k).getD x), h) else none
  | .update, [.v (.ref j)] => match look h j with
    | some (.dct more) => if decide (n ≠ j) && (kvs.all fun p => tupKey p.1) && (more.all fun p => tupKey p.1) && !more.isEmpty && (!kvs.isEmpty || hashApart more) && small (kvs.length + more.length) then
        some (.v .non, h.set n (.dct (more.foldl (fun acc p => dput acc p.1 p.2) kvs))) else none
    | _ => none
  | _, _ => none
def mStr (m : Me) (h : Hh) (x : Str) (as : List Res) : Option (Res × Hh) := match m, as with
  | .split, [.v (.str y)] => if !(y.length == 0) && small (x.length + 2) then some (.f ((Txt.split x y).map D.str), h) else none
  | _, _ => none
def methd (m : Me) (h : Hh) (o : D) (as : List Res) : Option (Res × Hh) := match o with
  | .ref n => match look h n with
    | some (.lst xs) => mLst m h n xs as
    | some (.dct kvs) => mDct m h n kvs as
    | _ => none
  | .str x => mStr m h x as
  | _ => none

def cutD (xs : List D) (lo hi : Option Int) : List D := (xs.drop (HT.sIx xs.length 0 lo)).take (HT.sIx xs.length xs.length hi - HT.sIx xs.length 0 lo)
def slice (h : Hh) (r : Res) (lo hi : Option Int) : Option Res := match r with
  | .v (.tup xs) => some (.v (.tup (cutD xs lo hi)))
  | r => match listOf h r with
    | some xs => some (.f (cutD xs lo hi))
    | none => none
def turned (h : Hh) (r : Res) : Option Res := match r with
  | .v (.tup xs) => some (.v (.tup xs.reverse))
  | r => match listOf h r with
    | some xs => some (.f xs.reverse)
    | none => none
def item (h : Hh) (a b : Res) : Option D := match a, b with
  | .v (.ref n), .v k => match look h n with
    | some (.dct kvs) => if keysFit kvs k then dget kvs k else none
    | _ => match seqOf h a, k with
      | some xs, .int i => atI xs i
      | _, _ => none
  | a, .v (.int i) => match seqOf h a with
    | some xs => atI xs i
    | none => none
  | _, _ => none
def setItem? (h : Hh) (a b v : D) : Option Hh := match a with
  | .ref n => match look h n with
    | some (.lst xs) => match b with
      | .int i => match ixN? xs.length i with
        | some j => some (h.set n (.lst (xs.set j v)))
        | none => none
      | _ => none
    | some (.dct kvs) => if keysFit kvs b && decide (kvs.length < 16777216) then some (h.set n (.dct (dput kvs b v))) else none
    | _ => none
  | _ => none

/-! ### targets -/
inductive Tg where | nm (i : Nat) | tp (ts : List Tg)
mutual
def bindT : Tg → D → Rho → Option Rho
  | .nm i, d, ρ => if i < ρ.length then some (ρ.set i (some d)) else none
  | .tp ts, .tup ds, ρ => bindTs ts ds ρ
  | .tp _, _, _ => none
def bindTs : List Tg → List D → Rho → Option Rho
  | [], [], ρ => some ρ
  | t :: ts, d :: ds, ρ => match bindT t d ρ with
    | some ρ' => bindTs ts ds ρ'
    | none => none
  | _, _, _ => none
end
mutual
def slotsT : Tg → List Nat
  | .nm i => [i]
  | .tp ts => slotsTs ts
def slotsTs : List Tg → List Nat
  | [] => []
  | t :: ts => slotsT t ++ slotsTs ts
end

/-! ### the text -/
mutual
inductive E where
  | var (i : Nat) | non | bl (b : Bool) | int (i : Int) | str (x : Str)
  | bin (o : Bop) (a b : E) | neg (a : E) | not (a : E) | and (a b : E) | or (a b : E)
  | cmp (o : Cop) (a b : E) | chn (o p : Cop) (a b c : E) | isN (a : E) | notN (a : E)
  | ite (t a b : E) | ix (a b : E) | sl (a : E) (lo hi : Option E) | rev (a : E)
  | tup (es : List E) | tupS (a : E) (es : List E) | lst (es : List E) | dnew | dlit (es : List E)
  | lc (tg : Tg) (it : W) (t : Option E) (e : E) (own : List (Str × Nat))
  | call (f : Nat) (es : List E) | bi (b : Bi) (es : List E) | isi (t : Ty) (e : E) | me (m : Me) (o : E) (es : List E)
  | lstR (es : List E) | tupR (es : List E)
/-- what a loop walks -/
inductive W where
  | of (e : E) | range (es : List E) | enum (e : E) | zip (a b : E) | zipS (a b : E)
end
mutual
inductive S where
  | asg (tg : Tg) (e : E) | par (is : List Nat) (es : List E) | six (a i e : E) | aug (i : Nat) (o : Bop) (e : E) | aix (a i : E) (o : Bop) (e : E)
  | ex (e : E) | ret (e : E) | retN | ite (t : E) (a b : List S) | for (tg : Tg) (it : W) (b : List S) | whl (t : E) (b : List S)
  | pass | brk | cont | never
end

inductive Out where
  | nx (ρ : Rho) (h : Hh) | rt (d : D) (h : Hh) | bk (ρ : Rho) (h : Hh) | ct (ρ : Rho) (h : Hh)

abbrev Call := Nat → List D → Hh → Option (D × Hh)
/-- a list that is walked stays as it is -/
def stays (g : Option (Nat × List D)) (h : Hh) : Bool := match g with
  | none => true
  | some (n, xs) => match look h n with
    | some (.lst ys) => decide (ys = xs)
    | _ => false
def guardOf (h : Hh) : Res → Option (Nat × List D)
  | .v (.ref n) => match look h n with
    | some (.lst ds) => some (n, ds)
    | _ => none
  | _ => none

/-- the items that a loop takes, and the lists that are to stay -/
structure Walk where
  ds : List D
  g1 : Option (Nat × List D)
  g2 : Option (Nat × List D)
def Walk.ok (w : Walk) (h : Hh) : Bool := stays w.g1 h && stays w.g2 h
def signs (x : Str) : List D := x.cps.toList.map fun c => D.str ⟨#[c]⟩
def walkOf (h : Hh) (r : Res) : Option Walk := match r with
  | .v (.str x) => some ⟨signs x, none, none⟩
  | r => match seqOf h r with
    | some ds => some ⟨ds, guardOf h r, none⟩
    | none => none
def enumD (ds : List D) : List D := ds.zipIdx.map fun p => D.tup [.int (p.2 : Nat), p.1]
def zipD (ds es : List D) : List D := (ds.zip es).map fun p => D.tup [p.1, p.2]

def forL (body : Rho → Hh → Option Out) (tg : Tg) (w : Walk) : List D → Rho → Hh → Option Out
  | [], ρ, h => if w.ok h then some (.nx ρ h) else none
  | d :: ds, ρ, h => if w.ok h then
      match bindT tg d ρ with
      | none => none
      | some ρ1 => match body ρ1 h with
        | some (.nx ρ2 h2) => forL body tg w ds ρ2 h2
        | some (.ct ρ2 h2) => forL body tg w ds ρ2 h2
        | some (.bk ρ2 h2) => some (.nx ρ2 h2)
        | some (.rt d h2) => some (.rt d h2)
        | none => none
    else none
def lcL (test : Rho → Hh → Option (Bool × Hh)) (elt : Rho → Hh → Option (D × Hh)) (tg : Tg) (w : Walk) (ρ : Rho) : List D → List D → Hh → Option (List D × Hh)
  | [], acc, h => if w.ok h then some (acc, h) else none
  | d :: ds, acc, h => if w.ok h then
      match bindT tg d ρ with
      | none => none
      | some ρ1 => match test ρ1 h with
        | some (true, h1) => match elt ρ1 h1 with
          | some (x, h2) => if decide (acc.length < 16777216) then lcL test elt tg w ρ ds (acc ++ [x]) h2 else none
          | none => none
        | some (false, h1) => lcL test elt tg w ρ ds acc h1
        | none => none
    else none
def whlL (test : Rho → Hh → Option (Bool × Hh)) (body : Rho → Hh → Option Out) : Nat → Rho → Hh → Option Out
  | 0, _, _ => none
  | n + 1, ρ, h => match test ρ h with
    | some (false, h1) => some (.nx ρ h1)
    | some (true, h1) => match body ρ h1 with
      | some (.nx ρ2 h2) => whlL test body n ρ2 h2
      | some (.ct ρ2 h2) => whlL test body n ρ2 h2
      | some (.bk ρ2 h2) => some (.nx ρ2 h2)
      | some (.rt d h2) => some (.rt d h2)
      | none => none
    | none => none
def fuel : Nat := 1000000000000
def wipeR (ρ : Rho) : List (Str × Nat) → Rho
  | [] => ρ
  | p :: ps => (wipeR ρ ps).set p.2 none
def asB : Option (Res × Hh) → Option (Bool × Hh)
  | some (.v (.bl b), h) => some (b, h)
  | _ => none
def asD : Option (Res × Hh) → Option (D × Hh)
  | some (r, h) => some (adopt r h)
  | none => none
def pairUp : List D → Option (List (D × D))
  | [] => some []
  | k :: v :: r => (pairUp r).map ((k, v) :: ·)
  | _ => none
def rangeOf (rs : List Res) : Option (List D) := match rs with
  | [.v (.int n)] => if rangeOk 0 n then some (rangeD 0 n) else none
  | [.v (.int a), .v (.int b)] => if rangeOk a b then some (rangeD a b) else none
  | _ => none

section
variable (cl : Call)
mutual
def ev : E → Rho → Hh → Option (Res × Hh)
  | .var i, ρ, h => match ρ[i]? with
    | some (some d) => some (.v d, h)
    | _ => none
  | .non, _, h => some (.v .non, h)
  | .bl b, _, h => some (.v (.bl b), h)
  | .int i, _, h => some (.v (.int i), h)
  | .str x, _, h => some (.v (.str x), h)
  | .bin o a b, ρ, h => match ev a ρ h with
    | some (x, h1) => match ev b ρ h1 with
      | some (y, h2) => match binop o h2 x y with
        | some z => some (z, h2)
        | none => none
      | none => none
    | none => none
  | .neg a, ρ, h => match ev a ρ h with
    | some (.v (.int i), h1) => some (.v (.int (-i)), h1)
    | _ => none
  | .not a, ρ, h => match ev a ρ h with
    | some (.v (.bl b), h1) => some (.v (.bl (!b)), h1)
    | _ => none
  | .and a b, ρ, h => match ev a ρ h with
    | some (.v (.bl true), h1) => ev b ρ h1
    | some (.v (.bl false), h1) => some (.v (.bl false), h1)
    | _ => none
  | .or a b, ρ, h => match ev a ρ h with
    | some (.v (.bl false), h1) => ev b ρ h1
    | some (.v (.bl true), h1) => some (.v (.bl true), h1)
    | _ => none
  | .cmp o a b, ρ, h => match ev a ρ h with
    | some (x, h1) => match ev b ρ h1 with
      | some (y, h2) => match cmpop o h2 x y with
        | some z => some (.v (.bl z), h2)
        | none => none
      | none => none
    | none => none
  | .chn o p a b c, ρ, h => match ev a ρ h with
    | some (x, h1) => match ev b ρ h1 with
      | some (y, h2) => match cmpop o h2 x y with
        | some true => match ev c ρ h2 with
          | some (z, h3) => match cmpop p h3 y z with
            | some r => some (.v (.bl r), h3)
            | none => none
          | none => none
        | some false => some (.v (.bl false), h2)
        | none => none
      | none => none
    | none => none
  | .isN a, ρ, h => match ev a ρ h with
    | some (.v .non, h1) => some (.v (.bl true), h1)
    | some (_, h1) => some (.v (.bl false), h1)
    | _ => none
  | .notN a, ρ, h => match ev a ρ h with
    | some (.v .non, h1) => some (.v (.bl false), h1)
    | some (_, h1) => some (.v (.bl true), h1)
    | _ => none
  | .ite t a b, ρ, h => match ev t ρ h with
    | some (.v (.bl true), h1) => ev a ρ h1
    | some (.v (.bl false), h1) => ev b ρ h1
    | _ => none
  | .ix a b, ρ, h => match ev a ρ h with
    | some (x, h1) => match ev b ρ h1 with
      | some (y, h2) => match item h2 x y with
        | some d => some (.v d, h2)
        | none => none
      | none => none
    | none => none
  | .sl a lo hi, ρ, h => match ev a ρ h with
    | some (x, h1) => match evO lo ρ h1 with
      | some (l, h2) => match evO hi ρ h2 with
        | some (u, h3) => match slice h3 x l u with
          | some r => some (r, h3)
          | none => none
        | none => none
      | none => none
    | none => none
  | .rev a, ρ, h => match ev a ρ h with
    | some (x, h1) => match turned h1 x with
      | some r => some (r, h1)
      | none => none
    | none => none
  | .tup es, ρ, h => match evs es ρ h with
    | some (ds, h1) => if small ds.length then some (.v (.tup ds), h1) else none
    | none => none
  | .tupS a es, ρ, h => match ev a ρ h with
    | some (.v (.tup xs), h1) => match evs es ρ h1 with
      | some (ds, h2) => if small (xs.length + ds.length) then some (.v (.tup (xs ++ ds)), h2) else none
      | none => none
    | _ => none
  | .lst es, ρ, h => match evs es ρ h with
    | some (ds, h1) => if small ds.length then some (.f ds, h1) else none
    | none => none
  | .dnew, _, h => some (.v (.ref h.length), h ++ [.dct []])
  | .dlit es, ρ, h => match evs es ρ (h ++ [.dct []]) with
    | some (ds, h1) => match pairUp ds with
      | some kvs => match look h1 h.length with
        | some (.dct []) => if (kvs.all fun p => keyOk p.1) && decide (kvs.length ≤ 15) then some (.v (.ref h.length), h1.set h.length (.dct (mkDict kvs))) else none
        | _ => none
      | none => none
    | none => none
  | .lc tg it t e own, ρ, h => match evW it ρ h with
    | some (w, h1) => match lcL (fun ρ h => evT t ρ h) (fun ρ h => asD (ev e ρ h)) tg w (wipeR ρ own) w.ds [] h1 with
      | some (ds, h2) => some (.f ds, h2)
      | none => none
    | none => none
  | .call f es, ρ, h => match evs es ρ h with
    | some (ds, h1) => match cl f ds h1 with
      | some (d, h2) => some (.v d, h2)
      | none => none
    | none => none
  | .bi b es, ρ, h => match evRs es ρ h with
    | some (rs, h1) => bltn b h1 rs
    | none => none
  | .lstR es, ρ, h => match evRs es ρ h with
    | some (rs, h1) => match rangeOf rs with
      | some ds => some (.f ds, h1)
      | none => none
    | none => none
  | .tupR es, ρ, h => match evRs es ρ h with
    | some (rs, h1) => match rangeOf rs with
      | some ds => some (.v (.tup ds), h1)
      | none => none
    | none => none
  | .isi t e, ρ, h => match ev e ρ h with
    | some (r, h1) => if knownTy h1 r then some (.v (.bl (tyIs (tyOf h1 r) t)), h1) else none
    | none => none
  | .me m o es, ρ, h => match ev o ρ h with
    | some (.v d, h1) => match evRs es ρ h1 with
      | some (rs, h2) => if mkd h1 d = mkd h2 d then methd m h2 d rs else none
      | none => none
    | _ => none
def evs : List E → Rho → Hh → Option (List D × Hh)
  | [], _, h => some ([], h)
  | e :: es, ρ, h => match asD (ev e ρ h) with
    | some (d, h1) => match evs es ρ h1 with
      | some (ds, h2) => some (d :: ds, h2)
      | none => none
    | none => none
def evRs : List E → Rho → Hh → Option (List Res × Hh)
  | [], _, h => some ([], h)
  | e :: es, ρ, h => match ev e ρ h with
    | some (d, h1) => match evRs es ρ h1 with
      | some (ds, h2) => some (d :: ds, h2)
      | none => none
    | none => none
def evO : Option E → Rho → Hh → Option (Option Int × Hh)
  | none, _, h => some (none, h)
  | some e, ρ, h => match ev e ρ h with
    | some (.v (.int i), h1) => some (some i, h1)
    | _ => none
def evT : Option E → Rho → Hh → Option (Bool × Hh)
  | none, _, h => some (true, h)
  | some e, ρ, h => asB (ev e ρ h)
/-- what a loop walks -/
def evW : W → Rho → Hh → Option (Walk × Hh)
  | .of e, ρ, h => match ev e ρ h with
    | some (r, h1) => match walkOf h1 r with
      | some w => some (w, h1)
      | none => none
    | none => none
  | .range es, ρ, h => match evRs es ρ h with
    | some (rs, h1) => match rangeOf rs with
      | some ds => some (⟨ds, none, none⟩, h1)
      | none => none
    | none => none
  | .enum e, ρ, h => match ev e ρ h with
    | some (r, h1) => match listOf h1 r with
      | some ds => some (⟨enumD ds, guardOf h1 r, none⟩, h1)
      | none => none
    | none => none
  | .zip a b, ρ, h => match ev a ρ h with
    | some (r, h1) => match ev b ρ h1 with
      | some (q, h2) => match listOf h2 r, listOf h2 q with
        | some ds, some es => some (⟨zipD ds es, guardOf h2 r, guardOf h2 q⟩, h2)
        | _, _ => none
      | none => none
    | none => none
  | .zipS a b, ρ, h => match ev a ρ h with
    | some (r, h1) => match ev b ρ h1 with
      | some (q, h2) => match listOf h2 r, listOf h2 q with
        | some ds, some es => if ds.length = es.length then some (⟨zipD ds es, guardOf h2 r, guardOf h2 q⟩, h2) else none
        | _, _ => none
      | none => none
    | none => none
end

/-- a target takes what an expression gave -/
def bindR (tg : Tg) (r : Res) (ρ : Rho) (h : Hh) : Option (Rho × Hh) := match bindT tg (adopt r h).1 ρ with
  | some ρ' => some (ρ', (adopt r h).2)
  | none => none
def bindPar : List Nat → List D → Rho → Option Rho
  | [], [], ρ => some ρ
  | i :: is, d :: ds, ρ => if i < ρ.length then bindPar is ds (ρ.set i (some d)) else none
  | _, _, _ => none
mutual
def ex : S → Rho → Hh → Option Out
  | .asg tg e, ρ, h => match ev cl e ρ h with
    | some (r, h1) => match bindR tg r ρ h1 with
      | some (ρ', h2) => some (.nx ρ' h2)
      | none => none
    | none => none
  | .par is es, ρ, h => match evs cl es ρ h with
    | some (ds, h1) => match bindPar is ds ρ with
      | some ρ' => some (.nx ρ' h1)
      | none => none
    | none => none
  | .six a i e, ρ, h => match asD (ev cl e ρ h) with
    | some (d, h1) => match ev cl a ρ h1 with
      | some (.v x, h2) => match ev cl i ρ h2 with
        | some (.v y, h3) => match setItem? h3 x y d with
          | some h4 => some (.nx ρ h4)
          | none => none
        | _ => none
      | _ => none
    | none => none
  | .aug i o e, ρ, h => match ρ[i]? with
    | some (some (.int x)) => match ev cl e ρ h with
      | some (.v (.int y), h1) => match binop o h1 (.v (.int x)) (.v (.int y)) with
        | some (.v z) => some (.nx (ρ.set i (some z)) h1)
        | _ => none
      | _ => none
    | _ => none
  | .aix a i o e, ρ, h => match ev cl a ρ h with
    | some (.v x, h1) => match ev cl i ρ h1 with
      | some (.v y, h2) => match item h2 (.v x) (.v y) with
        | some (.int p) => match ev cl e ρ h2 with
          | some (.v (.int q), h3) => match binop o h3 (.v (.int p)) (.v (.int q)) with
            | some (.v z) => match setItem? h3 x y z with
              | some h4 => some (.nx ρ h4)
              | none => none
            | _ => none
          | _ => none
        | _ => none
      | _ => none
    | _ => none
  | .ex e, ρ, h => match ev cl e ρ h with
    | some (_, h1) => some (.nx ρ h1)
    | none => none
  | .ret e, ρ, h => match asD (ev cl e ρ h) with
    | some (d, h1) => some (.rt d h1)
    | none => none
  | .retN, _, h => some (.rt .non h)
  | .ite t a b, ρ, h => match ev cl t ρ h with
    | some (.v (.bl true), h1) => exs a ρ h1
    | some (.v (.bl false), h1) => exs b ρ h1
    | _ => none
  | .for tg it b, ρ, h => match evW cl it ρ h with
    | some (w, h1) => forL (fun ρ h => exs b ρ h) tg w w.ds ρ h1
    | none => none
  | .whl t b, ρ, h => whlL (fun ρ h => asB (ev cl t ρ h)) (fun ρ h => exs b ρ h) fuel ρ h
  | .pass, ρ, h => some (.nx ρ h)
  | .brk, ρ, h => some (.bk ρ h)
  | .cont, ρ, h => some (.ct ρ h)
  | .never, _, _ => none
def exs : List S → Rho → Hh → Option Out
  | [], ρ, h => some (.nx ρ h)
  | s :: ss, ρ, h => match ex s ρ h with
    | some (.nx ρ' h') => exs ss ρ' h'
    | o => o
end
end
structure Fn where
  name : Str
  N : List Str
  np : Nat
  body : List S
def callN (fs : List Fn) : Nat → Call
  | 0, _, _, _ => none
  | k + 1, f, ds, h => match fs[f]? with
    | some fn => if ds.length = fn.np then match exs (callN fs k) fn.body (ds.map some ++ List.replicate (fn.N.length - ds.length) none) h with
      | some (.nx _ h') => some (.non, h')
      | some (.rt d h') => some (d, h')
      | _ => none
      else none
    | none => none
end Co

set_option linter.all false
set_option maxRecDepth 100000
/-! Core2: whether a text of the core is a Python text: a check by computing. -/
namespace Co
open PySem L2

structure CS where
  N : List Str
  sc : Scope
  fns : List Str

def isVis (sc : Scope) (x : Str) : Bool := match sc.names.lookup x with
  | some .local => true | some .cell => true | some .free => true | _ => false
def isLoc (sc : Scope) (x : Str) : Bool := match sc.names.lookup x with
  | some .local => true | some .cell => true | _ => false
def isGl (sc : Scope) (x : Str) : Bool := match sc.names.lookup x with
  | some .globalImplicit => true | _ => false
/-- a builtin by its name -/
def gname (c : CS) (x : Expr) (n : Str) : Bool := match x with
  | .Name m _ => decide (m = n) && isGl c.sc n
  | _ => false

def bopOk : Bop → Operator → Bool
  | .add, .Add => true | .sub, .Sub => true | .mul, .Mult => true | .fdiv, .FloorDiv => true | .mod, .Mod => true | .pow, .Pow => true | _, _ => false
def copOk : Cop → CmpOp → Bool
  | .eq, .Eq => true | .ne, .NotEq => true | .lt, .Lt => true | .le, .LtE => true | .gt, .Gt => true | .ge, .GtE => true | .isin, .In => true | .notin, .NotIn => true | _, _ => false
def biName : Bi → Str
  | .len => "len" | .abs => "abs" | .int => "int" | .min => "min" | .max => "max" | .sum => "sum" | .sorted => "sorted" | .list => "list" | .tuple => "tuple" | .dict => "dict" | .all => "all" | .any => "any" | .repr => "repr"
def tyName : Ty → Str
  | .int => "int" | .bool => "bool" | .str => "str" | .tuple => "tuple" | .list => "list" | .dict => "dict"
def meName : Me → Str
  | .append => "append" | .pop => "pop" | .get => "get" | .items => "items" | .values => "values" | .update => "update" | .extend => "extend" | .count => "count" | .index => "index" | .split => "split" | .remove => "remove" | .clear => "clear" | .setdefault => "setdefault"
/-- an expression in a place where a name of some kinds of text would be read in another way -/
def plainX : Expr → Bool
  | .Starred .. => false | .Slice .. => false | .ListComp .. => true | .SetComp .. => false | .DictComp .. => false | .Set .. => false | .GeneratorExp .. => false | .NamedExpr .. => false | .Lambda .. => false
  | .Await .. => false | .Yield .. => false | .YieldFrom .. => false | .FormattedValue .. => false | .JoinedStr .. => false | _ => true

mutual
def chkT (c : CS) : Tg → Expr → Bool
  | .nm i, x => match x with
    | .Name n _ => decide (c.N[i]? = some n) && isLoc c.sc n
    | _ => false
  | .tp ts, x => match x with
    | .Tuple xs _ _ => chkTs c ts xs
    | _ => false
def chkTs (c : CS) : List Tg → List Expr → Bool
  | [], xs => xs.isEmpty
  | t :: ts, xs => match xs with
    | x :: r => chkT c t x && chkTs c ts r
    | [] => false
end

mutual
def chkE : CS → E → Expr → Bool
  | c, .var i, x => match x with
    | .Name n _ => decide (c.N[i]? = some n) && isVis c.sc n && !(n == ("__debug__" : Str)) && !(n == ("__classdict__" : Str))
    | _ => false
  | _, .non, x => match x with
    | .Constant .none _ _ => true | _ => false
  | _, .bl b, x => match x with
    | .Constant (.bool k) _ _ => decide (b = k) | _ => false
  | _, .int i, x => match x with
    | .Constant (.int k) _ _ => decide (i = k) | _ => false
  | _, .str i, x => match x with
    | .Constant (.str k) _ _ => decide (i = k) | _ => false
  | c, .bin o a b, x => match x with
    | .BinOp p q r _ => bopOk o q && chkE c a p && chkE c b r | _ => false
  | c, .neg a, x => match x with
    | .UnaryOp .USub p _ => chkE c a p | _ => false
  | c, .not a, x => match x with
    | .UnaryOp .Not p _ => chkE c a p | _ => false
  | c, .and a b, x => match x with
    | .BoolOp .And [p, q] _ => chkE c a p && chkE c b q
    | .BoolOp .And (p :: q :: r :: s) pos => chkE c a p && chkE c b (.BoolOp .And (q :: r :: s) pos)
    | _ => false
  | c, .or a b, x => match x with
    | .BoolOp .Or [p, q] _ => chkE c a p && chkE c b q
    | .BoolOp .Or (p :: q :: r :: s) pos => chkE c a p && chkE c b (.BoolOp .Or (q :: r :: s) pos)
    | _ => false
  | c, .cmp o a b, x => match x with
    | .Compare p [q] [r] _ => copOk o q && chkE c a p && chkE c b r && !behindInMarks q r | _ => false
  | c, .chn o p a b d, x => match x with
    | .Compare u [q, q'] [r, s] _ => copOk o q && copOk p q' && chkE c a u && chkE c b r && chkE c d s && !behindInMarks q r && !behindInMarks q' s
    | _ => false
  | c, .isN a, x => match x with
    | .Compare p [.Is] [.Constant .none _ _] _ => chkE c a p | _ => false
  | c, .notN a, x => match x with
    | .Compare p [.IsNot] [.Constant .none _ _] _ => chkE c a p | _ => false
  | c, .ite t a b, x => match x with
    | .IfExp p q r _ => chkE c t p && chkE c a q && chkE c b r | _ => false
  | c, .ix a b, x => match x with
    | .Subscript p q _ => chkE c a p && chkE c b q && plainX q | _ => false
  | c, .sl a lo hi, x => match x with
    | .Subscript p (.Slice l h none _) _ => chkE c a p && chkO c lo l && chkO c hi h | _ => false
  | c, .rev a, x => match x with
    | .Subscript p (.Slice none none (some (.UnaryOp .USub (.Constant (.int 1) _ _) _)) _) _ => chkE c a p | _ => false
  | c, .tup es, x => match x with
    | .Tuple xs _ _ => chkEs c es xs | _ => false
  | _, .tupS _ _, _ => false
  | c, .lst es, x => match x with
    | .List xs _ => chkEs c es xs | _ => false
  | _, .dnew, x => match x with
    | .Dict [] [] _ => true | _ => false
  | c, .dlit es, x => match x with
    | .Dict ks vs _ => decide (1 ≤ ks.length) && decide (ks.length ≤ 15) && decide (ks.length = vs.length) && chkPs c es ks vs | _ => false
  | c, .lc tg it t e own, x => match x with
    | .ListComp elt [⟨tgt, iter, ifs, k⟩] scope _ => decide (k = 0) && blkC c.N c.sc scope own && chkW c it tgt iter && chkT ⟨c.N, scope, c.fns⟩ tg tgt &&
        chkI ⟨c.N, scope, c.fns⟩ t ifs && chkE ⟨c.N, scope, c.fns⟩ e elt && plainX elt && (slotsT tg).all fun i => own.any fun p => decide (p.2 = i)
    | _ => false
  | c, .call f es, x => match x with
    | .Call (.Name n _) xs [] _ => decide (c.fns[f]? = some n) && isGl c.sc n && chkEs c es xs && !(n == ("__debug__" : Str)) | _ => false
  | c, .bi b es, x => match x with
    | .Call g xs [] _ => gname c g (biName b) && chkEs c es xs && !xs.isEmpty | _ => false
  | c, .isi t e, x => match x with
    | .Call g [p, q] [] _ => gname c g "isinstance" && chkE c e p && gname c q (tyName t) && plainX p | _ => false
  | c, .me m o es, x => match x with
    | .Call (.Attribute p n apos) xs [] pos => decide (n = meName m) && chkE c o p && chkEs c es xs && (apos.endLine == pos.line) && decide (xs.length < 29) && (match p with | .Call .. => false | _ => true) | _ => false
  | c, .lstR es, x => match x with
    | .Call g [.Call r xs [] _] [] _ => gname c g "list" && gname c r "range" && chkEs c es xs | _ => false
  | c, .tupR es, x => match x with
    | .Call g [.Call r xs [] _] [] _ => gname c g "tuple" && gname c r "range" && chkEs c es xs | _ => false
def chkEs : CS → List E → List Expr → Bool
  | _, [], xs => xs.isEmpty
  | c, e :: es, xs => match xs with
    | x :: r => chkE c e x && plainX x && chkEs c es r
    | [] => false
def chkPs : CS → List E → List (Option Expr) → List Expr → Bool
  | _, [], ks, vs => ks.isEmpty && vs.isEmpty
  | _, [_], _, _ => false
  | c, k :: v :: es, ks, vs => match ks, vs with
    | some p :: ks', q :: vs' => chkE c k p && chkE c v q && chkPs c es ks' vs'
    | _, _ => false
def chkO : CS → Option E → Option Expr → Bool
  | _, none, x => x.isNone
  | c, some e, x => match x with
    | some p => chkE c e p
    | none => false
def chkI : CS → Option E → List Expr → Bool
  | _, none, xs => xs.isEmpty
  | c, some e, xs => match xs with
    | [p] => chkE c e p
    | _ => false
/-- the target goes with it: some walks give a tuple to the very names of a target -/
def chkW : CS → W → Expr → Expr → Bool
  | c, .of e, _, x => chkE c e x && plainX x
  | c, .range es, _, x => match x with
    | .Call g xs [] _ => gname c g "range" && chkEs c es xs | _ => false
  | c, .enum e, tg, x => match tg, x with
    | .Tuple _ _ _, .Call g [p] [] _ => gname c g "enumerate" && chkE c e p && plainX p | _, _ => false
  | _, .zip _ _, _, _ => false
  | _, .zipS _ _, _, _ => false
end

/-- the names that a tuple of names takes, as the model looks at it -/
def parMode (ts vs : List Expr) (sc : Scope) : Option (Option (List Str)) :=
  if !(ts.length == 2 || ts.length == 3) || vs.length != ts.length then some none else
  if vs.any (fun | .Starred .. => true | _ => false) then some none else
  let line := (ts.head?.map (·.pos.line)).getD 0
  let names := ts.filterMap fun
    | .Name id pos => if sc.names.lookup id == some .local && pos.line == line then some id else none
    | _ => none
  if names.length != ts.length || names.eraseDups.length != names.length then some none else
  if vs.all (foldedForSure 8) then some none else
  if vs.all (constantsAlone 8) then none else some (some names)
def chkNs (c : CS) : List Nat → List Expr → Bool
  | [], xs => xs.isEmpty
  | i :: is, xs => match xs with
    | .Name n _ :: r => decide (c.N[i]? = some n) && isLoc c.sc n && chkNs c is r
    | _ => false
/-- no tuple for a tuple -/
def noTT : Expr → Expr → Bool
  | .Tuple .., .Tuple .. => false
  | _, _ => true
/-- a value that is stored by itself -/
def noSwap : Expr → Bool
  | .ListComp .. => false | .SetComp .. => false | .DictComp .. => false | _ => true
mutual
def chkS : CS → S → Stmt → Bool
  | c, .asg tg e, x => match x with
    | .Assign [t] v _ => chkT c tg t && chkE c e v && plainX v && noTT t v | _ => false
  | c, .par is es, x => match x with
    | .Assign [.Tuple ts _ _] (.Tuple vs _ _) _ => chkNs c is ts && chkEs c es vs && (parMode ts vs c.sc).isSome && decide is.Nodup && decide (is.length < 1000) | _ => false
  | c, .six a i e, x => match x with
    | .Assign [.Subscript p q _] v _ => chkE c a p && chkE c i q && chkE c e v && plainX q && plainX v && noSwap v | _ => false
  | c, .aug i o e, x => match x with
    | .AugAssign (.Name n _) p v _ => decide (c.N[i]? = some n) && isLoc c.sc n && bopOk o p && (decide (o = .add) || decide (o = .sub)) && chkE c e v | _ => false
  | c, .aix a i o e, x => match x with
    | .AugAssign (.Subscript p q _) r v _ => chkE c a p && chkE c i q && bopOk o r && (decide (o = .add) || decide (o = .sub)) && chkE c e v && plainX q | _ => false
  | c, .ex e, x => match x with
    | .Expr v _ => chkE c e v && plainX v && noSwap v && (match v with | .Constant .. => false | _ => true) | _ => false
  | c, .ret e, x => match x with
    | .Return (some v) _ => chkE c e v | _ => false
  | _, .retN, x => match x with
    | .Return none _ => true | _ => false
  | c, .ite t a b, x => match x with
    | .If p q r _ => chkE c t p && chkSs c a q && chkSs c b r | _ => false
  | c, .for tg it b, x => match x with
    | .For t i q [] _ => chkT c tg t && chkW c it t i && chkSs c b q | _ => false
  | c, .whl t b, x => match x with
    | .While p q [] _ => chkE c t p && chkSs c b q | _ => false
  | _, .pass, x => match x with
    | .Pass _ => true | _ => false
  | _, .brk, x => match x with
    | .Break _ => true | _ => false
  | _, .cont, x => match x with
    | .Continue _ => true | _ => false
  | _, .never, _ => true
def chkSs : CS → List S → List Stmt → Bool
  | _, [], xs => xs.isEmpty
  | c, s :: ss, xs => match xs with
    | x :: r => chkS c s x && chkSs c ss r
    | [] => false
end

def argNames (a : Arguments) : Option (List Str) :=
  match a with
  | ⟨[], as, none, [], [], none, []⟩ => some (as.map (·.arg))
  | _ => none
/-- a def of the text -/
def chkD (fns : List Str) (fn : Fn) (x : Stmt) : Bool := match x with
  | .FunctionDef n a b [] none [] sc none m _ => decide (n = fn.name) && decide (m = fn.name) && decide (argNames a = some (fn.N.take fn.np)) && decide (fn.np ≤ fn.N.length) &&
      (match sc.kind with | .function => true | _ => false) && !sc.isCoroutine && !sc.isGenerator && decide fn.N.Nodup && ((fn.N.take fn.np).all fun x => isLoc sc x) &&
      (sc.names.all fun y => match y.2 with | .free => false | _ => true) && chkSs ⟨fn.N, sc, fns⟩ fn.body b
  | _ => false
end Co

set_option linter.all false
set_option maxRecDepth 100000
set_option autoImplicit false
/-! Core3: what stands in the machine's heap for a value, a cell, a state of the interpreter. -/
namespace Co
open PySem L2

/-- the script: a list that nobody changes -/
def FlAt (K : PySem.W.Frag) (H : Hp) (a : Addr) (xs : List V) : Prop :=
  (∃ o, H a = some (.frz o (.lst xs))) ∨
    ∃ (o : Obj) (its : Array Value) (n : Nat), K.lookup a = some o ∧ o.cls = .type "list" ∧ o.dict = none ∧ o.data = .seq its n ∧ its.size ≤ sizeLine ∧ Vals xs its.toList
theorem FlAt.sq {K : PySem.W.Frag} {H : Hp} {a : Addr} {xs : List V} (h : FlAt K H a xs) : SqL K H a xs := h.elim (fun x => .inl (.inr x)) .inr

/-- a tuple of which we know that it carries nothing beside -/
def TupAt (H : Hp) (a : Addr) (xs : List V) : Prop := ∃ o : Obj, H a = some (.frz o (.tup xs)) ∧ o.dict = none
theorem TupAt.sq {K : PySem.W.Frag} {H : Hp} {a : Addr} {xs : List V} (h : TupAt H a xs) : SqT K H a xs := let ⟨o, e, _⟩ := h; .inl (.inr ⟨o, e⟩)

mutual
def Dat (K : PySem.W.Frag) (μ : List Addr) (H : Hp) : D → V → Prop
  | .non, v => v = .non
  | .bl b, v => v = .bl b
  | .int i, v => v = .int i
  | .str x, v => v = .str x
  | .tup ds, v => ∃ a xs, v = .ref a ∧ TupAt H a xs ∧ Dats K μ H ds xs
  | .fl ds, v => ∃ a xs, v = .ref a ∧ FlAt K H a xs ∧ Dats K μ H ds xs
  | .ref n, v => ∃ a, v = .ref a ∧ μ[n]? = some a
def Dats (K : PySem.W.Frag) (μ : List Addr) (H : Hp) : List D → List V → Prop
  | [], xs => xs = []
  | d :: ds, xs => ∃ v r, xs = v :: r ∧ Dat K μ H d v ∧ Dats K μ H ds r
end

def keyD : Key → D
  | .inl i => .int i
  | .inr x => .str x
/-- a dict with tuples as keys, by its entries -/
def DN (P : Program) (w : World) (a : Addr) (xs : List (NestedKey × Addr × Value)) : HO :=
  .ext fun h => ∃ o es ep, h.get? a = some o ∧ o.ExactDict ∧ o.data = .dict es ep ∧ es.toList = xs.map (entryOfKey (nestedKind P w))
/-- what is common to a machine run: the program, the world, the written part -/
structure Ctx where
  P : Program
  w : World
  K : PySem.W.Frag

def PairK (G : Ctx) (μ : List Addr) (H : Hp) (p : D × D) (q : Key × V) : Prop := p.1 = keyD q.1 ∧ Dat G.K μ H p.2 q.2
def PairN (G : Ctx) (μ : List Addr) (H : Hp) (p : D × D) (q : NestedKey × Addr × Value) : Prop :=
  nk p.1 = some q.1 ∧ q.1.depth ≤ 8 ∧ Dat G.K μ H p.1 (.ref q.2.1) ∧ (∃ ks, p.1 = .tup ks) ∧ ∃ v, RelV v q.2.2 ∧ Dat G.K μ H p.2 v

def CellOk (G : Ctx) (μ : List Addr) (H : Hp) (a : Addr) : Cell → Prop
  | .lst ds => ∃ xs, H a = some (.lst xs) ∧ Dats G.K μ H ds xs
  | .dct kvs => (∃ ks, H a = some (.dK ks) ∧ Paired (PairK G μ H) kvs ks) ∨
      ∃ xs, H a = some (DN G.P G.w a xs) ∧ xs ≠ [] ∧ xs.length ≤ sizeLine ∧ (a == sysModules) = false ∧ (xs.map (·.1)).Nodup ∧ Paired (PairN G μ H) kvs xs
  | .ins _ _ => False

structure Rl (G : Ctx) (μ : List Addr) (H : Hp) (h : Hh) : Prop where
  len : μ.length = h.length
  nd : μ.Nodup
  ok : ∀ (n : Nat) (c : Cell), h[n]? = some c → ∃ a, μ[n]? = some a ∧ CellOk G μ H a c

structure Nxt (μ : List Addr) (H : Hp) (μ' : List Addr) (H' : Hp) : Prop where
  ext : ∃ ν, μ' = μ ++ ν ∧ ∀ a ∈ ν, H a = none
  keep : ∀ a o, H a = some o → a ∉ μ → H' a = some o
  dom : ∀ a, H' a = none → H a = none

theorem upd_nn {H : Hp} {a b : Addr} {o : HO} (e : upd H a o b = none) : H b = none := by
  unfold upd at e; split at e
  · cases e
  · exact e
/-- no tuple, no locked thing stands at μ -/
def Free (μ : List Addr) (H : Hp) : Prop := ∀ a ∈ μ, ∃ o, H a = some o ∧ (∀ xs, o ≠ .tup xs) ∧ ∀ ob u, o ≠ .frz ob u

section
variable {G : Ctx} {K : PySem.W.Frag} {μ μ' μ1 μ2 : List Addr} {H H' H1 H2 : Hp} {h h' : Hh} {a p : Addr} {d : D} {v : V} {ds : List D} {xs : List V}

theorem Rl.free (R : Rl G μ H h) : Free μ H := fun a ha => by
  obtain ⟨n, hn, e⟩ := List.getElem_of_mem ha
  have hn' : n < h.length := by rw [← R.len]; exact hn
  obtain ⟨b, eb, ok⟩ := R.ok n h[n] (List.getElem?_eq_getElem hn')
  have : b = a := by rw [List.getElem?_eq_getElem hn] at eb; cases eb; exact e
  subst this
  cases hc : h[n] with
  | lst ds => rw [hc] at ok; obtain ⟨xs, e1, _⟩ := ok; exact ⟨_, e1, (fun _ z => by cases z), (fun _ _ z => by cases z)⟩
  | dct kvs =>
    rw [hc] at ok
    rcases ok with ⟨ks, e1, _⟩ | ⟨xs, e1, _⟩
    · exact ⟨_, e1, (fun _ z => by cases z), (fun _ _ z => by cases z)⟩
    · exact ⟨_, e1, (fun _ z => by cases z), (fun _ _ z => by cases z)⟩
  | ins c fs => rw [hc] at ok; exact ok.elim
theorem Free.tup (F : Free μ H) {xs : List V} (e : H a = some (.tup xs)) : a ∉ μ := fun z => by
  obtain ⟨o, e1, h1, _⟩ := F a z
  rw [e] at e1; cases e1; exact h1 _ rfl
theorem Free.frz (F : Free μ H) {ob : Obj} {u : HO} (e : H a = some (.frz ob u)) : a ∉ μ := fun z => by
  obtain ⟨o, e1, _, h1⟩ := F a z
  rw [e] at e1; cases e1; exact h1 _ _ rfl
theorem Free.some (F : Free μ H) (ha : a ∈ μ) : H a ≠ none := fun z => by
  obtain ⟨o, e1, _⟩ := F a ha
  rw [z] at e1; cases e1

mutual
theorem Dat.mono (F : Free μ H) (k : ∀ a o, H a = some o → a ∉ μ → H' a = some o) (e : ∃ ν, μ' = μ ++ ν) : ∀ (d : D) (v : V), Dat K μ H d v → Dat K μ' H' d v
  | .non, v, x => x
  | .bl _, v, x => x
  | .int _, v, x => x
  | .str _, v, x => x
  | .tup ds, v, x => by
    obtain ⟨a, xs, e1, e2, e3⟩ := x
    obtain ⟨o, e2, e4⟩ := e2
    exact ⟨a, xs, e1, ⟨o, k _ _ e2 (F.frz e2), e4⟩, Dats.mono F k e ds xs e3⟩
  | .fl ds, v, x => by
    obtain ⟨a, xs, e1, e2, e3⟩ := x
    refine ⟨a, xs, e1, ?_, Dats.mono F k e ds xs e3⟩
    rcases e2 with ⟨o, e2⟩ | e2
    · exact .inl ⟨o, k _ _ e2 (F.frz e2)⟩
    · exact .inr e2
  | .ref n, v, x => by
    obtain ⟨a, e1, e2⟩ := x
    obtain ⟨ν, rfl⟩ := e
    refine ⟨a, e1, ?_⟩
    rw [List.getElem?_append_left (List.getElem?_eq_some_iff.mp e2).1]; exact e2
theorem Dats.mono (F : Free μ H) (k : ∀ a o, H a = some o → a ∉ μ → H' a = some o) (e : ∃ ν, μ' = μ ++ ν) : ∀ (ds : List D) (xs : List V), Dats K μ H ds xs → Dats K μ' H' ds xs
  | [], xs, x => x
  | d :: ds, xs, x => by
    obtain ⟨v, r, e1, e2, e3⟩ := x
    exact ⟨v, r, e1, Dat.mono F k e d v e2, Dats.mono F k e ds r e3⟩
end

theorem Nxt.refl : Nxt μ H μ H := ⟨⟨[], by simp, by simp⟩, fun _ _ e _ => e, fun _ e => e⟩
theorem Nxt.trans (a : Nxt μ H μ1 H1) (b : Nxt μ1 H1 μ2 H2) : Nxt μ H μ2 H2 := by
  obtain ⟨ν1, rfl, f1⟩ := a.ext
  obtain ⟨ν2, rfl, f2⟩ := b.ext
  refine ⟨⟨ν1 ++ ν2, by simp, fun x hx => ?_⟩, fun x o e hx => ?_, fun x e => a.dom x (b.dom x e)⟩
  · rcases List.mem_append.mp hx with hx | hx
    · exact f1 x hx
    · exact a.dom x (f2 x hx)
  · refine b.keep x o (a.keep x o e hx) fun z => ?_
    rcases List.mem_append.mp z with z | z
    · exact hx z
    · rw [f1 x z] at e; cases e
theorem Nxt.sub (n : Nxt μ H μ' H') : ∃ ν, μ' = μ ++ ν := let ⟨ν, e, _⟩ := n.ext; ⟨ν, e⟩
theorem Dat.next (F : Free μ H) (n : Nxt μ H μ' H') (x : Dat K μ H d v) : Dat K μ' H' d v := Dat.mono F n.keep n.sub d v x
theorem Dats.next (F : Free μ H) (n : Nxt μ H μ' H') (x : Dats K μ H ds xs) : Dats K μ' H' ds xs := Dats.mono F n.keep n.sub ds xs x

theorem PairK.mono {p : D × D} {q : Key × V} (F : Free μ H) (k : ∀ a o, H a = some o → a ∉ μ → H' a = some o) (e : ∃ ν, μ' = μ ++ ν) (x : PairK G μ H p q) : PairK G μ' H' p q := ⟨x.1, Dat.mono F k e _ _ x.2⟩
theorem PairN.mono {p : D × D} {q : NestedKey × Addr × Value} (F : Free μ H) (k : ∀ a o, H a = some o → a ∉ μ → H' a = some o) (e : ∃ ν, μ' = μ ++ ν) (x : PairN G μ H p q) : PairN G μ' H' p q := by
  obtain ⟨a, b, c, t, v, r, y⟩ := x
  exact ⟨a, b, Dat.mono F k e _ _ c, t, v, r, Dat.mono F k e _ _ y⟩
theorem CellOk.mono {c : Cell} (F : Free μ H) (k : ∀ a o, H a = some o → a ∉ μ → H' a = some o) (e : ∃ ν, μ' = μ ++ ν) (ha : H' a = H a) (x : CellOk G μ H a c) : CellOk G μ' H' a c := by
  cases c with
  | lst ds => obtain ⟨xs, e1, e2⟩ := x; exact ⟨xs, ha.trans e1, Dats.mono F k e _ _ e2⟩
  | dct kvs =>
    rcases x with ⟨ks, e1, e2⟩ | ⟨xs, e1, z0, z, y, nd, e2⟩
    · exact .inl ⟨ks, ha.trans e1, Paired.mapP e2 fun _ _ => PairK.mono F k e⟩
    · exact .inr ⟨xs, ha.trans e1, z0, z, y, nd, Paired.mapP e2 fun _ _ => PairN.mono F k e⟩
  | ins c fs => exact x.elim

/-- a new thing beside the state -/
theorem Nxt.laid {o : HO} (hp : H p = none) : Nxt μ H μ (upd H p o) :=
  ⟨⟨[], by simp, by simp⟩, fun a u e _ => by rw [upd_ne (ne_of_none e hp)]; exact e, fun a e => upd_nn e⟩
theorem Rl.laid {o : HO} (R : Rl G μ H h) (hp : H p = none) : Rl G μ (upd H p o) h := by
  refine ⟨R.len, R.nd, fun n c e => ?_⟩
  obtain ⟨a, ea, ok⟩ := R.ok n c e
  have ha : a ∈ μ := List.mem_of_getElem? ea
  have hne : a ≠ p := fun z => R.free.some ha (by rw [z]; exact hp)
  exact ⟨a, ea, ok.mono R.free (Nxt.laid (o := o) hp).keep ⟨[], by simp⟩ (upd_ne hne)⟩
/-- .. taken into it -/
theorem Rl.taken {c : Cell} (R : Rl G μ H h) (hp : p ∉ μ) (ok : CellOk G (μ ++ [p]) H p c) : Rl G (μ ++ [p]) H (h ++ [c]) := by
  refine ⟨by simp [R.len], ?_, fun n c' e => ?_⟩
  · rw [List.nodup_append]
    exact ⟨R.nd, by simp, fun a ha b hb => by simp at hb; subst hb; exact fun z => hp (z ▸ ha)⟩
  · by_cases hn : n < h.length
    · rw [List.getElem?_append_left hn] at e
      obtain ⟨a, ea, ok'⟩ := R.ok n c' e
      refine ⟨a, by rw [List.getElem?_append_left (by rw [R.len]; exact hn)]; exact ea, ok'.mono R.free (fun _ _ e _ => e) ⟨_, rfl⟩ rfl⟩
    · rw [List.getElem?_append_right (by omega)] at e
      have hn0 : n = h.length := by
        have := (List.getElem?_eq_some_iff.mp e).1
        simp at this; omega
      subst hn0
      simp at e
      subst e
      refine ⟨p, ?_, ok⟩
      rw [← R.len]; simp
theorem Nxt.taken (hp : H p = none) (n : Nxt μ H μ' H') : Nxt μ H (μ' ++ [p]) H' := by
  obtain ⟨ν, rfl, f⟩ := n.ext
  refine ⟨⟨ν ++ [p], by simp, fun a ha => ?_⟩, n.keep, n.dom⟩
  rcases List.mem_append.mp ha with ha | ha
  · exact f a ha
  · simp at ha; subst ha; exact hp
/-- a cell is written -/
theorem Rl.place {n : Nat} {c : Cell} (R : Rl G μ H h) (e : h[n]? = some c) : ∃ a, μ[n]? = some a ∧ a ∈ μ ∧ CellOk G μ H a c := by
  obtain ⟨a, ea, ok⟩ := R.ok n c e
  exact ⟨a, ea, List.mem_of_getElem? ea, ok⟩
theorem Nxt.wrote {o : HO} (ha : a ∈ μ) : Nxt μ H μ (upd H a o) :=
  ⟨⟨[], by simp, by simp⟩, fun b u e hb => by rw [upd_ne (fun z => hb (by rw [z]; exact ha))]; exact e, fun b e => upd_nn e⟩
theorem Rl.wrote {n : Nat} {c : Cell} {o : HO} (R : Rl G μ H h) (ea : μ[n]? = some a) (ok : CellOk G μ (upd H a o) a c) : Rl G μ (upd H a o) (h.set n c) := by
  have ha : a ∈ μ := List.mem_of_getElem? ea
  refine ⟨by simp [R.len], R.nd, fun m c' e => ?_⟩
  by_cases hm : n = m
  · subst hm
    rw [List.getElem?_set_self'] at e
    cases hx : h[n]? with
    | none => rw [hx] at e; simp at e
    | some y => rw [hx] at e; simp at e; subst e; exact ⟨a, ea, ok⟩
  · rw [List.getElem?_set_ne hm] at e
    obtain ⟨b, eb, ok'⟩ := R.ok m c' e
    have hne : b ≠ a := fun z => by
      subst z
      obtain ⟨h1, e1⟩ := List.getElem?_eq_some_iff.mp ea
      obtain ⟨h2, e2⟩ := List.getElem?_eq_some_iff.mp eb
      exact hm ((List.getElem_inj R.nd).mp (e1.trans e2.symm))
    exact ⟨b, eb, ok'.mono R.free (Nxt.wrote (o := o) ha).keep ⟨[], by simp⟩ (upd_ne hne)⟩

/-! ### lists of values -/
theorem Dats.length : ∀ {ds : List D} {xs : List V}, Dats K μ H ds xs → xs.length = ds.length
  | [], _, x => by rw [show _ = [] from x]; rfl
  | d :: ds, _, x => by obtain ⟨v, r, rfl, _, e3⟩ := x; simp [Dats.length e3]
theorem Dats.get : ∀ {ds : List D} {xs : List V} {i : Nat} {d : D}, Dats K μ H ds xs → ds[i]? = some d → ∃ v, xs[i]? = some v ∧ Dat K μ H d v
  | [], _, _, _, _, e => by simp at e
  | d :: ds, _, 0, _, x, e => by obtain ⟨v, r, rfl, e2, _⟩ := x; simp at e; subst e; exact ⟨v, rfl, e2⟩
  | d :: ds, _, i + 1, _, x, e => by obtain ⟨v, r, rfl, _, e3⟩ := x; simpa using Dats.get e3 (by simpa using e)
theorem Dats.at : ∀ {ds : List D} {xs : List V} {i : Nat} {v : V}, Dats K μ H ds xs → xs[i]? = some v → ∃ d, ds[i]? = some d ∧ Dat K μ H d v
  | [], _, _, _, x, e => by rw [show _ = [] from x] at e; simp at e
  | d :: ds, _, 0, _, x, e => by obtain ⟨v, r, rfl, e2, _⟩ := x; simp at e; subst e; exact ⟨d, rfl, e2⟩
  | d :: ds, _, i + 1, _, x, e => by obtain ⟨v, r, rfl, _, e3⟩ := x; simpa using Dats.at e3 (by simpa using e)
theorem Dats.nil : Dats K μ H [] [] := rfl
theorem Dats.cons (a : Dat K μ H d v) (b : Dats K μ H ds xs) : Dats K μ H (d :: ds) (v :: xs) := ⟨v, xs, rfl, a, b⟩
theorem Dats.append : ∀ {ds es : List D} {xs ys : List V}, Dats K μ H ds xs → Dats K μ H es ys → Dats K μ H (ds ++ es) (xs ++ ys)
  | [], _, _, _, x, y => by rw [show _ = [] from x]; exact y
  | d :: ds, _, _, _, x, y => by obtain ⟨v, r, rfl, e2, e3⟩ := x; exact Dats.cons e2 (Dats.append e3 y)
theorem Dats.take : ∀ (n : Nat) {ds : List D} {xs : List V}, Dats K μ H ds xs → Dats K μ H (ds.take n) (xs.take n)
  | 0, _, _, _ => rfl
  | n + 1, [], _, x => by rw [show _ = [] from x]; rfl
  | n + 1, d :: ds, _, x => by obtain ⟨v, r, rfl, e2, e3⟩ := x; exact Dats.cons e2 (Dats.take n e3)
theorem Dats.drop : ∀ (n : Nat) {ds : List D} {xs : List V}, Dats K μ H ds xs → Dats K μ H (ds.drop n) (xs.drop n)
  | 0, _, _, x => x
  | n + 1, [], _, x => by rw [show _ = [] from x]; rfl
  | n + 1, d :: ds, _, x => by obtain ⟨v, r, rfl, e2, e3⟩ := x; exact Dats.drop n e3
theorem Dats.set {i : Nat} (a : Dat K μ H d v) : ∀ {ds : List D} {xs : List V} (i : Nat), Dats K μ H ds xs → Dats K μ H (ds.set i d) (xs.set i v)
  | [], _, _, x => by rw [show _ = [] from x]; rfl
  | e :: ds, _, 0, x => by obtain ⟨u, r, rfl, e2, e3⟩ := x; exact Dats.cons a e3
  | e :: ds, _, i + 1, x => by obtain ⟨u, r, rfl, e2, e3⟩ := x; exact Dats.cons e2 (Dats.set (i := i) a i e3)
theorem Dats.erase : ∀ {ds : List D} {xs : List V} (i : Nat), Dats K μ H ds xs → Dats K μ H (ds.eraseIdx i) (xs.eraseIdx i)
  | [], _, _, x => by rw [show _ = [] from x]; rfl
  | e :: ds, _, 0, x => by obtain ⟨u, r, rfl, e2, e3⟩ := x; exact e3
  | e :: ds, _, i + 1, x => by obtain ⟨u, r, rfl, e2, e3⟩ := x; exact Dats.cons e2 (Dats.erase i e3)
theorem Dats.rev : ∀ {ds : List D} {xs : List V}, Dats K μ H ds xs → Dats K μ H ds.reverse xs.reverse
  | [], _, x => by rw [show _ = [] from x]; rfl
  | e :: ds, _, x => by
    obtain ⟨u, r, rfl, e2, e3⟩ := x
    rw [List.reverse_cons, List.reverse_cons]
    exact Dats.append (Dats.rev e3) (Dats.cons e2 rfl)
theorem Dats.dropLast : ∀ {ds : List D} {xs : List V}, Dats K μ H ds xs → Dats K μ H ds.dropLast xs.dropLast := fun {ds xs} x => by
  rw [List.dropLast_eq_take, List.dropLast_eq_take, x.length]; exact x.take _
theorem Dats.cut {lo hi : Option Int} (x : Dats K μ H ds xs) : Dats K μ H (cutD ds lo hi) (cutV xs lo hi) := by
  unfold cutD cutV; rw [x.length]; exact (x.drop _).take _
theorem Dats.map {α : Type} {f : α → D} {g : α → V} : ∀ (l : List α), (∀ a ∈ l, Dat K μ H (f a) (g a)) → Dats K μ H (l.map f) (l.map g)
  | [], _ => rfl
  | a :: l, hh => Dats.cons (hh a List.mem_cons_self) (Dats.map l fun b hb => hh b (List.mem_cons_of_mem _ hb))
theorem Dats.rep (x : Dats K μ H ds xs) (n : Nat) : Dats K μ H (List.replicate n ds).flatten (List.replicate n xs).flatten := by
  induction n with
  | zero => rfl
  | succ n ih => rw [List.replicate_succ, List.replicate_succ, List.flatten_cons, List.flatten_cons]; exact x.append ih
theorem Dats.of_get : ∀ {ds : List D} {xs : List V}, xs.length = ds.length → (∀ (i : Nat) (d : D) (v : V), ds[i]? = some d → xs[i]? = some v → Dat K μ H d v) → Dats K μ H ds xs
  | [], xs, e, _ => by cases xs with | nil => rfl | cons x r => simp at e
  | d :: ds, xs, e, hh => by
    cases xs with
    | nil => simp at e
    | cons x r => exact Dats.cons (hh 0 _ _ rfl rfl) (Dats.of_get (by simpa using e) fun i d v h1 h2 => hh (i + 1) d v (by simpa using h1) (by simpa using h2))

/-! ### what an expression gave -/
def DatX (K : PySem.W.Frag) (μ : List Addr) (H : Hp) : Res → V → Prop
  | .v d, v => Dat K μ H d v
  | .f ds, v => ∃ p xs, v = .ref p ∧ H p = some (.lst xs) ∧ Dats K μ H ds xs ∧ p ∉ μ
/-- a list of one's own is new since H0 -/
def New (H0 : Hp) : Res → V → Prop
  | .v _, _ => True
  | .f _, v => ∀ p, v = .ref p → H0 p = none
theorem DatX.next {r : Res} (F : Free μ H) (n : Nxt μ H μ' H') (x : DatX K μ H r v) : DatX K μ' H' r v := by
  cases r with
  | v d => exact Dat.next F n x
  | f ds =>
    obtain ⟨p, xs, e1, e2, e3, e4⟩ := x
    refine ⟨p, xs, e1, n.keep _ _ e2 e4, Dats.next F n e3, fun z => ?_⟩
    obtain ⟨ν, rfl, f⟩ := n.ext
    rcases List.mem_append.mp z with z | z
    · exact e4 z
    · rw [f p z] at e2; cases e2
theorem New.back {r : Res} (n : Nxt μ H μ' H') (x : New H' r v) : New H r v := by
  cases r with
  | v d => trivial
  | f ds => exact fun p e => n.dom p (x p e)
/-- taking over -/
theorem adopt_ok {r : Res} {H0 : Hp} {μ0 : List Addr} (n : Nxt μ0 H0 μ H) (R : Rl G μ H h) (x : DatX G.K μ H r v) (nw : New H0 r v) :
    ∃ μ', Nxt μ0 H0 μ' H ∧ Rl G μ' H (adopt r h).2 ∧ Dat G.K μ' H (adopt r h).1 v := by
  cases r with
  | v d => exact ⟨μ, n, R, x⟩
  | f ds =>
    obtain ⟨p, xs, rfl, e2, e3, e4⟩ := x
    refine ⟨μ ++ [p], n.taken (nw p rfl), R.taken e4 ⟨xs, e2, Dats.mono R.free (fun _ _ e _ => e) ⟨_, rfl⟩ _ _ e3⟩, ⟨p, rfl, ?_⟩⟩
    rw [← R.len]; simp
end

/-! ### the frame's names -/
structure Rs (K : PySem.W.Frag) (μ : List Addr) (H : Hp) (ρ : Rho) (σ : St) : Prop where
  len : ρ.length = σ.length
  ok : ∀ (i : Nat) (d : D), ρ[i]? = some (some d) → ∃ v, σ[i]? = some (some v) ∧ Dat K μ H d v
section
variable {G : Ctx} {K : PySem.W.Frag} {μ μ' : List Addr} {H H' : Hp} {h h' : Hh} {ρ : Rho} {σ : St} {d : D} {v : V} {i : Nat}
theorem Rs.next (S : Rs K μ H ρ σ) (F : Free μ H) (n : Nxt μ H μ' H') : Rs K μ' H' ρ σ :=
  ⟨S.len, fun i d e => let ⟨v, e1, e2⟩ := S.ok i d e; ⟨v, e1, e2.next F n⟩⟩
theorem Rs.set (S : Rs K μ H ρ σ) (x : Dat K μ H d v) : Rs K μ H (ρ.set i (some d)) (σ.set i (some v)) := by
  refine ⟨by simp [S.len], fun j e hj => ?_⟩
  by_cases hi : i = j
  · subst hi
    have hl : i < ρ.length := by
      have := (List.getElem?_eq_some_iff.mp hj).1
      simpa using this
    rw [List.getElem?_set_self hl] at hj
    cases hj
    exact ⟨v, List.getElem?_set_self (by rw [← S.len]; exact hl), x⟩
  · rw [List.getElem?_set_ne hi] at hj
    obtain ⟨u, e1, e2⟩ := S.ok j e hj
    exact ⟨u, by rw [List.getElem?_set_ne hi]; exact e1, e2⟩
theorem Rs.unset (S : Rs K μ H ρ σ) : Rs K μ H (ρ.set i none) (σ.set i none) := by
  refine ⟨by simp [S.len], fun j e hj => ?_⟩
  by_cases hi : i = j
  · subst hi
    by_cases hl : i < ρ.length
    · rw [List.getElem?_set_self hl] at hj; cases hj
    · rw [List.getElem?_eq_none (by simpa using hl)] at hj; cases hj
  · rw [List.getElem?_set_ne hi] at hj
    obtain ⟨u, e1, e2⟩ := S.ok j e hj
    exact ⟨u, by rw [List.getElem?_set_ne hi]; exact e1, e2⟩
theorem Rs.wipe (S : Rs K μ H ρ σ) : ∀ own : List (Str × Nat), Rs K μ H (wipeR ρ own) (L2.wipe σ (own.map (·.2)))
  | [] => S
  | p :: ps => (Rs.wipe S ps).unset

/-! ### readings -/
/-- what follows a value that is made -/
abbrev Aft (G : Ctx) (μ : List Addr) (H : Hp) (r : Res) (h' : Hh) (Q : VK) : Prop :=
  ∀ v H' μ', Nxt μ H μ' H' → Rl G μ' H' h' → DatX G.K μ' H' r v → New H r v → Q v H'
/-- an expression's, by what the interpreter says -/
def tE (G : Ctx) (f : Rho → Hh → Option (Res × Hh)) : TE := fun σ H Q =>
  ∃ μ ρ h r h', Rl G μ H h ∧ Rs G.K μ H ρ σ ∧ f ρ h = some (r, h') ∧ Aft G μ H r h' Q
end
end Co

set_option linter.all false
set_option maxRecDepth 100000
set_option autoImplicit false
/-! Core4: what the operations of the machine do, as the interpreter says. -/
namespace Co
open PySem L2

abbrev gx (X : Cx) : Ctx := ⟨X.prog, X.w, X.K⟩

section
variable {X : Cx} {μ : List Addr} {H : Hp} {h : Hh} {r a b : Res} {v : V} {ds : List D} {d : D}

theorem small_iff {n : Nat} (e : small n = true) : n ≤ sizeLine := by
  unfold small at e; rw [sizeLine_eq]; exact of_decide_eq_true e
theorem small_lt {n : Nat} (e : decide (n < 16777216) = true) : n < sizeLine := by
  rw [sizeLine_eq]; exact of_decide_eq_true e

theorem Dats.nil_of {K : PySem.W.Frag} (x : Dats K μ H ds []) : ds = [] := by
  have := x.length
  cases ds with
  | nil => rfl
  | cons _ _ => simp at this
theorem lst_at {n : Nat} {G : Ctx} (R : Rl G μ H h) (e : look h n = some (.lst ds)) (x : Dat G.K μ H (.ref n) v) :
    ∃ p xs, v = .ref p ∧ μ[n]? = some p ∧ p ∈ μ ∧ H p = some (.lst xs) ∧ Dats G.K μ H ds xs := by
  obtain ⟨p, rfl, ep⟩ := x
  obtain ⟨q, eq, m, xs, e1, e2⟩ := R.place e
  rw [ep] at eq; cases eq
  exact ⟨p, xs, rfl, ep, m, e1, e2⟩
theorem lstOf_ok {G : Ctx} (R : Rl G μ H h) (x : DatX G.K μ H r v) (e : lstOf h r = some ds) : ∃ p xs, v = .ref p ∧ H p = some (.lst xs) ∧ Dats G.K μ H ds xs := by
  cases r with
  | f es =>
    obtain ⟨p, xs, rfl, e2, e3, _⟩ := x
    cases e
    exact ⟨p, xs, rfl, e2, e3⟩
  | v d =>
    cases d with
    | ref n =>
      simp only [lstOf] at e
      split at e
      · rename_i es hl
        cases e
        obtain ⟨p, xs, rfl, _, _, h1, h2⟩ := lst_at R hl x
        exact ⟨p, xs, rfl, h1, h2⟩
      · cases e
    | _ => simp [lstOf] at e
theorem listOf_ok {G : Ctx} (R : Rl G μ H h) (x : DatX G.K μ H r v) (e : listOf h r = some ds) : ∃ p xs, v = .ref p ∧ SqL G.K H p xs ∧ Dats G.K μ H ds xs := by
  cases r with
  | f es =>
    obtain ⟨p, xs, rfl, e2, e3, _⟩ := x
    cases e
    exact ⟨p, xs, rfl, .of e2, e3⟩
  | v d =>
    cases d with
    | fl es =>
      obtain ⟨p, xs, rfl, e2, e3⟩ := x
      cases e
      exact ⟨p, xs, rfl, e2.sq, e3⟩
    | ref n =>
      simp only [listOf] at e
      split at e
      · rename_i es hl
        cases e
        obtain ⟨p, xs, rfl, _, _, h1, h2⟩ := lst_at R hl x
        exact ⟨p, xs, rfl, .of h1, h2⟩
      · cases e
    | _ => simp [listOf] at e
theorem seqOf_ok {G : Ctx} (R : Rl G μ H h) (x : DatX G.K μ H r v) (e : seqOf h r = some ds) : ∃ p xs, v = .ref p ∧ (SqL G.K H p xs ∨ SqT G.K H p xs) ∧ Dats G.K μ H ds xs := by
  cases r with
  | f es =>
    obtain ⟨p, xs, rfl, e2, e3, _⟩ := x
    cases e
    exact ⟨p, xs, rfl, .inl (.of e2), e3⟩
  | v d =>
    cases d with
    | tup es =>
      obtain ⟨p, xs, rfl, e2, e3⟩ := x
      cases e
      exact ⟨p, xs, rfl, .inr e2.sq, e3⟩
    | fl es =>
      obtain ⟨p, xs, rfl, e2, e3⟩ := x
      cases e
      exact ⟨p, xs, rfl, .inl e2.sq, e3⟩
    | ref n =>
      simp only [seqOf] at e
      split at e
      · rename_i es hl
        cases e
        obtain ⟨p, xs, rfl, _, _, h1, h2⟩ := lst_at R hl x
        exact ⟨p, xs, rfl, .inl (.of h1), h2⟩
      · cases e
    | _ => simp [seqOf] at e

variable {G : Ctx} {Q : VK}
theorem Aft.val (q : Aft G μ H (.v d) h Q) (R : Rl G μ H h) (x : Dat G.K μ H d v) : Q v H := q v H μ .refl R x trivial
/-- a new list -/
theorem Aft.list {p : Addr} {xs : List V} (q : Aft G μ H (.f ds) h Q) (R : Rl G μ H h) (x : Dats G.K μ H ds xs) (hp : H p = none) : Q (.ref p) (upd H p (.lst xs)) :=
  q (.ref p) _ μ (.laid hp) (R.laid hp) ⟨p, xs, rfl, upd_same, Dats.next R.free (.laid hp) x, fun z => R.free.some z hp⟩ (fun b e => by cases e; exact hp)
/-- a new tuple -/
theorem Aft.tuple {p : Addr} {xs : List V} {o : Obj} (q : Aft G μ H (.v (.tup ds)) h Q) (R : Rl G μ H h) (x : Dats G.K μ H ds xs) (hp : H p = none) (ho : o.dict = none) : Q (.ref p) (upd H p (.frz o (.tup xs))) :=
  q (.ref p) _ μ (.laid hp) (R.laid hp) ⟨p, xs, rfl, ⟨o, upd_same, ho⟩, Dats.next R.free (.laid hp) x⟩ trivial
/-- a tuple laid by a push -/
theorem tup_laid {X : Cx} {pins : List (Addr × Obj)} {σ : St} {H : Hp} {s : Shared} {xs : List V} {its : List Value} {μ : List Addr} {h : Hh} {ds : List D} {Q : VK} (I : Inv X pins σ H s) (r : Vals xs its) (hz : xs.length ≤ sizeLine) (tk : Nat)
    (q : Aft (gx X) μ H (.v (.tup ds)) h Q) (R : Rl (gx X) μ H h) (x : Dats X.K μ H ds xs) : EP X pins σ Q (.ref s.heap.objs.size) { s with heap := s.heap.push { cls := .type "tuple", data := .seq its.toArray }, toks := tk } := by
  refine ⟨.ref s.heap.objs.size, _, I.laid (t' := tk) (o := .frz { cls := .type "tuple", data := .seq its.toArray } (.tup xs)) (fun b ob q => Heap.get?_push_of_some _ q) (Nat.le_refl _) ?_, rfl, q.tuple R x (I.hok.fresh (Nat.le_refl _)) rfl⟩
  exact ⟨Heap.get?_push_size _ rfl, hz, its, r, PyProof.Rows.IsTup.new _ _⟩

/-! ### operators -/
def opOf : Bop → Operator
  | .add => .Add | .sub => .Sub | .mul => .Mult | .fdiv => .FloorDiv | .mod => .Mod | .pow => .Pow
theorem opOf_of {o : Bop} {p : Operator} (e : bopOk o p = true) : p = opOf o := by cases o <;> cases p <;> first | rfl | (simp [bopOk] at e)
def rBin (G : Ctx) (o : Bop) : R2 := fun x y H Q => ∃ μ h a b z, Rl G μ H h ∧ DatX G.K μ H a x ∧ DatX G.K μ H b y ∧ binop o h a b = some z ∧ Aft G μ H z h Q

theorem bin_add : OpR X (binaryOp .Add) (rBin (gx X) .add) := by
  intro pins s σ H x y v u Q I rx ry hr
  obtain ⟨μ, h, a, b, z, R, da, db, e, q⟩ := hr
  simp only [binop] at e
  split at e
  · cases e
    cases (show x = _ from da); cases (show y = _ from db)
    exact op_add pins s σ H _ _ v u Q I rx ry ⟨_, _, rfl, rfl, q.val R rfl⟩
  · split at e
    · cases e
      cases (show x = _ from da); cases (show y = _ from db)
      exact op_add_str pins s σ H _ _ v u Q I rx ry ⟨_, _, rfl, rfl, small_iff ‹_›, q.val R rfl⟩
    · cases e
  · split at e
    · cases e
      obtain ⟨p, xs, rfl, e2, e3⟩ := da
      obtain ⟨p', ys, rfl, e2', e3'⟩ := db
      cases rx
      cases ry
      have hz : xs.length + ys.length ≤ sizeLine := by rw [e3.length, e3'.length]; exact small_iff ‹_›
      obtain ⟨its, r1, t1, _⟩ := I.tuple e2.sq
      obtain ⟨jts, r2, t2, _⟩ := I.tuple e2'.sq
      by_cases hx : its = []
      · subst hx
        cases r1
        have hn := e3.nil_of
        subst hn
        exact cat_tup0 t1 t2 ⟨.ref p', H, I, rfl, q.val R ⟨p', ys, rfl, e2', e3'⟩⟩
      · refine HT.cat_tup t1 t2 hx (fun hy => ?_) (fun _ => tup_laid I (r1.append r2) (by rw [List.length_append]; exact hz) _ q R (e3.append e3')) (by rw [← r1.length, ← r2.length]; exact hz)
        subst hy
        cases r2
        have hn := e3'.nil_of
        subst hn
        rw [List.append_nil] at q
        exact ⟨.ref p, H, I, rfl, q.val R ⟨p, xs, rfl, e2, e3⟩⟩
    · cases e
  · split at e
    · rename_i e1 e2
      split at e
      · cases e
        obtain ⟨p, xs, rfl, h1, h2⟩ := lstOf_ok R da e1
        obtain ⟨p', ys, rfl, h1', h2'⟩ := lstOf_ok R db e2
        exact op_cat pins s σ H _ _ v u Q I rx ry ⟨p, p', xs, ys, rfl, rfl, h1, h1', by rw [h2.length, h2'.length]; exact small_iff ‹_›, fun p hp => q.list R (h2.append h2') hp⟩
      · cases e
    · cases e
theorem bin_sub : OpR X (binaryOp .Sub) (rBin (gx X) .sub) := by
  intro pins s σ H x y v u Q I rx ry hr
  obtain ⟨μ, h, a, b, z, R, da, db, e, q⟩ := hr
  simp only [binop] at e
  split at e
  · cases e
    cases (show x = _ from da); cases (show y = _ from db)
    exact op_sub pins s σ H _ _ v u Q I rx ry ⟨_, _, rfl, rfl, q.val R rfl⟩
  · cases e
theorem bits_of {i j : Int} (e : bitsOk i j = true) : CMul i j := by
  unfold bitsOk at e
  rw [Bool.or_eq_true] at e
  rcases e with e | e
  · exact .inl (of_decide_eq_true e)
  · exact .inr (of_decide_eq_true e)
theorem bin_mul : OpR X (binaryOp .Mult) (rBin (gx X) .mul) := by
  intro pins s σ H x y v u Q I rx ry hr
  obtain ⟨μ, h, a, b, z, R, da, db, e, q⟩ := hr
  simp only [binop] at e
  split at e
  · split at e
    · cases e
      cases (show x = _ from da); cases (show y = _ from db)
      exact op_mul pins s σ H _ _ v u Q I rx ry ⟨_, _, rfl, rfl, bits_of ‹_›, q.val R rfl⟩
    · cases e
  · split at e
    · split at e
      · rename_i e1 hc
        cases e
        simp only [Bool.and_eq_true, decide_eq_true_eq] at hc
        obtain ⟨⟨k1, k2⟩, k3⟩ := hc
        obtain ⟨p, xs, rfl, h1, h2⟩ := lstOf_ok R da e1
        cases (show y = _ from db)
        refine op_rep pins s σ H _ _ v u Q I rx ry ⟨p, _, xs, rfl, rfl, h1, by omega, by omega, ?_, fun p hp => q.list R (h2.rep _) hp⟩
        rw [h2.length, sizeLine_eq]
        exact Nat.le_trans (Nat.mul_le_mul k3 (show _ ≤ 1000 by omega)) (by decide)
      · cases e
    · cases e
  · cases e
theorem bin_fdiv : OpR X (binaryOp .FloorDiv) (rBin (gx X) .fdiv) := by
  intro pins s σ H x y v u Q I rx ry hr
  obtain ⟨μ, h, a, b, z, R, da, db, e, q⟩ := hr
  simp only [binop] at e
  split at e
  · split at e
    · rename_i hc
      cases e
      simp only [Bool.and_eq_true, decide_eq_true_eq] at hc
      cases (show x = _ from da); cases (show y = _ from db)
      exact op_fdiv pins s σ H _ _ v u Q I rx ry ⟨_, _, rfl, rfl, hc, q.val R rfl⟩
    · split at e
      · rename_i hc
        cases e
        simp only [Bool.and_eq_true, decide_eq_true_eq] at hc
        cases (show x = _ from da); cases (show y = _ from db)
        exact op_fdivN pins s σ H _ _ v u Q I rx ry ⟨_, _, rfl, rfl, hc, q.val R rfl⟩
      · cases e
  · cases e
theorem bin_mod : OpR X (binaryOp .Mod) (rBin (gx X) .mod) := by
  intro pins s σ H x y v u Q I rx ry hr
  obtain ⟨μ, h, a, b, z, R, da, db, e, q⟩ := hr
  simp only [binop] at e
  split at e
  · split at e
    · rename_i hc
      cases e
      cases (show x = _ from da); cases (show y = _ from db)
      exact op_mod pins s σ H _ _ v u Q I rx ry ⟨_, _, rfl, rfl, of_decide_eq_true hc, q.val R rfl⟩
    · split at e
      · rename_i hc
        cases e
        cases (show x = _ from da); cases (show y = _ from db)
        exact op_modN pins s σ H _ _ v u Q I rx ry ⟨_, _, rfl, rfl, of_decide_eq_true hc, q.val R rfl⟩
      · cases e
  · cases e
theorem bin_pow : OpR X (binaryOp .Pow) (rBin (gx X) .pow) := by
  intro pins s σ H x y v u Q I rx ry hr
  obtain ⟨μ, h, a, b, z, R, da, db, e, q⟩ := hr
  simp only [binop] at e
  split at e
  · split at e
    · rename_i hc
      cases e
      simp only [Bool.and_eq_true, decide_eq_true_eq] at hc
      cases (show x = _ from da); cases (show y = _ from db)
      exact op_pow pins s σ H _ _ v u Q I rx ry ⟨_, _, rfl, rfl, ⟨hc.1.1, hc.1.2, hc.2⟩, q.val R rfl⟩
    · cases e
  · cases e
theorem bin_ok (o : Bop) : OpR X (binaryOp (opOf o)) (rBin (gx X) o) := by
  cases o
  · exact bin_add
  · exact bin_sub
  · exact bin_mul
  · exact bin_fdiv
  · exact bin_mod
  · exact bin_pow
end
end Co

set_option linter.all false
set_option maxRecDepth 100000
set_option autoImplicit false
/-! Core5: values as the library's data; ==, <, in. -/
namespace Co
open PySem L2

section
variable {X : Cx} {pins : List (Addr × Obj)} {σ : St} {μ : List Addr} {H : Hp} {s : Shared} {h : Hh}

theorem tup_reads {a : Addr} {xs : List V} {ys : List PyData} (I : Inv X pins σ H s) (e : TupAt H a xs) {P : List Addr → Prop}
    (hr : ∀ us, Vals xs us → ∃ as, ReadsAll s.heap us ys as ∧ P as) : ∃ as, Reads s.heap (.ref a) (.tuple ys) as ∧ P as := by
  obtain ⟨its, rv, ⟨o, ho, hc, n, hd⟩, _⟩ := I.tuple e.sq
  obtain ⟨as, r, p⟩ := hr its rv
  exact ⟨as, .tuple ho hc hd (by simpa using r), p⟩
mutual
/-- data without changing things -/
theorem Dat.reads (I : Inv X pins σ H s) : ∀ (d : D) (v : V) (u : Value), pure? d = true → Dat X.K μ H d v → RelV v u → ∃ as, Reads s.heap u (py d) as
  | .non, _, _, _, x, r => by cases x; cases r; exact ⟨_, .none⟩
  | .bl b, _, _, _, x, r => by cases x; cases r; exact ⟨_, .bool b⟩
  | .int i, _, _, _, x, r => by cases x; obtain ⟨t, rfl⟩ := r; exact ⟨_, .int i t⟩
  | .str y, _, _, _, x, r => by cases x; obtain ⟨t, rfl⟩ := r; exact ⟨_, .str y t⟩
  | .ref n, _, _, p, _, _ => by simp [pure?] at p
  | .tup ds, _, _, p, x, r => by
    obtain ⟨a, xs, rfl, e2, e3⟩ := x
    cases r
    obtain ⟨as, q, _⟩ := tup_reads (ys := pys ds) (P := fun _ => True) I e2 fun us rv => let ⟨as, q⟩ := Dats.reads I ds xs us (by simpa [pure?] using p) e3 rv; ⟨as, q, trivial⟩
    exact ⟨as, by simpa [py] using q⟩
  | .fl ds, _, _, p, x, r => by
    obtain ⟨a, xs, rfl, e2, e3⟩ := x
    cases r
    obtain ⟨its, rv, ⟨o, n, ho, hc, _, hd⟩, _⟩ := I.list e2.sq
    obtain ⟨as, q⟩ := Dats.reads I ds xs its (by simpa [pure?] using p) e3 rv
    exact ⟨_, by simpa [py] using Reads.list ho hc hd (by simpa using q)⟩
theorem Dats.reads (I : Inv X pins σ H s) : ∀ (ds : List D) (xs : List V) (us : List Value), pures ds = true → Dats X.K μ H ds xs → Vals xs us → ∃ as, ReadsAll s.heap us (pys ds) as
  | [], _, _, _, x, r => by rw [show _ = [] from x] at r; cases r; exact ⟨_, .nil⟩
  | d :: ds, _, _, p, x, r => by
    obtain ⟨v, xs, rfl, e2, e3⟩ := x
    cases r with
    | cons r1 r2 =>
      simp only [pures, Bool.and_eq_true] at p
      obtain ⟨as, q1⟩ := Dat.reads I d v _ p.1 e2 r1
      obtain ⟨bs, q2⟩ := Dats.reads I ds xs _ p.2 e3 r2
      exact ⟨_, by simpa [pys] using ReadsAll.cons q1 q2⟩
end
mutual
theorem py_nodict : ∀ d : D, (py d).hasDict = false
  | .non => rfl
  | .bl _ => rfl
  | .int _ => rfl
  | .str _ => rfl
  | .ref _ => rfl
  | .tup ds => by simp only [py, PyData.hasDict]; exact pys_nodict ds
  | .fl ds => by simp only [py, PyData.hasDict]; exact pys_nodict ds
theorem pys_nodict : ∀ ds : List D, PyData.hasDictAll (pys ds) = false
  | [] => rfl
  | d :: ds => by simp only [pys, PyData.hasDictAll, py_nodict d, pys_nodict ds]; rfl
end

/-- dicts alone lie at these addresses, none of them the machine's own -/
abbrev NoS (as : List Addr) : Prop := ∀ b ∈ as, b ≠ sysModules
theorem NoS.app {as bs : List Addr} (a : NoS as) (b : NoS bs) : NoS (as ++ bs) := fun x hx => (List.mem_append.mp hx).elim (a x) (b x)
mutual
theorem dat1_reads (I : Inv X pins σ H s) (R : Rl (gx X) μ H h) {k : List D → Option (List PyData)}
    (hk : ∀ ds ys xs us, k ds = some ys → Dats X.K μ H ds xs → Vals xs us → ∃ as, ReadsAll s.heap us ys as ∧ (hasLists ys = false → NoS as)) :
    ∀ (d : D) (y : PyData) (v : V) (u : Value), dat1 h k d = some y → Dat X.K μ H d v → RelV v u → ∃ as, Reads s.heap u y as ∧ (hasList y = false → NoS as)
  | .non, y, _, _, e, x, r => by cases e; cases x; cases r; exact ⟨_, .none, fun _ => by simp [NoS]⟩
  | .bl b, y, _, _, e, x, r => by cases e; cases x; cases r; exact ⟨_, .bool b, fun _ => by simp [NoS]⟩
  | .int i, y, _, _, e, x, r => by cases e; cases x; obtain ⟨t, rfl⟩ := r; exact ⟨_, .int i t, fun _ => by simp [NoS]⟩
  | .str z, y, _, _, e, x, r => by cases e; cases x; obtain ⟨t, rfl⟩ := r; exact ⟨_, .str z t, fun _ => by simp [NoS]⟩
  | .fl _, _, _, _, e, _, _ => by simp [dat1] at e
  | .tup ds, y, _, _, e, x, r => by
    obtain ⟨a, xs, rfl, e2, e3⟩ := x
    cases r
    simp only [dat1] at e
    cases q : dats1 h k ds with
    | none => rw [q] at e; cases e
    | some ys =>
      rw [q] at e; cases e
      obtain ⟨as, q1, q2⟩ := tup_reads (P := fun as => hasLists ys = false → NoS as) I e2 fun us rv => dats1_reads I R hk ds ys xs us q e3 rv
      exact ⟨as, q1, fun z => q2 (by simpa [hasList] using z)⟩
  | .ref n, y, v, u, e, x, r => by
    simp only [dat1] at e
    split at e
    · rename_i ds hl
      obtain ⟨a, xs, rfl, _, _, h1, h2⟩ := lst_at R hl x
      cases r
      cases q : k ds with
      | none => rw [q] at e; cases e
      | some ys =>
        rw [q] at e; cases e
        obtain ⟨its, rv, ⟨o, n, ho, hc, _, hd⟩, _⟩ := I.list (SqL.of h1)
        obtain ⟨as, q', t⟩ := hk ds ys xs its q h2 rv
        exact ⟨_, .list ho hc hd (by simpa using q'), fun z => by simp [hasList] at z⟩
    · rename_i hl
      cases e
      obtain ⟨a, rfl, ea⟩ := x
      cases r
      obtain ⟨b, eb, _, ok⟩ := R.place hl
      rw [ea] at eb; cases eb
      have fin : (a == sysModules) = false → (∃ o es ep, s.heap.get? a = some o ∧ o.ExactDict ∧ o.data = .dict es ep ∧ es.toList = []) → ∃ as, Reads s.heap (.ref a) (.dict []) as ∧ (hasList (.dict []) = false → NoS as) := by
        rintro hs ⟨o, es, ep, ho, hx, hd, he⟩
        refine ⟨_, .dict (as := []) (bs := []) ho hx.1 hd (by rw [he]; exact .nil) (by rw [he]; exact .nil), ?_⟩
        intro _ b hb
        simp at hb
        subst hb
        exact beq_eq_false_iff_ne.mp hs
      rcases ok with ⟨ks, e1, e2⟩ | ⟨xs, e1, hz, _, _, _, e2⟩
      · cases e2
        obtain ⟨_, hsy, vs, rv, o, es, ep, ho, hx, hd, _, hp, _⟩ := I.hok a _ e1
        cases rv
        refine fin hsy ⟨o, es, ep, ho, hx, hd, ?_⟩
        have := hp.length
        exact List.eq_nil_of_length_eq_zero (by simpa using this)
      · cases e2
        exact absurd rfl hz
    · cases e
theorem dats1_reads (I : Inv X pins σ H s) (R : Rl (gx X) μ H h) {k : List D → Option (List PyData)}
    (hk : ∀ ds ys xs us, k ds = some ys → Dats X.K μ H ds xs → Vals xs us → ∃ as, ReadsAll s.heap us ys as ∧ (hasLists ys = false → NoS as)) :
    ∀ (ds : List D) (ys : List PyData) (xs : List V) (us : List Value), dats1 h k ds = some ys → Dats X.K μ H ds xs → Vals xs us → ∃ as, ReadsAll s.heap us ys as ∧ (hasLists ys = false → NoS as)
  | [], _, _, _, e, x, r => by cases e; rw [show _ = [] from x] at r; cases r; exact ⟨_, .nil, fun _ => by simp [NoS]⟩
  | d :: ds, ys, _, _, e, x, r => by
    obtain ⟨v, xs, rfl, e2, e3⟩ := x
    cases r with
    | cons r1 r2 =>
      simp only [dats1] at e
      split at e
      · rename_i y ys' q1 q2
        cases e
        obtain ⟨as, p1, t1⟩ := dat1_reads I R hk d y v _ q1 e2 r1
        obtain ⟨bs, p2, t2⟩ := dats1_reads I R hk ds ys' xs _ q2 e3 r2
        exact ⟨_, .cons p1 p2, fun z => by
          simp only [hasLists, Bool.or_eq_false_iff] at z
          exact (t1 z.1).app (t2 z.2)⟩
      · cases e
end
theorem datsN_reads (I : Inv X pins σ H s) (R : Rl (gx X) μ H h) : ∀ (n : Nat) (ds : List D) (ys : List PyData) (xs : List V) (us : List Value), datsN h n ds = some ys → Dats X.K μ H ds xs → Vals xs us →
    ∃ as, ReadsAll s.heap us ys as ∧ (hasLists ys = false → NoS as)
  | 0, _, _, _, _, e, _, _ => by simp [datsN] at e
  | n + 1, ds, ys, xs, us, e, x, r => dats1_reads I R (fun ds ys xs us => datsN_reads I R n ds ys xs us) ds ys xs us (by simpa [datsN] using e) x r

/-- the data of a value, and that no dict of the machine's own lies within -/
theorem dat_reads (I : Inv X pins σ H s) (R : Rl (gx X) μ H h) {d : D} {y : PyData} {v : V} {u : Value} (e : dat h d = some y) (x : Dat X.K μ H d v) (r : RelV v u) :
    ∃ as, Reads s.heap u y as ∧ (y.hasDict = true → hasList y = false → sysModules ∉ as) := by
  unfold dat at e
  split at e
  · cases e
    obtain ⟨as, q⟩ := Dat.reads I d v u ‹_› x r
    exact ⟨as, q, fun z => by rw [py_nodict] at z; cases z⟩
  · obtain ⟨as, q, t⟩ := dat1_reads I R (datsN_reads I R 4) d y v u e x r
    exact ⟨as, q, fun _ z hb => t z _ hb rfl⟩
theorem datR_reads (I : Inv X pins σ H s) (R : Rl (gx X) μ H h) {r : Res} {y : PyData} {v : V} {u : Value} (e : datR h r = some y) (x : DatX X.K μ H r v) (rv : RelV v u) :
    ∃ as, Reads s.heap u y as ∧ (y.hasDict = true → hasList y = false → sysModules ∉ as) := by
  cases r with
  | v d => exact dat_reads I R e x rv
  | f ds =>
    obtain ⟨p, xs, rfl, e2, e3, _⟩ := x
    cases rv
    simp only [datR] at e
    obtain ⟨its, ri, ⟨o, n, ho, hc, _, hd⟩, _⟩ := I.list (SqL.of e2)
    unfold dats at e
    split at e
    · cases e
      obtain ⟨as, q⟩ := Dats.reads I ds xs its ‹_› e3 ri
      exact ⟨_, .list ho hc hd (by simpa using q), fun z => by simp only [PyData.hasDict, pys_nodict] at z; cases z⟩
    · cases q : dats1 h (datsN h 4) ds with
      | none => rw [q] at e; cases e
      | some ys =>
        rw [q] at e; cases e
        obtain ⟨as, q', t⟩ := dats1_reads I R (datsN_reads I R 4) ds ys xs its q e3 ri
        exact ⟨_, .list ho hc hd (by simpa using q'), fun _ z => by simp [hasList] at z⟩

/-! ### == and != -/
def rCmp (G : Ctx) (o : Cop) : R2 := fun x y H Q => ∃ μ h a b z, Rl G μ H h ∧ DatX G.K μ H a x ∧ DatX G.K μ H b y ∧ cmpop o h a b = some z ∧ Q (.bl z) H
theorem eq_lens (I : Inv X pins σ H s) (R : Rl (gx X) μ H h) {a b : Res} {x y : V} {v u : Value} {xs ys : List D} (da : DatX X.K μ H a x) (db : DatX X.K μ H b y) (rx : RelV x v) (ry : RelV y u)
    (e1 : listOf h a = some xs) (e2 : listOf h b = some ys) (hn : ¬ xs.length = ys.length) : ∃ p q its its2, v = .ref p ∧ u = .ref q ∧ s.heap.IsList p its ∧ s.heap.IsList q its2 ∧ (its.size != its2.size) = true := by
  obtain ⟨p, vs, rfl, h1, h2⟩ := listOf_ok R da e1
  obtain ⟨q, ws, rfl, h3, h4⟩ := listOf_ok R db e2
  cases rx; cases ry
  obtain ⟨its, r1, l1, _⟩ := I.list h1
  obtain ⟨its2, r2, l2, _⟩ := I.list h3
  refine ⟨p, q, _, _, rfl, rfl, l1.isList, l2.isList, ?_⟩
  have a1 := r1.length; have a2 := r2.length; have a3 := h2.length; have a4 := h4.length
  simp only [List.size_toArray, bne_iff_ne, ne_eq]
  omega
theorem cmp_eq (hu : X.A.units + 65 < cLine) : OpR X (compareOp .Eq) (rCmp (gx X) .eq) := by
  intro pins s σ H x y v u Q I rx ry hr
  obtain ⟨μ, h, a, b, z, R, da, db, e, q⟩ := hr
  simp only [cmpop] at e
  have gen : eqGen h a b = some z → wpAny (model X.prog X.w) X.A (compareOp .Eq v u) (EP X pins σ Q) X.xe s := fun e => by
    unfold eqGen at e
    split at e
    · rename_i x' y' e1 e2
      split at e
      · rename_i hs
        cases e
        rw [Bool.and_eq_true] at hs
        obtain ⟨as, r1, _⟩ := datR_reads I R e1 da rx
        obtain ⟨bs, r2, _⟩ := datR_reads I R e2 db ry
        exact SeqAt.compareEq_shaped r1 r2 hs.1 hs.2 (by omega) ⟨.bl _, H, I, rfl, q⟩
      · cases e
    · cases e
  unfold eqRes at e
  split at e
  · rename_i xs ys e1 e2
    split at e
    · exact gen e
    · cases e
      obtain ⟨p, q', its, its2, rfl, rfl, l1, l2, hz⟩ := eq_lens I R da db rx ry e1 e2 ‹_›
      exact SeqAt.eq_list_lengthsAt l1 l2 hz (by omega) ⟨.bl _, H, I, rfl, q⟩
  · exact gen e
theorem cmp_ne (hu : X.A.units + 65 < cLine) : OpR X (compareOp .NotEq) (rCmp (gx X) .ne) := by
  intro pins s σ H x y v u Q I rx ry hr
  obtain ⟨μ, h, a, b, z, R, da, db, e, q⟩ := hr
  simp only [cmpop] at e
  cases ez : eqRes h a b with
  | none => rw [ez] at e; cases e
  | some k =>
  rw [ez] at e; cases e
  have gen : eqGen h a b = some k → wpAny (model X.prog X.w) X.A (compareOp .NotEq v u) (EP X pins σ Q) X.xe s := fun e => by
    unfold eqGen at e
    split at e
    · rename_i x' y' e1 e2
      split at e
      · rename_i hs
        cases e
        rw [Bool.and_eq_true] at hs
        obtain ⟨as, r1, _⟩ := datR_reads I R e1 da rx
        obtain ⟨bs, r2, _⟩ := datR_reads I R e2 db ry
        exact SeqAt.compareNe_shaped r1 r2 hs.1 hs.2 (by omega) ⟨.bl _, H, I, rfl, q⟩
      · cases e
    · cases e
  unfold eqRes at ez
  split at ez
  · rename_i xs ys e1 e2
    split at ez
    · exact gen ez
    · cases ez
      obtain ⟨p, q', its, its2, rfl, rfl, l1, l2, hz⟩ := eq_lens I R da db rx ry e1 e2 ‹_›
      exact SeqAt.RcNeAt.lists_lengths l1 l2 hz (by omega) _ _ _ _ ⟨.bl _, H, I, rfl, q⟩
  · exact gen ez
end
end Co

set_option linter.all false
set_option maxRecDepth 100000
set_option autoImplicit false
/-! Core6: dicts: by ints and texts, by tuples. -/
namespace Co
open PySem L2

section
variable {X : Cx} {pins : List (Addr × Obj)} {σ : St} {μ : List Addr} {H : Hp} {s : Shared} {h : Hh} {G : Ctx}

def toKey : D → Key
  | .int i => .inl i
  | .str x => .inr x
  | _ => .inl 0
theorem keyD_toKey {d : D} (e : keyOk d = true) : keyD (toKey d) = d := by cases d <;> first | rfl | (simp [keyOk] at e)
theorem toKey_keyD (k : Key) : toKey (keyD k) = k := by cases k <;> rfl
theorem keyD_inj {a b : Key} (e : keyD a = keyD b) : a = b := by rw [← toKey_keyD a, e, toKey_keyD]
theorem Dat.key {K : PySem.W.Frag} {d : D} {v : V} (e : keyOk d = true) (x : Dat K μ H d v) : v = kV (toKey d) := by
  cases d <;> first | exact x | (simp [keyOk] at e)

/-! ### scalars -/
theorem pk_get {K : PySem.W.Frag} {G : Ctx} {kvs : List (D × D)} {ks : List (Key × V)} (p : Paired (PairK G μ H) kvs ks) (k : Key) :
    (dget kvs (keyD k) = none ∧ valV ks k = none) ∨ ∃ d v, dget kvs (keyD k) = some d ∧ valV ks k = some v ∧ Dat G.K μ H d v := by
  induction p with
  | nil => exact .inl ⟨rfl, rfl⟩
  | @cons a b as bs hp _ ih =>
    by_cases e : b.1 = k
    · refine .inr ⟨a.2, b.2, ?_, ?_, hp.2⟩
      · unfold dget; rw [List.find?_cons_of_pos]; · rfl
        · rw [hp.1, e]; simp
      · exact valV_pos e
    · have h1 : ¬ a.1 = keyD k := fun z => e (keyD_inj (hp.1 ▸ z))
      have e1 : dget (a :: as) (keyD k) = dget as (keyD k) := by unfold dget; rw [List.find?_cons_of_neg]; simp [h1]
      have e2 : valV (b :: bs) k = valV bs k := valV_neg e
      rw [e1, e2]; exact ih
theorem pk_any {kvs : List (D × D)} {ks : List (Key × V)} (p : Paired (PairK G μ H) kvs ks) (k : Key) : (kvs.any fun q => decide (q.1 = keyD k)) = ks.any fun q => decide (q.1 = k) := by
  induction p with
  | nil => rfl
  | @cons a b as bs hp _ ih =>
    simp only [List.any_cons, ih]
    congr 1
    by_cases e : b.1 = k
    · simp [hp.1, e]
    · have h1 : ¬ a.1 = keyD k := fun z => e (keyD_inj (hp.1 ▸ z))
      simp [e, h1]
theorem pk_map {kvs : List (D × D)} {ks : List (Key × V)} (p : Paired (PairK G μ H) kvs ks) (k : Key) {d : D} {v : V} (x : Dat G.K μ H d v) :
    Paired (PairK G μ H) (kvs.map fun q => if q.1 = keyD k then (q.1, d) else q) (ks.map fun kv => if kv.1 = k then (kv.1, v) else kv) := by
  induction p with
  | nil => exact .nil
  | @cons a b as bs hp _ ih =>
    simp only [List.map_cons]
    refine .cons ?_ ih
    by_cases e : b.1 = k
    · rw [if_pos e, if_pos (by rw [hp.1, e])]; exact ⟨hp.1, x⟩
    · rw [if_neg e, if_neg (fun z => e (keyD_inj (hp.1 ▸ z)))]; exact hp
theorem pair_snoc {α β : Type} {F : α → β → Prop} {as : List α} {bs : List β} {a : α} {b : β} (p : Paired F as bs) (x : F a b) : Paired F (as ++ [a]) (bs ++ [b]) := by
  induction p with
  | nil => exact .cons x .nil
  | cons hp _ ih => exact .cons hp ih
theorem pair_right {α β : Type} {F : α → β → Prop} {as : List α} {bs : List β} {b : β} (p : Paired F as bs) (hy : b ∈ bs) : ∃ a, a ∈ as ∧ F a b := by
  induction p with
  | nil => simp at hy
  | @cons a b as bs hp _ ih =>
    rcases List.mem_cons.mp hy with z | z
    · subst z; exact ⟨a, List.mem_cons_self, hp⟩
    · obtain ⟨c, h1, h2⟩ := ih z; exact ⟨c, List.mem_cons_of_mem _ h1, h2⟩
theorem pk_put {kvs : List (D × D)} {ks : List (Key × V)} (p : Paired (PairK G μ H) kvs ks) (k : Key) {d : D} {v : V} (x : Dat G.K μ H d v) :
    Paired (PairK G μ H) (dput kvs (keyD k) d) (putK ks k v) := by
  unfold dput putK
  rw [pk_any p k]
  split
  · exact pk_map p k x
  · exact pair_snoc p ⟨rfl, x⟩
theorem pk_keys {kvs : List (D × D)} {ks : List (Key × V)} (p : Paired (PairK G μ H) kvs ks) : kvs.map (·.1) = ks.map fun q => keyD q.1 := by
  induction p with
  | nil => rfl
  | cons hp _ ih => simp only [List.map_cons, ih, hp.1]

/-! ### tuples as keys -/
mutual
theorem nk_inj : ∀ (d e : D) (k : NestedKey), nk d = some k → nk e = some k → d = e
  | .non, e, k, h1, h2 => by
    simp only [nk] at h1; cases h1
    cases e with
    | non => rfl
    | tup xs => simp only [nk] at h2; cases q : nks xs <;> rw [q] at h2 <;> cases h2
    | _ => simp [nk] at h2
  | .int i, e, k, h1, h2 => by
    simp only [nk] at h1; cases h1
    cases e with
    | int j => simp only [nk] at h2; cases h2; rfl
    | tup xs => simp only [nk] at h2; cases q : nks xs <;> rw [q] at h2 <;> cases h2
    | _ => simp [nk] at h2
  | .str i, e, k, h1, h2 => by
    simp only [nk] at h1; cases h1
    cases e with
    | str j => simp only [nk] at h2; cases h2; rfl
    | tup xs => simp only [nk] at h2; cases q : nks xs <;> rw [q] at h2 <;> cases h2
    | _ => simp [nk] at h2
  | .tup xs, e, k, h1, h2 => by
    simp only [nk] at h1
    cases q : nks xs with
    | none => rw [q] at h1; cases h1
    | some ks =>
      rw [q] at h1; cases h1
      cases e with
      | tup ys =>
        simp only [nk] at h2
        cases q' : nks ys with
        | none => rw [q'] at h2; cases h2
        | some ks' =>
          rw [q'] at h2; cases h2
          rw [nks_inj xs ys ks q q']
      | _ => simp [nk] at h2
  | .bl _, _, _, h1, _ => by simp [nk] at h1
  | .fl _, _, _, h1, _ => by simp [nk] at h1
  | .ref _, _, _, h1, _ => by simp [nk] at h1
theorem nks_inj : ∀ (ds es : List D) (ks : List NestedKey), nks ds = some ks → nks es = some ks → ds = es
  | [], es, ks, h1, h2 => by
    simp only [nks] at h1; cases h1
    cases es with
    | nil => rfl
    | cons e es => simp only [nks] at h2; split at h2 <;> cases h2
  | d :: ds, es, ks, h1, h2 => by
    simp only [nks] at h1
    split at h1
    · rename_i k ks' q1 q2
      cases h1
      cases es with
      | nil => simp [nks] at h2
      | cons e es =>
        simp only [nks] at h2
        split at h2
        · rename_i k' ks'' q3 q4
          cases h2
          rw [nk_inj d e k q1 q3, nks_inj ds es ks' q2 q4]
        · cases h2
    · cases h1
end
mutual
theorem nk_is (I : Inv X pins σ H s) : ∀ (d : D) (k : NestedKey) (v : V) (u : Value), nk d = some k → Dat X.K μ H d v → RelV v u → NestedIs s.heap k u
  | .non, k, _, _, e, x, r => by simp only [nk] at e; cases e; cases x; cases r; exact .none
  | .int i, k, _, _, e, x, r => by simp only [nk] at e; cases e; cases x; obtain ⟨t, rfl⟩ := r; exact .int _ _
  | .str i, k, _, _, e, x, r => by simp only [nk] at e; cases e; cases x; obtain ⟨t, rfl⟩ := r; exact .text _ _
  | .tup xs, k, _, _, e, x, r => by
    simp only [nk] at e
    cases q : nks xs with
    | none => rw [q] at e; cases e
    | some ks =>
      rw [q] at e; cases e
      obtain ⟨a, vs, rfl, e2, e3⟩ := x
      cases r
      obtain ⟨its, rv, ⟨o, ho, hc, n, hd⟩, _⟩ := I.tuple e2.sq
      exact .tup ho hc hd (by simpa using nks_is I xs ks vs its q e3 rv)
  | .bl _, _, _, _, e, _, _ => by simp [nk] at e
  | .fl _, _, _, _, e, _, _ => by simp [nk] at e
  | .ref _, _, _, _, e, _, _ => by simp [nk] at e
theorem nks_is (I : Inv X pins σ H s) : ∀ (ds : List D) (ks : List NestedKey) (vs : List V) (us : List Value), nks ds = some ks → Dats X.K μ H ds vs → Vals vs us → NestedAll s.heap ks us
  | [], ks, _, _, e, x, r => by simp only [nks] at e; cases e; rw [show _ = [] from x] at r; cases r; exact .nil
  | d :: ds, ks, _, _, e, x, r => by
    simp only [nks] at e
    split at e
    · rename_i k ks' q1 q2
      cases e
      obtain ⟨v, vs, rfl, e2, e3⟩ := x
      cases r with
      | cons r1 r2 => exact .cons (nk_is I d k v _ q1 e2 r1) (nks_is I ds ks' vs _ q2 e3 r2)
    · cases e
end
theorem tupKey_nk {d : D} (e : tupKey d = true) : ∃ k ks, nk d = some k ∧ k.depth ≤ 8 ∧ d = .tup ks := by
  cases d with
  | tup xs =>
    simp only [tupKey] at e
    split at e
    · rename_i ks q
      exact ⟨.tup ks, xs, by simp only [nk, q]; rfl, of_decide_eq_true e, rfl⟩
    · cases e
  | _ => simp [tupKey] at e
/-- the machine's dict behind a cell whose keys are tuples -/
theorem nest_at (I : Inv X pins σ H s) (R : Rl (gx X) μ H h) {n : Nat} {kvs : List (D × D)} {v : V} (e : look h n = some (.dct kvs)) (hk : (kvs.all fun p => tupKey p.1) = true) (x : Dat X.K μ H (.ref n) v) :
    ∃ p xs, v = .ref p ∧ μ[n]? = some p ∧ p ∈ μ ∧ s.heap.DictOfH (nestedKind X.prog X.w) p xs ∧ (p == sysModules) = false ∧ xs.length ≤ sizeLine ∧ Paired (PairN (gx X) μ H) kvs xs ∧ Mut (H p) := by
  obtain ⟨p, rfl, ep⟩ := x
  obtain ⟨q, eq, m, ok⟩ := R.place e
  rw [ep] at eq; cases eq
  rcases ok with ⟨ks, e1, e2⟩ | ⟨xs, e1, hz, hl, hs, nd, e2⟩
  · have hkv : kvs = [] := by
      cases e2 with
      | nil => rfl
      | @cons a b as bs hp _ =>
        simp only [List.all_cons, Bool.and_eq_true] at hk
        obtain ⟨k, ks, _, _, hd⟩ := tupKey_nk hk.1
        rw [hp.1] at hd
        cases hb : b.1 <;> rw [hb] at hd <;> cases hd
    subst hkv
    cases e2
    obtain ⟨_, hsy, vs, rv, o, es, ep', ho, hx, hd, _, hp, _⟩ := I.hok p _ e1
    cases rv
    have he : es.toList = [] := List.eq_nil_of_length_eq_zero (by simpa using hp.length)
    exact ⟨p, [], rfl, ep, m, ⟨o, es, ep', ho, hx, hd, by rw [he]; rfl, fun _ z => by simp at z, List.nodup_nil⟩, hsy, Nat.zero_le _, .nil, by rw [e1]; trivial⟩
  · obtain ⟨⟨o, es, ep', ho, hx, hd, he⟩, _⟩ := I.hok p _ e1
    refine ⟨p, xs, rfl, ep, m, ⟨o, es, ep', ho, hx, hd, he, fun y hy => ?_, nd⟩, hs, hl, e2, by rw [e1]; trivial⟩
    obtain ⟨j, hj, ej⟩ := List.getElem_of_mem hy
    obtain ⟨a, ha, hp⟩ := pair_right e2 hy
    obtain ⟨h1, h2, h3, _⟩ := hp
    exact ⟨nk_is I _ _ _ _ h1 h3 rfl, h2⟩
theorem pn_get {kvs : List (D × D)} {xs : List (NestedKey × Addr × Value)} (p : Paired (PairN G μ H) kvs xs) {d : D} {k : NestedKey} (ek : nk d = some k) :
    (dget kvs d = none ∧ atKey xs k = none) ∨ ∃ y v a u, dget kvs d = some y ∧ atKey xs k = some (a, u) ∧ RelV v u ∧ Dat G.K μ H y v := by
  induction p with
  | nil => exact .inl ⟨rfl, rfl⟩
  | @cons a b as bs hp _ ih =>
    obtain ⟨h1, h2, h3, _, v, h4, h5⟩ := hp
    by_cases e : b.1 = k
    · have ha : a.1 = d := nk_inj _ _ k (e ▸ h1) ek
      refine .inr ⟨a.2, v, b.2.1, b.2.2, ?_, ?_, h4, h5⟩
      · unfold dget; rw [List.find?_cons_of_pos]; · rfl
        · simp [ha]
      · unfold atKey; rw [List.find?_cons_of_pos]; · rfl
        · simp [e]
    · have ha : ¬ a.1 = d := fun z => e (Option.some.inj (h1.symm.trans (z ▸ ek)))
      have e1 : dget (a :: as) d = dget as d := by unfold dget; rw [List.find?_cons_of_neg]; simp [ha]
      have e2 : atKey (b :: bs) k = atKey bs k := by unfold atKey; rw [List.find?_cons_of_neg]; simp [e]
      rw [e1, e2]; exact ih
theorem pn_any {kvs : List (D × D)} {xs : List (NestedKey × Addr × Value)} (p : Paired (PairN G μ H) kvs xs) {d : D} {k : NestedKey} (ek : nk d = some k) :
    (kvs.any fun q => decide (q.1 = d)) = (atKey xs k).isSome := by
  induction p with
  | nil => rfl
  | @cons a b as bs hp _ ih =>
    obtain ⟨h1, h2, h3, _, v, h4, h5⟩ := hp
    by_cases e : b.1 = k
    · have ha : a.1 = d := nk_inj _ _ k (e ▸ h1) ek
      have e2 : atKey (b :: bs) k = some (b.2.1, b.2.2) := by unfold atKey; rw [List.find?_cons_of_pos]; · rfl
                                                              · simp [e]
      rw [e2]; simp [ha]
    · have ha : ¬ a.1 = d := fun z => e (Option.some.inj (h1.symm.trans (z ▸ ek)))
      have e2 : atKey (b :: bs) k = atKey bs k := by unfold atKey; rw [List.find?_cons_of_neg]; simp [e]
      rw [e2, ← ih]; simp [ha]
theorem pn_map {kvs : List (D × D)} {xs : List (NestedKey × Addr × Value)} (p : Paired (PairN G μ H) kvs xs) {d e : D} {k : NestedKey} {v : V} {u : Value} (ek : nk d = some k)
    (rv : RelV v u) (x : Dat G.K μ H e v) : Paired (PairN G μ H) (kvs.map fun q => if q.1 = d then (q.1, e) else q) (xs.map (putAt k u)) := by
  induction p with
  | nil => exact .nil
  | @cons a c as bs hp _ ih =>
    obtain ⟨h1, h2, h3, ht, w', h4, h5⟩ := id hp
    simp only [List.map_cons]
    refine .cons ?_ ih
    unfold putAt
    by_cases q : c.1 = k
    · rw [if_pos q, if_pos (nk_inj _ _ k (q ▸ h1) ek)]
      exact ⟨h1, h2, h3, ht, v, rv, x⟩
    · rw [if_neg q, if_neg (fun (z : a.1 = d) => q (Option.some.inj (h1.symm.trans (by rw [z]; exact ek))))]
      exact hp
theorem pn_put {kvs : List (D × D)} {xs : List (NestedKey × Addr × Value)} (p : Paired (PairN G μ H) kvs xs) {d e : D} {k : NestedKey} {b : Addr} {v : V} {u : Value} (ek : nk d = some k) (hdp : k.depth ≤ 8) (ht : ∃ ks, d = .tup ks)
    (xk : Dat G.K μ H d (.ref b)) (rv : RelV v u) (x : Dat G.K μ H e v) : Paired (PairN G μ H) (dput kvs d e) (storedH xs k b u) := by
  unfold dput storedH
  rw [pn_any p ek]
  split
  · exact pn_map p ek rv x
  · exact pair_snoc p ⟨ek, hdp, xk, ht, v, rv, x⟩
theorem DN_ok {P : Program} {w : World} {H' : Hp} {h' : Heap} {a : Addr} {xs : List (NestedKey × Addr × Value)} (hm : h'.DictOfH (nestedKind P w) a xs) : ObjOk P w H' h' a (DN P w a xs) := by
  obtain ⟨o, es, ep, ho, hx, hd, he, _, _⟩ := hm
  refine ⟨⟨o, es, ep, ho, hx, hd, he⟩, ⟨o, ho⟩, ?_⟩
  rintro h1 h2 ⟨o, es, ep, ho, r⟩ k
  exact ⟨o, es, ep, k o ho, r⟩
theorem storedH_len (xs : List (NestedKey × Addr × Value)) (k : NestedKey) (b : Addr) (u : Value) : (storedH xs k b u).length ≤ xs.length + 1 ∧ xs.length ≤ (storedH xs k b u).length := by
  unfold storedH; split <;> simp
theorem storedH_ne (xs : List (NestedKey × Addr × Value)) (k : NestedKey) (b : Addr) (u : Value) : storedH xs k b u ≠ [] := by
  unfold storedH
  split
  · rename_i e
    intro z
    have : xs = [] := by simpa using z
    subst this
    simp [atKey] at e
  · simp

theorem fit_cases {kvs : List (D × D)} {k : D} (e : keysFit kvs k = true) : (keyOk k = true ∧ (kvs.all fun p => keyOk p.1) = true) ∨ (tupKey k = true ∧ (kvs.all fun p => tupKey p.1) = true) := by
  unfold keysFit at e
  simpa [Bool.or_eq_true, Bool.and_eq_true] using e
/-- the machine's dict behind a cell whose keys are ints and texts -/
theorem scal_at {G : Ctx} (R : Rl G μ H h) {n : Nat} {kvs : List (D × D)} {v : V} (e : look h n = some (.dct kvs)) (hk : (kvs.all fun p => keyOk p.1) = true) (x : Dat G.K μ H (.ref n) v) :
    ∃ p ks, v = .ref p ∧ μ[n]? = some p ∧ p ∈ μ ∧ H p = some (.dK ks) ∧ Paired (PairK G μ H) kvs ks := by
  obtain ⟨p, rfl, ep⟩ := x
  obtain ⟨q, eq, m, ok⟩ := R.place e
  rw [ep] at eq; cases eq
  rcases ok with ⟨ks, e1, e2⟩ | ⟨xs, e1, hz, hl, hs, nd, e2⟩
  · exact ⟨p, ks, rfl, ep, m, e1, e2⟩
  · cases e2 with
    | nil => exact absurd rfl hz
    | @cons a b as bs hp _ =>
      simp only [List.all_cons, Bool.and_eq_true] at hk
      obtain ⟨_, _, _, ⟨ks, ht⟩, _⟩ := hp
      rw [ht] at hk
      simp [keyOk] at hk

/-- d[k] where k is there -/
theorem dict_get (hu : X.A.units + 65 < cLine) (I : Inv X pins σ H s) (R : Rl (gx X) μ H h) {n : Nat} {kvs : List (D × D)} {k d : D} {x y : V} {v u : Value} {Q : VK} (e : look h n = some (.dct kvs)) (hk : keysFit kvs k = true) (hg : dget kvs k = some d)
    (dx : Dat X.K μ H (.ref n) x) (dk : Dat X.K μ H k y) (rx : RelV x v) (ry : RelV y u) (q : ∀ z, Dat X.K μ H d z → Q z H) : wpAny (model X.prog X.w) X.A (getItem v u) (EP X pins σ Q) X.xe s := by
  rcases fit_cases hk with ⟨h1, h2⟩ | ⟨h1, h2⟩
  · obtain ⟨p, ks, rfl, _, _, hp, pp⟩ := scal_at R e h2 dx
    cases rx
    have hy := dk.key h1
    subst hy
    rw [← keyD_toKey h1] at hg
    rcases pk_get (K := X.K) pp (toKey k) with ⟨g, _⟩ | ⟨d', z, g1, g2, g3⟩
    · rw [g] at hg; cases hg
    · rw [g1] at hg; cases hg
      exact d_getItem (by omega) I (g2 ▸ DGet.k (k := toKey k) hp) ry fun w' s' I' r => ⟨z, H, I', r, q z g3⟩
  · obtain ⟨p, xs, rfl, _, _, hd, hs, hl, pp, _⟩ := nest_at I R e h2 dx
    cases rx
    obtain ⟨nk', ts, ek, hdp, rfl⟩ := tupKey_nk h1
    obtain ⟨b, ys, rfl, _, _⟩ := id dk
    cases ry
    have hkey : (nestedKind X.prog X.w).is s.heap nk' b := ⟨nk_is I _ _ _ _ ek dk rfl, hdp⟩
    rcases pn_get pp ek with ⟨g, _⟩ | ⟨y', z, a, w', g1, g2, g3, g4⟩
    · rw [g] at hg; cases hg
    · rw [g1] at hg; cases hg
      exact wpAny_getItem_heap (knd := nestedKind X.prog X.w) (by show X.A.units + 1 + 8 < cLine; omega) hkey hd g2 ⟨z, H, I.tok _, g3, q z g4⟩
/-- k in d -/
theorem dict_in (hu : X.A.units + 65 < cLine) (I : Inv X pins σ H s) (R : Rl (gx X) μ H h) {n : Nat} {kvs : List (D × D)} {k : D} {x y : V} {v u : Value} {Q : VK} (e : look h n = some (.dct kvs)) (hk : keysFit kvs k = true)
    (dx : Dat X.K μ H (.ref n) x) (dk : Dat X.K μ H k y) (rx : RelV x v) (ry : RelV y u) (q : Q (.bl (dget kvs k).isSome) H) : wpAny (model X.prog X.w) X.A (compareOp .In u v) (EP X pins σ Q) X.xe s := by
  rcases fit_cases hk with ⟨h1, h2⟩ | ⟨h1, h2⟩
  · obtain ⟨p, ks, rfl, _, _, hp, pp⟩ := scal_at R e h2 dx
    cases rx
    have hy := dk.key h1
    subst hy
    have eo : (dget kvs k).isSome = (valV ks (toKey k)).isSome := by
      rcases pk_get (K := X.K) pp (toKey k) with ⟨g, g'⟩ | ⟨d', z, g1, g2, g3⟩
      · rw [keyD_toKey h1] at g; rw [g, g']; rfl
      · rw [keyD_toKey h1] at g1; rw [g1, g2]; rfl
    exact d_in (by omega) I (DGet.k (k := toKey k) hp) ry fun s' I' => ⟨.bl _, H, I', rfl, by rw [← eo]; exact q⟩
  · obtain ⟨p, xs, rfl, _, _, hd, hs, hl, pp, _⟩ := nest_at I R e h2 dx
    cases rx
    obtain ⟨nk', ts, ek, hdp, rfl⟩ := tupKey_nk h1
    obtain ⟨b, ys, rfl, _, _⟩ := id dk
    cases ry
    have hkey : (nestedKind X.prog X.w).is s.heap nk' b := ⟨nk_is I _ _ _ _ ek dk rfl, hdp⟩
    have eo : (dget kvs (.tup ts)).isSome = (atKey xs nk').isSome := by
      rcases pn_get pp ek with ⟨g, g'⟩ | ⟨y', z, a, w', g1, g2, g3, g4⟩
      · rw [g, g']; rfl
      · rw [g1, g2]; rfl
    refine wpAny_in_heap (knd := nestedKind X.prog X.w) (by show X.A.units + 1 + 8 < cLine; omega) hkey hs hd ⟨.bl _, H, I.tok _, rfl, ?_⟩
    rw [← eo]; exact q
theorem dict_notIn (hu : X.A.units + 65 < cLine) (I : Inv X pins σ H s) (R : Rl (gx X) μ H h) {n : Nat} {kvs : List (D × D)} {k : D} {x y : V} {v u : Value} {Q : VK} (e : look h n = some (.dct kvs)) (hk : keysFit kvs k = true)
    (dx : Dat X.K μ H (.ref n) x) (dk : Dat X.K μ H k y) (rx : RelV x v) (ry : RelV y u) (q : Q (.bl (!(dget kvs k).isSome)) H) : wpAny (model X.prog X.w) X.A (compareOp .NotIn u v) (EP X pins σ Q) X.xe s := by
  rcases fit_cases hk with ⟨h1, h2⟩ | ⟨h1, h2⟩
  · obtain ⟨p, ks, rfl, _, _, hp, pp⟩ := scal_at R e h2 dx
    cases rx
    have hy := dk.key h1
    subst hy
    have eo : (dget kvs k).isSome = (valV ks (toKey k)).isSome := by
      rcases pk_get (K := X.K) pp (toKey k) with ⟨g, g'⟩ | ⟨d', z, g1, g2, g3⟩
      · rw [keyD_toKey h1] at g; rw [g, g']; rfl
      · rw [keyD_toKey h1] at g1; rw [g1, g2]; rfl
    exact d_notIn (by omega) I (DGet.k (k := toKey k) hp) ry fun s' I' => ⟨.bl _, H, I', rfl, by rw [← eo]; exact q⟩
  · obtain ⟨p, xs, rfl, _, _, hd, hs, hl, pp, _⟩ := nest_at I R e h2 dx
    cases rx
    obtain ⟨nk', ts, ek, hdp, rfl⟩ := tupKey_nk h1
    obtain ⟨b, ys, rfl, _, _⟩ := id dk
    cases ry
    have hkey : (nestedKind X.prog X.w).is s.heap nk' b := ⟨nk_is I _ _ _ _ ek dk rfl, hdp⟩
    have eo : (dget kvs (.tup ts)).isSome = (atKey xs nk').isSome := by
      rcases pn_get pp ek with ⟨g, g'⟩ | ⟨y', z, a, w', g1, g2, g3, g4⟩
      · rw [g, g']; rfl
      · rw [g1, g2]; rfl
    refine notIn_keyed (knd := nestedKind X.prog X.w) (kvs := pairsH xs) (by show X.A.units + 1 + 8 < cLine; omega) hkey hs ⟨xs, hd, rfl⟩ ⟨.bl _, H, I.tok _, rfl, ?_⟩
    rw [valueAt_pairsH, Option.isSome_map, ← eo]; exact q
/-- d.get(k, x) -/
theorem dict_getOr (hu : X.A.units + 65 < cLine) (I : Inv X pins σ H s) (R : Rl (gx X) μ H h) {n : Nat} {kvs : List (D × D)} {k d : D} {x y z : V} {v u w' : Value} {Q : VK} (e : look h n = some (.dct kvs)) (hk : keysFit kvs k = true)
    (dx : Dat X.K μ H (.ref n) x) (dk : Dat X.K μ H k y) (dd : Dat X.K μ H d z) (rx : RelV x v) (ry : RelV y u) (rz : RelV z w') (q : ∀ t, Dat X.K μ H ((dget kvs k).getD d) t → Q t H) :
    wpAny (model X.prog X.w) X.A (call (.builtin "dict.get") [v, u, w']) (EP X pins σ Q) X.xe s := by
  rcases fit_cases hk with ⟨h1, h2⟩ | ⟨h1, h2⟩
  · obtain ⟨p, ks, rfl, _, _, hp, pp⟩ := scal_at R e h2 dx
    cases rx
    have hy := dk.key h1
    subst hy
    refine d_get2 (by omega) I (DGet.k (k := toKey k) hp) ry rz fun t s' I' r => ⟨_, H, I', r, q _ ?_⟩
    rcases pk_get (K := X.K) pp (toKey k) with ⟨g, g'⟩ | ⟨d', z', g1, g2, g3⟩
    · rw [keyD_toKey h1] at g; rw [g, g']; exact dd
    · rw [keyD_toKey h1] at g1; rw [g1, g2]; exact g3
  · obtain ⟨p, xs, rfl, _, _, hd, hs, hl, pp, _⟩ := nest_at I R e h2 dx
    cases rx
    obtain ⟨nk', ts, ek, hdp, rfl⟩ := tupKey_nk h1
    obtain ⟨b, ys, rfl, _, _⟩ := id dk
    cases ry
    have hkey : (nestedKind X.prog X.w).is s.heap nk' b := ⟨nk_is I _ _ _ _ ek dk rfl, hdp⟩
    refine getOr_keyed (knd := nestedKind X.prog X.w) (kvs := pairsH xs) (by show X.A.units + 1 + 8 < cLine; omega) hkey hs ⟨xs, hd, rfl⟩ ?_
    rw [valueAt_pairsH]
    rcases pn_get pp ek with ⟨g, g'⟩ | ⟨y', z', a, w'', g1, g2, g3, g4⟩
    · rw [g']; rw [g] at q; exact ⟨z, H, I.tok _, rz, q z dd⟩
    · rw [g2]; rw [g1] at q; exact ⟨z', H, I.tok _, g3, q z' g4⟩
/-- d[k] = v -/
theorem dict_set (hu : X.A.units + 65 < cLine) (I : Inv X pins σ H s) (R : Rl (gx X) μ H h) {n : Nat} {kvs : List (D × D)} {k d : D} {x y z : V} {v u w' : Value} {Q : Hp → Prop} (e : look h n = some (.dct kvs)) (hk : keysFit kvs k = true) (hz : kvs.length < sizeLine)
    (dx : Dat X.K μ H (.ref n) x) (dk : Dat X.K μ H k y) (dd : Dat X.K μ H d z) (rx : RelV x v) (ry : RelV y u) (rz : RelV z w')
    (q : ∀ H', Nxt μ H μ H' → Rl (gx X) μ H' (h.set n (.dct (dput kvs k d))) → Q H') :
    wpAny (model X.prog X.w) X.A (setItem v u w') (fun _ s' => ∃ H', Inv X pins σ H' s' ∧ Q H') X.xe s := by
  rcases fit_cases hk with ⟨h1, h2⟩ | ⟨h1, h2⟩
  · obtain ⟨p, ks, rfl, ep, mp, hp, pp⟩ := scal_at R e h2 dx
    cases rx
    have hy := dk.key h1
    subst hy
    refine d_setItem (by omega) I (DPut.k (k := toKey k) (v := z) hp (by rw [← Paired.length pp]; exact hz)) ry rz fun s' I' => ⟨_, I', q _ (.wrote mp) ?_⟩
    refine R.wrote ep (.inl ⟨_, upd_same, ?_⟩)
    have pp' := pk_put pp (toKey k) dd
    rw [keyD_toKey h1] at pp'
    exact Paired.mapP pp' fun _ _ => PairK.mono R.free (Nxt.wrote mp).keep ⟨[], by simp⟩
  · obtain ⟨p, xs, rfl, ep, mp, hd, hs, hl, pp, mu⟩ := nest_at I R e h2 dx
    cases rx
    obtain ⟨nk', ts, ek, hdp, rfl⟩ := tupKey_nk h1
    obtain ⟨b, ys, rfl, _, _⟩ := id dk
    cases ry
    have hkey : (nestedKind X.prog X.w).is s.heap nk' b := ⟨nk_is I _ _ _ _ ek dk rfl, hdp⟩
    have hxl : xs.length < sizeLine := by rw [← Paired.length pp]; exact hz
    refine wpAny_setItem_heap (knd := nestedKind X.prog X.w) (hsz := hl) (by show X.A.units + 1 + 8 < cLine; omega) hkey hd fun h' hm' hsb => ?_
    have hnd : ((storedH xs nk' b w').map (·.1)).Nodup := by obtain ⟨_, _, _, _, _, _, _, _, nd⟩ := hm'; exact nd
    refine ⟨upd H p (DN X.prog X.w p (storedH xs nk' b w')), ?_, q _ (.wrote mp) (R.wrote ep (.inr ⟨_, upd_same, storedH_ne _ _ _ _, by have := (storedH_len xs nk' b w').1; omega, hs, hnd, ?_⟩))⟩
    · refine d_write I mu hsb ?_ (DN_ok hm')
      obtain ⟨o, _, _, ho, _⟩ := hm'
      exact ⟨o, ho⟩
    · exact Paired.mapP (pn_put pp ek hdp ⟨ts, rfl⟩ dk rz dd) fun _ _ => PairN.mono R.free (Nxt.wrote mp).keep ⟨[], by simp⟩
end
end Co

set_option linter.all false
set_option maxRecDepth 100000
set_option autoImplicit false
/-! Core7: sorting lists of tuples, some of them empty. -/
namespace Co
open PySem L2 PySem.W PySem.SeqAt PyProof.Rows

section
variable {prog : Program} {w : World} {A : Around} {E : Value → Shared → Prop} {s : Shared}

/-- a tuple with nothing in it -/
def isNil : PyData → Bool
  | .tuple [] => true
  | _ => false
theorem isNil_iff {d : PyData} : isNil d = true ↔ d = .tuple [] := by
  constructor
  · intro h
    unfold isNil at h
    split at h
    · rfl
    · cases h
  · intro h; subst h; rfl
/-- one tuple against another by the type's own < -/
theorem one_tup {xs ys : List PyData} {a b : Value} {as bs : List Addr} {Q : Bool → Shared → Prop} (ra : Reads s.heap a (.tuple xs) as) (rb : Reads s.heap b (.tuple ys) bs) (hal : alikeAll xs ys = true)
    (hu : A.units + min (PyData.depth (.tuple xs)) (PyData.depth (.tuple ys)) < cLine) (hq : Q (dataLt (.tuple xs) (.tuple ys)) s) : wpAny (model prog w) A (oneLt' true a b) Q E s := by
  cases ra with
  | @tuple p o vs n _ _ h1 h2 h3 h4 =>
    cases rb with
    | @tuple p' o' vs' n' _ _ k1 k2 k3 k4 =>
      have e1 : vs.size = xs.length := by simpa using SeqAt.ReadsAll.length _ _ _ h4
      have e2 : vs'.size = ys.length := by simpa using SeqAt.ReadsAll.length _ _ _ k4
      obtain ⟨⟨cls, dd, data, sl⟩, ho, hc, m, hd⟩ := (⟨o, h1, h2, n, h3⟩ : s.heap.IsTuple p vs)
      obtain ⟨⟨cls2, dd2, data2, sl2⟩, ho2, hc2, m2, hd2⟩ := (⟨o', k1, k2, n', k3⟩ : s.heap.IsTuple p' vs')
      simp only at hc hd hc2 hd2
      subst hc hd hc2 hd2
      rw [dataLt_tuple, ← firstLt_toks xs ys hal, ← e1, ← e2] at hq
      rw [oneLt'_eq, if_pos rfl]
      refine wpAny_bind (wpAny_cRoomFor (room_here hu) (wpAny_bind (wpAny_callSpecialIfBound?_slot (T := "tuple") ⟨_, ho, rfl⟩ F.slot_tuple_lt
        (call_meets F.slot_tuple_lt ⟨_, ho, rfl⟩ F.entry_tuple_lt (F.args_tuple_lt_2 _ _)
          (tuple_ltAt p p' vs vs' m m2 dd dd2 sl sl2 (pairEq xs ys) fun j => dataLt (xs.getD j .none) (ys.getD j .none)) ⟨ho, ho2, fun j j1 j2 => ?_, fun j j1 j2 hj => ?_, ?_⟩))))
      · have q := eqAt_alikeAll xs ys A.in1 s vs.toList vs'.toList _ _ h4 k4 hal (room_in hu) j (by simpa using j1) (by simpa using j2)
        simpa using q
      · have q := rcLt_alikeAll xs ys A.in1 s vs.toList vs'.toList _ _ h4 k4 hal (room_in hu) j (by simpa using j1) (by simpa using j2) hj
        simpa using q
      · exact wpAny_truthy_bool hq
/-- the first items of tuples -/
theorem firsts_any {M : Model} : ∀ (vs : List Value) (ds : List PyData) {Q : List (Option Value) → Shared → Prop}, EachIs (fun v d => ∃ as, Reads s.heap v d as) vs ds → (∀ d ∈ ds, ∃ xs, d = .tuple xs) →
    (∀ fs : List (Option Value), Paired (fun f d => f.isSome = !isNil d) fs ds → Q fs s) → wpAny M A (vs.mapM firstOfTuple') Q E s
  | _, _, _, .nil, _, h => by rw [List.mapM_nil]; exact wpAny_pure (h [] .nil)
  | _, _, Q, .cons (a := v) (b := d) (as := vs) (bs := ds) ⟨as, r⟩ t, ht, h => by
    obtain ⟨xs, rfl⟩ := ht d (List.mem_cons_self ..)
    cases r with
    | @tuple a o its n _ _ ho hc hd hr =>
      rw [List.mapM_cons]
      refine wpAny_bind ?_
      rw [kas_first_eq]
      refine wpAny_bind (Looks.here (show Looks M s.heap (typeOf (.ref a)) o.cls from (Looks.ld ho).andThen .now) ?_)
      rw [hc, if_neg (by first | decide | simp)]
      refine wpAny_bind (listItems_at ho hd (wpAny_pure ?_))
      refine wpAny_bind (firsts_any vs ds (Q := fun bs s' => wpAny M A (pure (its[0]? :: bs)) Q E s') t (fun d hd => ht d (List.mem_cons_of_mem _ hd)) fun fs hf => wpAny_pure (h _ (.cons ?_ hf)))
      cases xs with
      | nil =>
        have : its.toList = [] := by cases hl : its.toList with | nil => rfl | cons _ _ => rw [hl] at hr; cases hr
        have h0 : its[0]? = none := by rw [← Array.getElem?_toList, this]; rfl
        rw [h0]; rfl
      | cons x xs =>
        obtain ⟨y, ys, hl⟩ : ∃ y ys, its.toList = y :: ys := by cases hl : its.toList with | nil => rw [hl] at hr; cases hr | cons y ys => exact ⟨y, ys, rfl⟩
        have h0 : its[0]? = some y := by rw [← Array.getElem?_toList, hl]; rfl
        rw [h0]; rfl
theorem each_looks {M : Model} {vs : List Value} {ds : List PyData} (e : EachIs (fun v d => ∃ as, Reads s.heap v d as) vs ds) (ht : ∀ d ∈ ds, ∃ xs, d = .tuple xs) : ∀ v ∈ vs, Looks M s.heap (typeOf v) (.type "tuple") := fun v hv => by
  obtain ⟨d, hd, as, r⟩ := e.left v hv
  obtain ⟨xs, rfl⟩ := ht d hd
  exact looks_reads r
theorem sorts_tups {vs : List Value} {ds : List PyData} (e : EachIs (fun v d => ∃ as, Reads s.heap v d as) vs ds) (hal : AllAlike ds) (ht : ∀ d ∈ ds, ∃ xs, d = .tuple xs) (hu : ∀ d ∈ ds, A.units + d.depth < cLine) :
    SortsAt prog w A s (dataKind s.heap ds) vs := by
  by_cases hall : ∀ d ∈ ds, d ≠ .tuple []
  · refine SortsAt.data e hal (.inl fun d hd => ?_) hu
    obtain ⟨xs, rfl⟩ := ht d hd
    cases xs with
    | nil => exact absurd rfl (hall _ hd)
    | cons x r => exact ⟨x, r, rfl⟩
  have room : ∀ {d d' : PyData}, d ∈ ds → A.units + min d.depth d'.depth < cLine := fun {d d'} hd => Nat.lt_of_le_of_lt (Nat.add_le_add_left (Nat.min_le_left _ _) _) (hu d hd)
  have keys : ∀ v, v ∈ vs → ∃ a, (dataKind s.heap ds).keyOf v = some a := fun v hv => by
    obtain ⟨d, hd, as, r⟩ := e.left v hv
    exact ⟨_, dataKind_some hal hd r⟩
  have cmp : ∀ kd, (kd = general' ∨ kd = oneType') → H.LtAt prog w A s (dataKind s.heap ds) kd := fun kd hk E x y a b Q ha hb hq => by
    obtain ⟨d, as, hd, ra, rfl⟩ := dataKind_inv ha
    obtain ⟨d', bs, hd', rb, rfl⟩ := dataKind_inv hb
    have hdd := hal d hd d' hd'
    have hroom := room (d' := d') hd
    obtain ⟨xs, rfl⟩ := ht d hd
    obtain ⟨ys, rfl⟩ := ht d' hd'
    rcases hk with rfl | rfl
    · show wpAny (model prog w) A (oneLt' false x y) Q E s
      exact oneLt_alike (fun z => nomatch z) ra rb hdd (fun z => nomatch z) hroom hq
    · rw [keyLt'_oneType]
      exact one_tup ra rb (by simpa [alike] using hdd) hroom hq
  cases hds : ds with
  | nil =>
    subst hds
    exact absurd (fun d hd => by simp at hd) hall
  | cons d₀ ds₀ =>
    rw [← hds]
    have hns : ∀ fs : List (Option Value), Paired (fun f d => f.isSome = !isNil d) fs ds → (fs.toArray.all fun x => x.isSome) = false := fun fs hp => by
      rw [Bool.eq_false_iff]
      intro z
      refine hall fun d hd he => ?_
      obtain ⟨f, hf, hfd⟩ := pair_right hp hd
      have := (by simpa using z : ∀ x ∈ fs, x.isSome = true) f hf
      rw [this, he] at hfd
      cases hfd
    by_cases h0 : d₀ = .tuple []
    · refine ⟨keys, oneType', cmp _ (.inr rfl), fun h2 E Q hq => ?_⟩
      rw [kat_kind_eq, List.mapM_toArray, map_eq_pure_bind]
      refine wpAny_bind (wpAny_bind (firsts_any vs ds e ht fun fs hp => wpAny_pure ?_))
      rw [if_neg (by rw [hns fs hp]; exact Bool.false_ne_true)]
      have h1 : (fs.toArray[0]?.bind id).isSome = false := by
        rw [hds] at hp
        cases hp with
        | @cons f _ fs _ hp _ =>
          rw [h0] at hp
          cases f with
          | none => rfl
          | some y => cases hp
      rw [if_neg (by rw [h1]; exact Bool.false_ne_true), oneTypeOnly'_eq, List.mapM_toArray, map_eq_pure_bind]
      refine wpAny_bind (wpAny_bind (wpAny_bind (kas_mapM (r := .type "tuple") _ (fun v hv Q' hq => (each_looks e ht v hv).here hq) (wpAny_pure ?_))))
      obtain ⟨v₁, v₂, rest, rfl⟩ : ∃ v₁ v₂ rest, vs = v₁ :: v₂ :: rest := by
        match vs, h2 with
        | [], h2 => simp at h2
        | [_], h2 => simp at h2
        | v₁ :: v₂ :: rest, _ => exact ⟨v₁, v₂, rest, rfl⟩
      have ha : ((List.map (fun _ => Value.type "tuple") (v₁ :: v₂ :: rest)).toArray.all fun x => x == Value.type "tuple") = true := by
        simp only [List.all_toArray, List.all_map, List.all_eq_true]
        intro _ _
        simp
      have hb : (List.map (fun _ => Value.type "tuple") (v₁ :: v₂ :: rest)).toArray[0]? = some (Value.type "tuple") := by simp
      rw [hb]
      simp only [ha, if_true]
      exact wpAny_pure (wpAny_pure hq)
    · refine ⟨keys, general', cmp _ (.inl rfl), fun h2 E Q hq => ?_⟩
      rw [kat_kind_eq, List.mapM_toArray, map_eq_pure_bind]
      refine wpAny_bind (wpAny_bind (firsts_any vs ds e ht fun fs hp => wpAny_pure ?_))
      rw [if_neg (by rw [hns fs hp]; exact Bool.false_ne_true)]
      have h1 : (fs.toArray[0]?.bind id).isSome = true := by
        rw [hds] at hp
        cases hp with
        | @cons f _ fs _ hp _ =>
          cases f with
          | some y => rfl
          | none =>
            have hn : isNil d₀ = true := by
              cases q : isNil d₀ with
              | true => rfl
              | false => rw [q] at hp; cases hp
            exact absurd (isNil_iff.mp hn) h0
      rw [if_pos h1]
      exact wpAny_pure hq
end
end Co

set_option linter.all false
set_option maxRecDepth 100000
set_option autoImplicit false
/-! Core8: the other comparisons; in; items. -/
namespace Co
open PySem L2

section
variable {X : Cx} {pins : List (Addr × Obj)} {σ : St} {μ : List Addr} {H : Hp} {s : Shared} {h : Hh}

def copOf : Cop → CmpOp
  | .eq => .Eq | .ne => .NotEq | .lt => .Lt | .le => .LtE | .gt => .Gt | .ge => .GtE | .isin => .In | .notin => .NotIn
theorem copOf_of {o : Cop} {p : CmpOp} (e : copOk o p = true) : p = copOf o := by cases o <;> cases p <;> first | rfl | (simp [copOk] at e)

/-- < and the like -/
theorem cmp_ord (hu : X.A.units + 65 < cLine) {o : Cop} (ho : o = .lt ∨ o = .le ∨ o = .gt ∨ o = .ge) : OpR X (compareOp (copOf o)) (rCmp (gx X) o) := by
  intro pins s σ H x y v u Q I rx ry hr
  obtain ⟨μ, h, a, b, z, R, da, db, e, q⟩ := hr
  have e' : ordop o a b = some z := by rcases ho with rfl | rfl | rfl | rfl <;> exact e
  clear e
  unfold ordop at e'
  split at e'
  · cases e'
    cases (show x = _ from da); cases (show y = _ from db)
    rcases ho with rfl | rfl | rfl | rfl
    · exact op_lt pins s σ H _ _ v u Q I rx ry ⟨_, _, rfl, rfl, q⟩
    · exact op_le pins s σ H _ _ v u Q I rx ry ⟨_, _, rfl, rfl, q⟩
    · exact op_gt pins s σ H _ _ v u Q I rx ry ⟨_, _, rfl, rfl, q⟩
    · exact op_ge pins s σ H _ _ v u Q I rx ry ⟨_, _, rfl, rfl, q⟩
  · rename_i xs ys
    split at e'
    · rename_i hc
      cases e'
      simp only [Bool.and_eq_true, cmpOk] at hc
      obtain ⟨⟨p1, p2⟩, ⟨s1, s2⟩, al⟩ := hc
      obtain ⟨as, r1⟩ := Dat.reads I (.tup xs) x v (by simpa [pure?] using p1) da rx
      obtain ⟨bs, r2⟩ := Dat.reads I (.tup ys) y u (by simpa [pure?] using p2) db ry
      have hd : X.A.units + min (py (.tup xs)).depth (py (.tup ys)).depth < cLine := by
        have h1 := SeqAt.depth_of_shaped s1
        have h2 : min (py (.tup xs)).depth (py (.tup ys)).depth ≤ (py (.tup xs)).depth := Nat.min_le_left _ _
        omega
      rcases ho with rfl | rfl | rfl | rfl
      · exact PySem.W.rcLt_alike _ _ X.A s _ _ _ _ r1 r2 al (fun z => nomatch z) hd _ _ _ _ ⟨.bl _, H, I, rfl, q⟩
      · exact PySem.W.rcLe_alike _ _ X.A s _ _ _ _ r1 r2 al (fun z => nomatch z) hd _ _ _ _ ⟨.bl _, H, I, rfl, q⟩
      · exact PySem.W.rcGt_alike _ _ X.A s _ _ _ _ r1 r2 al (fun z => nomatch z) hd _ _ _ _ ⟨.bl _, H, I, rfl, q⟩
      · exact PySem.W.rcGe_alike _ _ X.A s _ _ _ _ r1 r2 al (fun z => nomatch z) hd _ _ _ _ ⟨.bl _, H, I, rfl, q⟩
    · cases e'
  · split at e'
    · rename_i hl
      subst hl
      cases e'
      cases (show x = _ from da); cases (show y = _ from db)
      exact op_lt_str pins s σ H _ _ v u Q I rx ry ⟨_, _, rfl, rfl, q⟩
    · cases e'
  · cases e'

theorem in_seq (hu : X.A.units + 65 < cLine) (I : Inv X pins σ H s) (R : Rl (gx X) μ H h) {a b : Res} {x y : V} {v u : Value} {z : Bool} {Q : VK} (da : DatX X.K μ H a x) (db : DatX X.K μ H b y) (rx : RelV x v) (ry : RelV y u) (e : inSeq h a b = some z) :
    (Q (.bl z) H → wpAny (model X.prog X.w) X.A (compareOp .In v u) (EP X pins σ Q) X.xe s) ∧ (Q (.bl (!z)) H → wpAny (model X.prog X.w) X.A (compareOp .NotIn v u) (EP X pins σ Q) X.xe s) := by
  unfold inSeq at e
  split at e
  · rename_i d ds e1 e2
    split at e
    · rename_i hs
      cases e
      rw [Bool.and_eq_true] at hs
      obtain ⟨as, r1, _⟩ := datR_reads I R e1 da rx
      obtain ⟨bs, r2, _⟩ := datR_reads I R e2 db ry
      have c1 : d.canLay0 = true := by have := hs.1; unfold SeqAt.shaped at this; rw [Bool.and_eq_true] at this; exact this.1
      have c2 : PyData.canLayAll0 ds = true := by have := hs.2; unfold SeqAt.shaped at this; rw [Bool.and_eq_true] at this; simpa [PyData.canLay0] using this.1
      exact ⟨fun q => SeqAt.in_list_reads r2 r1 c2 c1 (PyProof.Rows.room_in_shaped hs.1 hu) ⟨.bl _, H, I, rfl, q⟩, fun q => SeqAt.notIn_list_reads r2 r1 c2 c1 (PyProof.Rows.room_in_shaped hs.1 hu) ⟨.bl _, H, I, rfl, q⟩⟩
    · cases e
  · rename_i d ds e1 e2
    split at e
    · rename_i hs
      cases e
      rw [Bool.and_eq_true] at hs
      obtain ⟨as, r1, _⟩ := datR_reads I R e1 da rx
      obtain ⟨bs, r2, _⟩ := datR_reads I R e2 db ry
      have c1 : d.canLay0 = true := by have := hs.1; unfold SeqAt.shaped at this; rw [Bool.and_eq_true] at this; exact this.1
      have c2 : PyData.canLayAll0 ds = true := by have := hs.2; unfold SeqAt.shaped at this; rw [Bool.and_eq_true] at this; simpa [PyData.canLay0] using this.1
      exact ⟨fun q => SeqAt.in_tuple_reads r2 r1 c2 c1 (PyProof.Rows.room_in_shaped hs.1 hu) ⟨.bl _, H, I, rfl, q⟩, fun q => SeqAt.notIn_tuple_reads r2 r1 c2 c1 (PyProof.Rows.room_in_shaped hs.1 hu) ⟨.bl _, H, I, rfl, q⟩⟩
    · cases e
  · cases e
theorem is_in (hu : X.A.units + 65 < cLine) (I : Inv X pins σ H s) (R : Rl (gx X) μ H h) {a b : Res} {x y : V} {v u : Value} {z : Bool} {Q : VK} (da : DatX X.K μ H a x) (db : DatX X.K μ H b y) (rx : RelV x v) (ry : RelV y u) (e : isIn h a b = some z) :
    (Q (.bl z) H → wpAny (model X.prog X.w) X.A (compareOp .In v u) (EP X pins σ Q) X.xe s) ∧ (Q (.bl (!z)) H → wpAny (model X.prog X.w) X.A (compareOp .NotIn v u) (EP X pins σ Q) X.xe s) := by
  unfold isIn at e
  split at e
  · cases e
    cases (show x = _ from da); cases (show y = _ from db)
    exact ⟨fun q => op_in_str pins s σ H _ _ v u Q I rx ry ⟨_, _, rfl, rfl, q⟩, fun q => op_notIn_str pins s σ H _ _ v u Q I rx ry ⟨_, _, rfl, rfl, q⟩⟩
  · split at e
    · rename_i hl
      split at e
      · split at e
        · rename_i hk
          cases e
          exact ⟨fun q => dict_in hu I R hl hk db da ry rx q, fun q => dict_notIn hu I R hl hk db da ry rx q⟩
        · cases e
      · cases e
    · exact in_seq hu I R da db rx ry e
  · exact in_seq hu I R da db rx ry e
theorem cmp_isin (hu : X.A.units + 65 < cLine) : OpR X (compareOp .In) (rCmp (gx X) .isin) := by
  intro pins s σ H x y v u Q I rx ry hr
  obtain ⟨μ, h, a, b, z, R, da, db, e, q⟩ := hr
  exact (is_in hu I R da db rx ry e).1 q
theorem cmp_notin (hu : X.A.units + 65 < cLine) : OpR X (compareOp .NotIn) (rCmp (gx X) .notin) := by
  intro pins s σ H x y v u Q I rx ry hr
  obtain ⟨μ, h, a, b, z, R, da, db, e, q⟩ := hr
  simp only [cmpop] at e
  cases ez : isIn h a b with
  | none => rw [ez] at e; cases e
  | some k =>
    rw [ez] at e; cases e
    exact (is_in hu I R da db rx ry ez).2 q
theorem cmp_ok (hu : X.A.units + 65 < cLine) (o : Cop) : OpR X (compareOp (copOf o)) (rCmp (gx X) o) := by
  cases o
  · exact cmp_eq hu
  · exact cmp_ne hu
  · exact cmp_ord hu (.inl rfl)
  · exact cmp_ord hu (.inr (.inl rfl))
  · exact cmp_ord hu (.inr (.inr (.inl rfl)))
  · exact cmp_ord hu (.inr (.inr (.inr rfl)))
  · exact cmp_isin hu
  · exact cmp_notin hu
end
end Co

set_option linter.all false
set_option maxRecDepth 100000
set_option autoImplicit false
/-! Core9: items, slices. -/
namespace Co
open PySem L2

section
variable {X : Cx} {pins : List (Addr × Obj)} {σ : St} {μ : List Addr} {H : Hp} {s : Shared} {h : Hh}

theorem Dats.atI {K : PySem.W.Frag} {ds : List D} {xs : List V} {i : Int} {d : D} (x : Dats K μ H ds xs) (e : L2.atI ds i = some d) : ∃ v, L2.atI xs i = some v ∧ Dat K μ H d v := by
  unfold L2.atI at e ⊢
  rw [x.length]
  cases q : L2.ixN ds.length i with
  | none => rw [q] at e; cases e
  | some j => rw [q] at e; exact x.get e

def rIx (G : Ctx) : R2 := fun x y H Q => ∃ μ h a b d, Rl G μ H h ∧ DatX G.K μ H a x ∧ DatX G.K μ H b y ∧ item h a b = some d ∧ ∀ z, Dat G.K μ H d z → Q z H
theorem item_cases {h : Hh} {a b : Res} {d : D} (e : item h a b = some d) :
    (∃ n kvs k, a = .v (.ref n) ∧ b = .v k ∧ look h n = some (.dct kvs) ∧ keysFit kvs k = true ∧ dget kvs k = some d) ∨ ∃ xs i, b = .v (.int i) ∧ seqOf h a = some xs ∧ L2.atI xs i = some d := by
  unfold item at e
  split at e
  · split at e
    · split at e
      · exact .inl ⟨_, _, _, rfl, rfl, ‹_›, ‹_›, e⟩
      · cases e
    · split at e
      · exact .inr ⟨_, _, rfl, ‹_›, e⟩
      · cases e
  · split at e
    · exact .inr ⟨_, _, rfl, ‹_›, e⟩
    · cases e
  · cases e
theorem dict_obj {G : Ctx} (R : Rl G μ H h) (hok : HOk G.P G.w H s.heap) {n : Nat} {kvs : List (D × D)} {x : V} {v : Value} (e : look h n = some (.dct kvs)) (dx : Dat G.K μ H (.ref n) x) (rx : RelV x v) : s.TypeIs v "dict" := by
  obtain ⟨p, rfl, ep⟩ := dx
  cases rx
  obtain ⟨q, eq, m, ok⟩ := R.place e
  rw [ep] at eq; cases eq
  rcases ok with ⟨ks, e1, e2⟩ | ⟨xs, e1, _⟩
  · obtain ⟨_, _, vs, _, o, es, ep', ho, hx, _⟩ := hok p _ e1
    exact ⟨o, ho, hx.1⟩
  · obtain ⟨⟨o, es, ep', ho, hx, _⟩, _⟩ := hok p _ e1
    exact ⟨o, ho, hx.1⟩
theorem ix_ok (hu : X.A.units + 65 < cLine) : IxR X (rIx (gx X)) := by
  intro value slice pins s σ H x y v u Q I rx ry hr hs
  obtain ⟨μ, h, a, b, d, R, da, db, e, q⟩ := hr
  rcases item_cases e with ⟨n, kvs, k, rfl, rfl, hl, hk, hg⟩ | ⟨xs, i, rfl, hl, hg⟩
  · exact PyProof.Rows.tail_any (dict_obj R I.hok hl da rx) slot_dict_getitem.lookup (dict_get hu I R hl hk hg da db rx ry q) hs
  · cases (show y = _ from db)
    obtain ⟨p, vs, rfl, hq, hd⟩ := seqOf_ok R da hl
    obtain ⟨w', e1, e2⟩ := hd.atI hg
    rcases hq with hq | hq
    · exact ix_list value slice pins s σ H _ _ v u Q I rx ry ⟨p, vs, i, w', rfl, rfl, hq, e1, q _ e2⟩ hs
    · exact ix_tup value slice pins s σ H _ _ v u Q I rx ry ⟨p, vs, i, w', rfl, rfl, hq, e1, q _ e2⟩ hs
/-- the same, of a list or dict, ahead of a store -/
def rGet (G : Ctx) : R2 := fun x y H Q => ∃ μ h a b d, Rl G μ H h ∧ DatX G.K μ H a x ∧ DatX G.K μ H b y ∧ item h a b = some d ∧ (∀ xs, a ≠ .v (.tup xs)) ∧ ∀ z, Dat G.K μ H d z → Q z H
theorem get_ok (hu : X.A.units + 65 < cLine) : PGet X (rGet (gx X)) := by
  intro pins s σ H x y v u Q I rx ry hr
  obtain ⟨μ, h, a, b, d, R, da, db, e, ht, q⟩ := hr
  rcases item_cases e with ⟨n, kvs, k, rfl, rfl, hl, hk, hg⟩ | ⟨xs, i, rfl, hl, hg⟩
  · exact dict_get hu I R hl hk hg da db rx ry q
  · cases (show y = _ from db)
    have hl' : listOf h a = some xs := by
      cases a with
      | f ds => exact hl
      | v d =>
        cases d with
        | tup ys => exact absurd rfl (ht ys)
        | _ => exact hl
    obtain ⟨p, vs, rfl, hq, hd⟩ := listOf_ok R da hl'
    obtain ⟨w', e1, e2⟩ := hd.atI hg
    cases rx
    obtain ⟨t, rfl⟩ := ry
    obtain ⟨its, r, pl, hz⟩ := I.list hq
    obtain ⟨j, h1, h2, h3, h4, h5⟩ := atI_get e1
    obtain ⟨w2, ew, rw'⟩ := r.get h2
    have hl := r.length
    have hn := line63
    have fin : EP X pins σ Q w2 s := ⟨w', H, I, rw', q _ e2⟩
    by_cases h0 : 0 ≤ i
    · have hj : i.toNat = j := by
        rw [seqIndex_of h0 h5] at h1
        exact Option.some.inj h1
      exact wpAny_getItem_list pl.isList h0 (by omega) (by rw [hj]; simpa using ew) fin
    · have hj : (i + (its.toArray.size : Int)).toNat = j := by
        rw [seqIndex_neg (by omega) h4] at h1
        rw [List.size_toArray, ← hl]
        exact Option.some.inj h1
      exact wpAny_getItem_list_neg pl.isList (by omega) (by rw [List.size_toArray] <;> omega) (by omega) (by rw [hj]; simpa using ew) fin
/-- a[i] = v -/
def rSet (G : Ctx) : TSet := fun x y z H Q => ∃ μ h a b d h', Rl G μ H h ∧ Dat G.K μ H a x ∧ Dat G.K μ H b y ∧ Dat G.K μ H d z ∧ setItem? h a b d = some h' ∧ ∀ H', Nxt μ H μ H' → Rl G μ H' h' → Q H'
theorem set_ok (hu : X.A.units + 65 < cLine) : PSet X (rSet (gx X)) := by
  intro pins s σ H x y z v u w' Q I rx ry rz hr
  obtain ⟨μ, h, a, b, d, h', R, da, db, dd, e, q⟩ := hr
  unfold setItem? at e
  split at e
  · split at e
    · rename_i n xs hl
      split at e
      · rename_i i
        split at e
        · rename_i j hj
          cases e
          obtain ⟨p, vs, rfl, ep, hm, hp, hd⟩ := lst_at R hl da
          cases (show y = _ from db)
          unfold ixN? at hj
          rw [← hd.length] at hj
          refine L2.set_list pins s σ H _ _ z v u w' Q I rx ry rz ⟨p, vs, i, j, rfl, rfl, hp, hj, q _ (.wrote hm) (R.wrote ep ⟨_, upd_same, ?_⟩)⟩
          exact Dats.next R.free (.wrote hm) (Dats.set (i := j) dd j hd)
        · cases e
      · cases e
    · rename_i n kvs hl
      split at e
      · rename_i hc
        cases e
        rw [Bool.and_eq_true] at hc
        exact dict_set hu I R hl hc.1 (small_lt hc.2) da db dd rx ry rz q
      · cases e
    · cases e
  · cases e

/-- a[lo:hi] -/
def rSl (G : Ctx) : V → Option Int → Option Int → Hp → VK → Prop := fun x lo hi H Q => ∃ μ h a z, Rl G μ H h ∧ DatX G.K μ H a x ∧ slice h a lo hi = some z ∧ Aft G μ H z h Q
theorem cut_whole {ds : List D} {lo hi : Option Int} (h1 : HT.sIx ds.length 0 lo = 0) (h2 : HT.sIx ds.length ds.length hi = ds.length) : cutD ds lo hi = ds := by
  unfold cutD; rw [h1, h2]; simp
theorem sl_ok : SlR X (rSl (gx X)) := by
  intro pins s σ H x v vl vu lo hi sl Q I rx hs pl pu hr
  obtain ⟨μ, h, a, z, R, da, e, q⟩ := hr
  unfold slice at e
  split at e
  · rename_i ds
    cases e
    obtain ⟨p, xs, rfl, e2, e3⟩ := da
    cases rx
    obtain ⟨its, r, ht, hz⟩ := I.tuple e2.sq
    have hlen : its.toArray.size = xs.length := by rw [List.size_toArray]; exact r.length.symm
    refine ⟨"tuple", _, PyProof.Rows.slot_tuple_getitem.lookup, ht.typeIs, ?_⟩
    by_cases hw : HT.sIx xs.length 0 lo = 0 ∧ HT.sIx xs.length xs.length hi = xs.length
    · have hw' := hw
      rw [e3.length] at hw'
      rw [cut_whole hw'.1 hw'.2] at q
      exact getItem_tuple_whole ht hs pl pu (by rw [hlen]; exact hw) ⟨.ref p, H, I, rfl, q.val R ⟨p, xs, rfl, e2, e3⟩⟩
    · refine HT.getItem_tuple_cut ht hs pl pu (by rw [hlen]; exact hw) ?_ (by rw [hlen]; exact hz)
      rw [hlen]
      exact tup_laid I ((r.drop _).take _) (Nat.le_trans (cutV_length xs lo hi) hz) _ q R e3.cut
  · split at e
    · rename_i hl
      cases e
      obtain ⟨p, xs, rfl, hq, hd⟩ := listOf_ok R da hl
      exact sl_list pins s σ H _ v vl vu lo hi sl Q I rx hs pl pu ⟨p, xs, rfl, hq, fun p hp => q.list R hd.cut hp⟩
    · cases e
end
end Co

set_option linter.all false
set_option maxRecDepth 100000
set_option autoImplicit false
/-! Core10: builtin functions. -/
namespace Co
open PySem L2

theorem pys_map : ∀ ds : List D, pys ds = ds.map py
  | [] => rfl
  | d :: ds => by rw [pys, pys_map ds]; rfl
theorem leD_eq : PySem.W.dataLe false py = leD := rfl

section
variable {X : Cx} {pins : List (Addr × Obj)} {σ : St} {μ : List Addr} {H : Hp} {s : Shared} {h : Hh}

/-- a value of the machine and a value of ours -/
def IsD (K : PySem.W.Frag) (μ : List Addr) (H : Hp) (u : Value) (d : D) : Prop := ∃ v, RelV v u ∧ Dat K μ H d v
theorem each_of {K : PySem.W.Frag} : ∀ {ds : List D} {xs : List V} {us : List Value}, Dats K μ H ds xs → Vals xs us → PySem.W.EachIs (IsD K μ H) us ds
  | [], _, _, x, r => by rw [show _ = [] from x] at r; cases r; exact .nil
  | d :: ds, _, _, x, r => by
    obtain ⟨v, xs, rfl, e2, e3⟩ := x
    cases r with
    | cons r1 r2 => exact .cons ⟨v, r1, e2⟩ (each_of e3 r2)
theorem of_each {K : PySem.W.Frag} : ∀ {us : List Value} {ds : List D}, PySem.W.EachIs (IsD K μ H) us ds → ∃ xs, Dats K μ H ds xs ∧ Vals xs us
  | _, _, .nil => ⟨[], rfl, .nil⟩
  | _, _, .cons ⟨v, r, x⟩ t => let ⟨xs, a, b⟩ := of_each t; ⟨v :: xs, .cons x a, .cons r b⟩
theorem each_imp {α β : Type} {R S : α → β → Prop} : ∀ {as : List α} {bs : List β}, (∀ a b, b ∈ bs → R a b → S a b) → PySem.W.EachIs R as bs → PySem.W.EachIs S as bs
  | _, _, _, .nil => .nil
  | _, _, f, .cons r t => .cons (f _ _ List.mem_cons_self r) (each_imp (fun a b hb => f a b (List.mem_cons_of_mem _ hb)) t)

theorem alike_tup {x y : PyData} {xs : List PyData} (h : PySem.W.alike x y = true) (e : x = .tuple xs) : ∃ ys, y = .tuple ys := by
  subst e
  cases y <;> first | exact ⟨_, rfl⟩ | (simp [PySem.W.alike] at h)

/-- sorted(r), by what collecting r gives -/
theorem sorted_ok (hu : X.A.units + 70 < cLine) {ds ds' : List D} {r : Addr} {Q : VK} (I : Inv X pins σ H s) (R : Rl (gx X) μ H h) (hs : sortD ds = some ds') (q : Aft (gx X) μ H (.f ds') h Q)
    (hcol : ∀ (P : List Value → Shared → Prop) (E : Value → Shared → Prop), (∀ h' tk us xs, (∀ b o, s.heap.get? b = some o → h'.get? b = some o) → Vals xs us → Dats X.K μ H ds xs → P us { s with heap := h', toks := tk }) → wpAny (model X.prog X.w) X.A.in1 (collect (.ref r)) P E s) :
    wpAny (model X.prog X.w) X.A (call (.builtin "sorted") [.ref r]) (EP X pins σ Q) X.xe s := by
  unfold sortD at hs
  split at hs
  case isFalse => cases hs
  rename_i hok
  cases hs
  unfold sortOk at hok
  simp only [Bool.and_eq_true] at hok
  obtain ⟨⟨⟨hp, hal⟩, hnn⟩, hsm⟩ := hok
  have hz := small_iff hsm
  refine Calls.call_function_entry PyProof.Rows.kind_sorted PyProof.Rows.plain_sorted PyProof.Rows.entry_sorted (PyProof.Rows.args_sorted1 _) ?_
  unfold Builtin.«sorted»
  refine wpAny_bind (m := checkCount "sorted" 1 1 _) (wpAny_pure ?_)
  refine wpAny_bind (hcol _ _ fun h' tk us xs hk rv hd => ?_)
  have hlen : us.length = ds.length := by rw [← rv.length, hd.length]
  have I1 : Inv X pins σ H { s with heap := h', toks := tk } := I.kept hk
  refine wpAny_bind (wpAny_newList ?_ (by rw [hlen]; exact hz))
  have hoL : (h'.push (PyProof.Rows.seqObj "list" us.toArray 0)).get? h'.objs.size = some (PyProof.Rows.seqObj "list" us.toArray 0) := Heap.get?_push_size _ rfl
  have hold : ∀ b o, h'.get? b = some o → (PySem.W.sortingHeap (h'.push (PyProof.Rows.seqObj "list" us.toArray 0)) h'.objs.size us).get? b = some o := fun b o e =>
    PySem.W.sortingHeap_old (Nat.ne_of_lt (Heap.lt_size e)) (Heap.get?_push_of_some _ e)
  have I2 : Inv X pins σ H { s with heap := PySem.W.sortingHeap (h'.push (PyProof.Rows.seqObj "list" us.toArray 0)) h'.objs.size us, toks := tk } := I1.kept (t' := tk) hold
  have hmem : ∀ d, d ∈ ds → pure? d = true ∧ SeqAt.shaped (py d) = true := fun d hd => by
    have := List.all_eq_true.mp hp d hd
    simpa [Bool.and_eq_true] using this
  have er : PySem.W.EachIs (fun v b => ∃ as, Reads (PySem.W.sortingHeap (h'.push (PyProof.Rows.seqObj "list" us.toArray 0)) h'.objs.size us) v (py b) as) us ds :=
    each_imp (fun u d hm ⟨v, r1, r2⟩ => Dat.reads I2 d v u (hmem d hm).1 r2 r1) (each_of hd rv)
  have er' : PySem.W.EachIs (fun v d => ∃ as, Reads (PySem.W.sortingHeap (h'.push (PyProof.Rows.seqObj "list" us.toArray 0)) h'.objs.size us) v d as) us (ds.map py) := PySem.W.each_map py er
  have hal' : PySem.W.AllAlike (ds.map py) := fun a ha b hb => by
    obtain ⟨a, h1, rfl⟩ := List.mem_map.mp ha
    obtain ⟨b, h2, rfl⟩ := List.mem_map.mp hb
    exact List.all_eq_true.mp (List.all_eq_true.mp hal a h1) b h2
  have hu' : ∀ d ∈ ds.map py, X.A.in1.in1.units + d.depth < cLine := fun d hd => by
    obtain ⟨b, h2, rfl⟩ := List.mem_map.mp hd
    have h1 := SeqAt.depth_of_shaped (hmem b h2).2
    show X.A.units + 1 + 1 + _ < cLine
    omega
  have S : PySem.W.SortsAt X.prog X.w X.A.in1.in1 { s with heap := PySem.W.sortingHeap (h'.push (PyProof.Rows.seqObj "list" us.toArray 0)) h'.objs.size us, toks := tk } (PySem.W.dataKind (PySem.W.sortingHeap (h'.push (PyProof.Rows.seqObj "list" us.toArray 0)) h'.objs.size us) (ds.map py)) us := by
    by_cases ht : ∃ d ∈ ds.map py, ∃ xs, d = .tuple xs
    · obtain ⟨d, hd1, xs, hd2⟩ := ht
      exact sorts_tups er' hal' (fun d' hd' => alike_tup (hal' d hd1 d' hd') hd2) hu'
    · refine PySem.W.SortsAt.data er' hal' (.inr fun d hd => ⟨?_, fun xs e => ht ⟨d, hd, xs, e⟩⟩) hu'
      obtain ⟨b, h2, rfl⟩ := List.mem_map.mp hd
      have := List.all_eq_true.mp hnn b h2
      intro e
      cases b with
      | non => simp at this
      | ref n => have := (hmem _ h2).1; simp [pure?] at this
      | _ => simp [py] at e
  have out := PySem.W.sortVals_data (enc := py) (R := IsD X.K μ H) false (each_of hd rv) er hal'
  obtain ⟨ys, d1, v1⟩ := of_each out
  refine wpAny_bind (wpAny_holding (wpAny_call_entry PyProof.Rows.slot_list_sort ⟨_, hoL, rfl⟩ PyProof.Rows.entry_list_sort (PySem.W.list_sort_vals (s := { s with heap := h'.push (PyProof.Rows.seqObj "list" us.toArray 0), toks := tk }) hoL S (by rw [hlen]; exact hz) ⟨_, rfl, ?_⟩) (PyProof.Rows.args_list_sort _)))
  obtain ⟨e', he'⟩ := PyProof.Rows.sortedHeap_at (vs := us) (out := (PySem.W.sortVals (PySem.W.dataKind (PySem.W.sortingHeap (h'.push (PyProof.Rows.seqObj "list" us.toArray 0)) h'.objs.size us) (ds.map py)) false us us).toArray) hoL
  have hl2 : ys.length ≤ sizeLine := by rw [d1.length, List.length_mergeSort]; exact hz
  refine wpAny_pure ⟨_, rfl, .ref h'.objs.size, upd H h'.objs.size (.lst ys), I1.laid (t' := tk) (fun b u e => ?_) (Nat.le_refl _) (show ObjOk X.prog X.w _ _ _ (.lst ys) from ⟨hl2, _, e', v1, he'⟩), rfl, q.list R d1 (I1.hok.fresh (Nat.le_refl _))⟩
  have hb : b < h'.objs.size := Heap.lt_size e
  rw [PyProof.Rows.sortedHeap_old (Nat.ne_of_lt hb) (by rw [PyProof.Rows.size_push']; exact Nat.lt_succ_of_lt hb)]
  exact Heap.get?_push_of_some _ e
end
end Co

set_option linter.all false
set_option maxRecDepth 100000
set_option autoImplicit false
/-! Core11: builtin functions, by values. -/
namespace Co
open PySem L2

def DatXs (K : PySem.W.Frag) (μ : List Addr) (H : Hp) : List Res → List V → Prop
  | [], xs => xs = []
  | r :: rs, xs => ∃ v t, xs = v :: t ∧ DatX K μ H r v ∧ DatXs K μ H rs t

section
variable {X : Cx} {pins : List (Addr × Obj)} {σ : St} {μ : List Addr} {H : Hp} {s : Shared} {h : Hh}

theorem DatXs.one {K : PySem.W.Frag} {r : Res} {xs : List V} (x : DatXs K μ H [r] xs) : ∃ v, xs = [v] ∧ DatX K μ H r v := by
  obtain ⟨v, t, rfl, h1, h2⟩ := x
  rw [show t = [] from h2]
  exact ⟨v, rfl, h1⟩
theorem DatXs.two {K : PySem.W.Frag} {r q : Res} {xs : List V} (x : DatXs K μ H [r, q] xs) : ∃ v w, xs = [v, w] ∧ DatX K μ H r v ∧ DatX K μ H q w := by
  obtain ⟨v, t, rfl, h1, h2⟩ := x
  obtain ⟨w, rfl, h3⟩ := DatXs.one h2
  exact ⟨v, w, rfl, h1, h3⟩

/-- a dict's place -/
theorem dct_at (I : Inv X pins σ H s) (R : Rl (gx X) μ H h) {n : Nat} {kvs : List (D × D)} {v : V} (e : look h n = some (.dct kvs)) (x : Dat X.K μ H (.ref n) v) :
    ∃ p, v = .ref p ∧ μ[n]? = some p ∧ p ∈ μ ∧ ((∃ ks, H p = some (.dK ks) ∧ Paired (PairK (gx X) μ H) kvs ks) ∨
      ∃ xs, H p = some (DN X.prog X.w p xs) ∧ s.heap.DictOfH (nestedKind X.prog X.w) p xs ∧ xs ≠ [] ∧ xs.length ≤ sizeLine ∧ (p == sysModules) = false ∧ Paired (PairN (gx X) μ H) kvs xs) := by
  obtain ⟨p, rfl, ep⟩ := x
  obtain ⟨q, eq, m, ok⟩ := R.place e
  rw [ep] at eq; cases eq
  refine ⟨p, rfl, ep, m, ?_⟩
  rcases ok with ok | ⟨xs, e1, hz, hl, hs, nd, e2⟩
  · exact .inl ok
  · obtain ⟨⟨o, es, ep', ho, hx, hd, he⟩, _⟩ := I.hok p _ e1
    refine .inr ⟨xs, e1, ⟨o, es, ep', ho, hx, hd, he, fun y hy => ?_, nd⟩, hz, hl, hs, e2⟩
    obtain ⟨a, ha, h1, h2, h3, _⟩ := pair_right e2 hy
    exact ⟨nk_is I _ _ _ _ h1 h3 rfl, h2⟩
theorem dat_key {K : PySem.W.Frag} (k : Key) : Dat K μ H (keyD k) (kV k) := by cases k <;> rfl
theorem keys_vals {ks : List (Key × V)} {vs : List (Key × Value)} {es : List DictEntry} (kv : KV ks vs) : Pairs (mixKind X.prog X.w) es vs → Vals (ks.map fun k => kV k.1) (es.map (·.key)) := by
  intro hp
  unfold KV at kv
  induction kv generalizing es with
  | nil => cases hp; exact .nil
  | cons h1 h2 ih =>
    cases hp with
    | cons k1 k2 k3 => exact .cons (show RelV (kV _) _ by rw [h1.1]; exact keyIs_rel k1) (ih k3)
theorem keys_dats {K : PySem.W.Frag} {G : Ctx} : ∀ {kvs : List (D × D)} {ks : List (Key × V)}, Paired (PairK G μ H) kvs ks → Dats K μ H (kvs.map (·.1)) (ks.map fun k => kV k.1)
  | _, _, .nil => rfl
  | _, _, .cons (a := a) (b := b) h1 t => Dats.cons (by have e : a.1 = keyD b.1 := h1.1; show Dat K μ H a.1 (kV b.1); rw [e]; exact dat_key _) (keys_dats t)
theorem nkeys_dats {G : Ctx} : ∀ {kvs : List (D × D)} {xs : List (NestedKey × Addr × Value)}, Paired (PairN G μ H) kvs xs → Dats G.K μ H (kvs.map (·.1)) (xs.map fun x => V.ref x.2.1)
  | _, _, .nil => rfl
  | _, _, .cons h1 t => Dats.cons h1.2.2.1 (nkeys_dats t)
theorem refs_vals {α : Type} (f : α → Addr) : ∀ xs : List α, Vals (xs.map fun x => V.ref (f x)) (xs.map fun x => Value.ref (f x))
  | [] => .nil
  | x :: xs => .cons rfl (refs_vals f xs)
/-- the keys of a dict, as they stand -/
theorem dct_keys (I : Inv X pins σ H s) (R : Rl (gx X) μ H h) {n : Nat} {kvs : List (D × D)} {v : V} (e : look h n = some (.dct kvs)) (x : Dat X.K μ H (.ref n) v) :
    ∃ p o es ep xs, v = .ref p ∧ s.heap.get? p = some o ∧ o.ExactDict ∧ o.data = .dict es ep ∧ (p == sysModules) = false ∧ es.size ≤ sizeLine ∧ es.size = kvs.length ∧ Dats X.K μ H (kvs.map (·.1)) xs ∧ Vals xs (es.toList.map (·.key)) := by
  obtain ⟨p, rfl, _, _, c⟩ := dct_at I R e x
  rcases c with ⟨ks, e1, e2⟩ | ⟨xs, e1, ⟨o, es, ep, ho, hx, hd, he, _⟩, _, hl, hs, e2⟩
  · obtain ⟨z, hs, vs, kv, o, es, ep, ho, hx, hd, _, hp, _⟩ := I.hok p _ e1
    have hv := keys_vals kv hp
    have h1 := hv.length
    have h2 := Paired.length e2
    simp only [List.length_map, Array.length_toList] at h1
    exact ⟨p, o, es, ep, _, rfl, ho, hx, hd, hs, by omega, by omega, keys_dats e2, hv⟩
  · have h1 : es.size = xs.length := by rw [← Array.length_toList, he, List.length_map]
    have h2 := Paired.length e2
    refine ⟨p, o, es, ep, _, rfl, ho, hx, hd, hs, by omega, by omega, nkeys_dats e2, ?_⟩
    have h3 : (es.toList.map (·.key)) = xs.map fun x => Value.ref x.2.1 := by rw [he, List.map_map]; rfl
    rw [h3]
    exact refs_vals _ _
theorem items_keys {es : Array DictEntry} {acc : Array Value} (it : PySem.ItemsOf (fun i v => ∃ en : DictEntry, es[i]? = some en ∧ v = en.key) acc es.size) : acc.toList = es.toList.map (·.key) := by
  refine List.ext_getElem? fun j => ?_
  rw [List.getElem?_map, Array.getElem?_toList, Array.getElem?_toList]
  cases hj : acc[j]? with
  | none =>
    have h1 := Array.getElem?_eq_none_iff.mp hj
    rw [it.1] at h1
    rw [Array.getElem?_eq_none h1]
    rfl
  | some v =>
    obtain ⟨en, h1, rfl⟩ := it.2 j v hj
    rw [h1]; rfl

def rBi (G : Ctx) (b : Bi) : List V → Hp → VK → Prop := fun xs H Q => ∃ μ h rs z h', Rl G μ H h ∧ DatXs G.K μ H rs xs ∧ bltn b h rs = some (z, h') ∧ Aft G μ H z h' Q
theorem iter_cases {h : Hh} {r : Res} {ds : List D} (e : iterOf h r = some ds) : seqOf h r = some ds ∨ ∃ n kvs, r = .v (.ref n) ∧ look h n = some (.dct kvs) ∧ ds = kvs.map (·.1) := by
  unfold iterOf at e
  split at e
  · cases e; exact .inl ‹_›
  · unfold keysOf at e
    split at e
    · split at e
      · cases e; exact .inr ⟨_, _, rfl, ‹_›, rfl⟩
      · cases e
    · cases e


theorem bi_len : CallR X (.builtin "len") (rBi (gx X) .len) := by
  intro pins s σ H xs us Q I r hr
  obtain ⟨μ, h, rs, z, h', R, d, e, q⟩ := hr
  replace e : biLen h rs = some (z, h') := e
  unfold biLen at e
  split at e
  case h_2 => cases e
  obtain ⟨v, rfl, dx⟩ := d.one
  split at e
  · split at e
    · cases e
      cases (show v = _ from dx)
      exact call_len_str pins s σ H _ us Q I r ⟨_, rfl, small_iff ‹_›, q.val R rfl⟩
    · cases e
  · split at e
    · rename_i hi
      cases e
      rcases iter_cases hi with hs | ⟨n, kvs, rfl, hl, rfl⟩
      · obtain ⟨p, ys, rfl, hq, hd⟩ := seqOf_ok R dx hs
        exact call_len_seq pins s σ H _ us Q I r ⟨p, ys, rfl, hq, q.val R (by rw [hd.length]; rfl)⟩
      · obtain ⟨u, rfl, rx⟩ := L2.vals1 r
        obtain ⟨p, rfl, _, _, c⟩ := dct_at I R hl dx
        cases rx
        rw [List.length_map] at q
        rcases c with ⟨ks, e1, e2⟩ | ⟨ks, e1, hd, _, hz, hs, e2⟩
        · exact d_len I (.inl e1) fun t s' I' => ⟨.int _, H, I', ⟨t, rfl⟩, q.val R (by rw [Paired.length e2]; rfl)⟩
        · have hn := line63
          exact call_len_dictH hs hd (by omega) ⟨.int _, H, I.tok _, ⟨_, rfl⟩, q.val R (by rw [Paired.length e2]; rfl)⟩
    · cases e
theorem bi_abs : CallR X (.builtin "abs") (rBi (gx X) .abs) := by
  intro pins s σ H xs us Q I r hr
  obtain ⟨μ, h, rs, z, h', R, d, e, q⟩ := hr
  replace e : biAbs h rs = some (z, h') := e
  unfold biAbs at e
  split at e
  case h_2 => cases e
  cases e
  obtain ⟨v, rfl, dx⟩ := d.one
  cases (show v = _ from dx)
  exact call_abs pins s σ H _ us Q I r ⟨_, rfl, q.val R rfl⟩
theorem bi_int : CallR X (.type "int") (rBi (gx X) .int) := by
  intro pins s σ H xs us Q I r hr
  obtain ⟨μ, h, rs, z, h', R, d, e, q⟩ := hr
  replace e : biInt h rs = some (z, h') := e
  unfold biInt at e
  split at e
  · cases e
    obtain ⟨v, rfl, dx⟩ := d.one
    cases (show v = _ from dx)
    exact call_int1 pins s σ H _ us Q I r (.inl ⟨_, rfl, q.val R rfl⟩)
  · cases e
    obtain ⟨v, rfl, dx⟩ := d.one
    cases (show v = _ from dx)
    exact call_int1 pins s σ H _ us Q I r (.inr ⟨_, rfl, q.val R rfl⟩)
  · obtain ⟨v, rfl, dx⟩ := d.one
    cases (show v = _ from dx)
    split at e
    · split at e
      · cases e
        exact call_int_str pins s σ H _ us Q I r ⟨_, _, rfl, ‹_›, of_decide_eq_true ‹_›, q.val R rfl⟩
      · cases e
    · cases e
  · cases e
theorem intsD_map : ∀ {ds : List D} {ns : List Int}, intsD ds = some ns → ds = ns.map D.int
  | [], ns, e => by cases e; rfl
  | .int i :: r, ns, e => by
    simp only [intsD] at e
    cases q : intsD r with
    | none => rw [q] at e; cases e
    | some ms => rw [q] at e; cases e; rw [intsD_map q]; rfl
  | .non :: r, ns, e => by simp [intsD] at e
  | .bl _ :: r, ns, e => by simp [intsD] at e
  | .str _ :: r, ns, e => by simp [intsD] at e
  | .tup _ :: r, ns, e => by simp [intsD] at e
  | .fl _ :: r, ns, e => by simp [intsD] at e
  | .ref _ :: r, ns, e => by simp [intsD] at e
theorem bools_map : ∀ {ds : List D} {ns : List Bool}, bools ds = some ns → ds = ns.map D.bl
  | [], ns, e => by cases e; rfl
  | .bl i :: r, ns, e => by
    simp only [bools] at e
    cases q : bools r with
    | none => rw [q] at e; cases e
    | some ms => rw [q] at e; cases e; rw [bools_map q]; rfl
  | .non :: r, ns, e => by simp [bools] at e
  | .int _ :: r, ns, e => by simp [bools] at e
  | .str _ :: r, ns, e => by simp [bools] at e
  | .tup _ :: r, ns, e => by simp [bools] at e
  | .fl _ :: r, ns, e => by simp [bools] at e
  | .ref _ :: r, ns, e => by simp [bools] at e
theorem dats_ints {K : PySem.W.Frag} : ∀ {ns : List Int} {xs : List V}, Dats K μ H (ns.map D.int) xs → xs = ns.map V.int
  | [], _, x => x
  | n :: ns, _, x => by obtain ⟨v, r, rfl, h1, h2⟩ := x; rw [dats_ints h2, show v = _ from h1]; rfl
theorem dats_bools {K : PySem.W.Frag} : ∀ {ns : List Bool} {xs : List V}, Dats K μ H (ns.map D.bl) xs → xs = ns.map V.bl
  | [], _, x => x
  | n :: ns, _, x => by obtain ⟨v, r, rfl, h1, h2⟩ := x; rw [dats_bools h2, show v = _ from h1]; rfl
theorem ints1_ok {r : Res} {v : V} {ns : List Int} (R : Rl (gx X) μ H h) (dx : DatX X.K μ H r v) (e : ints1 h r = some ns) : ∃ p, v = .ref p ∧ SqL X.K H p (ns.map V.int) := by
  unfold ints1 at e
  split at e
  · obtain ⟨p, xs, rfl, hq, hd⟩ := listOf_ok R dx ‹_›
    have := intsD_map e
    subst this
    rw [dats_ints hd] at hq
    exact ⟨p, rfl, hq⟩
  · cases e
theorem bools1_ok {r : Res} {v : V} {ns : List Bool} (R : Rl (gx X) μ H h) (dx : DatX X.K μ H r v) (e : bools1 h r = some ns) : ∃ p, v = .ref p ∧ SqL X.K H p (ns.map V.bl) := by
  unfold bools1 at e
  split at e
  · obtain ⟨p, xs, rfl, hq, hd⟩ := listOf_ok R dx ‹_›
    have := bools_map e
    subst this
    rw [dats_bools hd] at hq
    exact ⟨p, rfl, hq⟩
  · cases e
theorem foldl_max (ns : List Int) : ∀ x : Int, (ns.foldl max x = x ∨ ns.foldl max x ∈ ns) ∧ x ≤ ns.foldl max x ∧ ∀ y ∈ ns, y ≤ ns.foldl max x := by
  induction ns with
  | nil => intro x; exact ⟨.inl rfl, Int.le_refl _, fun _ h => nomatch h⟩
  | cons n ns ih =>
    intro x
    obtain ⟨h1, h2, h3⟩ := ih (max x n)
    rw [List.foldl_cons]
    refine ⟨?_, by omega, fun y hy => ?_⟩
    · rcases h1 with h1 | h1
      · rw [h1]
        rcases Int.le_total x n with q | q
        · right; rw [Int.max_eq_right q]; exact List.mem_cons_self
        · left; rw [Int.max_eq_left q]
      · right; exact List.mem_cons_of_mem _ h1
    · rcases List.mem_cons.mp hy with rfl | hy
      · omega
      · exact h3 y hy
theorem foldl_min (ns : List Int) : ∀ x : Int, (ns.foldl min x = x ∨ ns.foldl min x ∈ ns) ∧ ns.foldl min x ≤ x ∧ ∀ y ∈ ns, ns.foldl min x ≤ y := by
  induction ns with
  | nil => intro x; exact ⟨.inl rfl, Int.le_refl _, fun _ h => nomatch h⟩
  | cons n ns ih =>
    intro x
    obtain ⟨h1, h2, h3⟩ := ih (min x n)
    rw [List.foldl_cons]
    refine ⟨?_, by omega, fun y hy => ?_⟩
    · rcases h1 with h1 | h1
      · rw [h1]
        rcases Int.le_total x n with q | q
        · left; rw [Int.min_eq_left q]
        · right; rw [Int.min_eq_right q]; exact List.mem_cons_self
      · right; exact List.mem_cons_of_mem _ h1
    · rcases List.mem_cons.mp hy with rfl | hy
      · omega
      · exact h3 y hy
theorem maxI_is {ns : List Int} {m k : Int} (e : maxI ns = some m) (h1 : k ∈ ns) (h2 : ∀ y, y ∈ ns → y ≤ k) : k = m := by
  cases ns with
  | nil => cases e
  | cons n ns =>
    cases e
    obtain ⟨a, b, c⟩ := foldl_max ns n
    have u1 : ns.foldl max n ≤ k := by
      rcases a with a | a
      · rw [a]; exact h2 _ List.mem_cons_self
      · exact h2 _ (List.mem_cons_of_mem _ a)
    have u2 : k ≤ ns.foldl max n := by
      rcases List.mem_cons.mp h1 with rfl | h
      · exact b
      · exact c _ h
    omega
theorem minI_is {ns : List Int} {m k : Int} (e : minI ns = some m) (h1 : k ∈ ns) (h2 : ∀ y, y ∈ ns → k ≤ y) : k = m := by
  cases ns with
  | nil => cases e
  | cons n ns =>
    cases e
    obtain ⟨a, b, c⟩ := foldl_min ns n
    have u1 : k ≤ ns.foldl min n := by
      rcases a with a | a
      · rw [a]; exact h2 _ List.mem_cons_self
      · exact h2 _ (List.mem_cons_of_mem _ a)
    have u2 : ns.foldl min n ≤ k := by
      rcases List.mem_cons.mp h1 with rfl | h
      · exact b
      · exact c _ h
    omega
theorem bi_max (hc : X.calm = true) : CallR X (.builtin "max") (rBi (gx X) .max) := by
  intro pins s σ H xs us Q I r hr
  obtain ⟨μ, h, rs, z, h', R, d, e, q⟩ := hr
  replace e : biMax h rs = some (z, h') := e
  unfold biMax at e
  split at e
  · cases e
    obtain ⟨v, w', rfl, d1, d2⟩ := d.two
    cases (show v = _ from d1); cases (show w' = _ from d2)
    exact call_max2 hc pins s σ H _ us Q I r ⟨_, _, rfl, q.val R rfl⟩
  · obtain ⟨v, rfl, dx⟩ := d.one
    split at e
    · rename_i ns hn
      cases hm : maxI ns with
      | none => rw [hm] at e; cases e
      | some m =>
        rw [hm] at e; cases e
        obtain ⟨p, rfl, hq⟩ := ints1_ok R dx hn
        exact cr_max hc pins s σ H _ us Q I r ⟨p, ns, rfl, hq, by cases ns with | nil => cases hm | cons _ _ => simp, fun k h1 h2 => by rw [maxI_is hm h1 h2]; exact q.val R rfl⟩
    · cases e
  · cases e
theorem bi_min (hc : X.calm = true) : CallR X (.builtin "min") (rBi (gx X) .min) := by
  intro pins s σ H xs us Q I r hr
  obtain ⟨μ, h, rs, z, h', R, d, e, q⟩ := hr
  replace e : biMin h rs = some (z, h') := e
  unfold biMin at e
  split at e
  · cases e
    obtain ⟨v, w', rfl, d1, d2⟩ := d.two
    cases (show v = _ from d1); cases (show w' = _ from d2)
    exact call_min2 hc pins s σ H _ us Q I r ⟨_, _, rfl, q.val R rfl⟩
  · obtain ⟨v, rfl, dx⟩ := d.one
    split at e
    · rename_i ns hn
      cases hm : minI ns with
      | none => rw [hm] at e; cases e
      | some m =>
        rw [hm] at e; cases e
        obtain ⟨p, rfl, hq⟩ := ints1_ok R dx hn
        exact cr_min hc pins s σ H _ us Q I r ⟨p, ns, rfl, hq, by cases ns with | nil => cases hm | cons _ _ => simp, fun k h1 h2 => by rw [minI_is hm h1 h2]; exact q.val R rfl⟩
    · cases e
  · cases e
theorem bi_sum (hc : X.calm = true) : CallR X (.builtin "sum") (rBi (gx X) .sum) := by
  intro pins s σ H xs us Q I r hr
  obtain ⟨μ, h, rs, z, h', R, d, e, q⟩ := hr
  replace e : biSum h rs = some (z, h') := e
  unfold biSum at e
  split at e
  case h_2 => cases e
  obtain ⟨v, rfl, dx⟩ := d.one
  split at e
  · cases e
    obtain ⟨p, rfl, hq⟩ := ints1_ok R dx ‹_›
    exact cr_sum hc pins s σ H _ us Q I r ⟨p, _, rfl, hq, q.val R rfl⟩
  · cases e
theorem bi_all (hc : X.calm = true) : CallR X (.builtin "all") (rBi (gx X) .all) := by
  intro pins s σ H xs us Q I r hr
  obtain ⟨μ, h, rs, z, h', R, d, e, q⟩ := hr
  replace e : biAll h rs = some (z, h') := e
  unfold biAll at e
  split at e
  case h_2 => cases e
  obtain ⟨v, rfl, dx⟩ := d.one
  split at e
  · cases e
    obtain ⟨p, rfl, hq⟩ := bools1_ok R dx ‹_›
    exact cr_all hc pins s σ H _ us Q I r ⟨p, _, rfl, hq, q.val R rfl⟩
  · cases e
theorem bi_any (hc : X.calm = true) : CallR X (.builtin "any") (rBi (gx X) .any) := by
  intro pins s σ H xs us Q I r hr
  obtain ⟨μ, h, rs, z, h', R, d, e, q⟩ := hr
  replace e : biAny h rs = some (z, h') := e
  unfold biAny at e
  split at e
  case h_2 => cases e
  obtain ⟨v, rfl, dx⟩ := d.one
  split at e
  · cases e
    obtain ⟨p, rfl, hq⟩ := bools1_ok R dx ‹_›
    exact cr_any hc pins s σ H _ us Q I r ⟨p, _, rfl, hq, q.val R rfl⟩
  · cases e
theorem bi_tuple : CallR X (.type "tuple") (rBi (gx X) .tuple) := by
  intro pins s σ H xs us Q I r hr
  obtain ⟨μ, h, rs, z, h', R, d, e, q⟩ := hr
  replace e : biTuple h rs = some (z, h') := e
  unfold biTuple at e
  split at e
  case h_2 => cases e
  rename_i r0
  obtain ⟨v, rfl, dx⟩ := d.one
  obtain ⟨u, rfl, rx⟩ := L2.vals1 r
  split at e
  · rename_i ds hs
    cases e
    by_cases ht : ∃ ts, r0 = .v (.tup ts)
    · obtain ⟨ts, rfl⟩ := ht
      cases hs
      obtain ⟨p, ys, rfl, e2, e3⟩ := dx
      cases rx
      obtain ⟨its, r1, t1, _⟩ := I.tuple e2.sq
      exact call_tuple_same t1 ⟨.ref p, H, I, rfl, q.val R ⟨p, ys, rfl, e2, e3⟩⟩
    · have hl : listOf h r0 = some ds := by
        cases r0 with
        | f ds => exact hs
        | v d0 =>
          cases d0 with
          | tup ys => exact absurd ⟨ys, rfl⟩ ht
          | _ => exact hs
      obtain ⟨p, ys, rfl, hq, hd⟩ := listOf_ok R dx hl
      cases rx
      obtain ⟨its, r1, pl, hz⟩ := I.list hq
      have hlen := r1.length
      refine call_tuple_list pl.isList (fun h' kp => ?_) (by simp only [List.size_toArray] <;> omega)
      have I1 : Inv X pins σ H { s with heap := h' } := I.kept (t' := s.toks) kp
      exact tup_laid I1 r1 hz _ q R hd
  · cases e
theorem bi_sorted (hc : X.calm = true) (hu : X.A.units + 70 < cLine) : CallR X (.builtin "sorted") (rBi (gx X) .sorted) := by
  intro pins s σ H xs us Q I r hr
  obtain ⟨μ, h, rs, z, h', R, d, e, q⟩ := hr
  replace e : biSorted h rs = some (z, h') := e
  unfold biSorted at e
  split at e
  case h_2 => cases e
  obtain ⟨v, rfl, dx⟩ := d.one
  obtain ⟨u, rfl, rx⟩ := L2.vals1 r
  split at e
  · rename_i ds hs
    cases hd : sortD ds with
    | none => rw [hd] at e; cases e
    | some ds' =>
      rw [hd] at e; cases e
      rcases iter_cases hs with hs | ⟨n, kvs, rfl, hl, rfl⟩
      · obtain ⟨p, ys, rfl, hq, hdd⟩ := seqOf_ok R dx hs
        cases rx
        refine sorted_ok hu I R hd q fun P E hP => ?_
        have hn : sizeLine = sizeLine := rfl
        rcases hq with hq | hq
        · obtain ⟨its, r1, ⟨o, n, ho, hcl, _, hdat⟩, hz⟩ := I.list hq
          have hlen := r1.length
          exact wpAny_collect_seq p (.inl rfl) ho hcl hdat (fun h' kp => hP h' s.toks _ ys kp r1 hdd) (by rw [List.size_toArray]; omega)
        · obtain ⟨its, r1, ⟨o, ho, hcl, n, hdat⟩, hz⟩ := I.tuple hq
          have hlen := r1.length
          exact wpAny_collect_seq p (.inr rfl) ho hcl hdat (fun h' kp => hP h' s.toks _ ys kp r1 hdd) (by rw [List.size_toArray]; omega)
      · obtain ⟨p, o, es, ep, ys, rfl, ho, hx, hdat, hns, hz, _, hdd, hv⟩ := dct_keys I R hl dx
        cases rx
        refine sorted_ok hu I R hd q fun P E hP => ?_
        refine PySem.W.kdu_collect (kdl_raw hns hx hdat) (I.ok.hd hc) ho hz fun h' tk acc hk it => ?_
        exact hP h' tk _ ys hk (by rw [items_keys it]; exact hv) hdd
  · cases e
theorem bi_list (hc : X.calm = true) : CallR X (.type "list") (rBi (gx X) .list) := by
  intro pins s σ H xs us Q I r hr
  obtain ⟨μ, h, rs, z, h', R, d, e, q⟩ := hr
  replace e : biList h rs = some (z, h') := e
  unfold biList at e
  split at e
  case h_2 => cases e
  obtain ⟨v, rfl, dx⟩ := d.one
  split at e
  · rename_i ds hs
    cases e
    rcases iter_cases hs with hs | ⟨n, kvs, rfl, hl, rfl⟩
    · obtain ⟨p, ys, rfl, hq, hdd⟩ := seqOf_ok R dx hs
      exact call_list_of pins s σ H _ us Q I r ⟨p, ys, rfl, hq, fun l hl => q.list R hdd hl⟩
    · obtain ⟨u, rfl, rx⟩ := L2.vals1 r
      obtain ⟨p, o, es, ep, ys, rfl, ho, hx, hdat, hns, hz, hz2, hdd, hv⟩ := dct_keys I R hl dx
      cases rx
      refine PySem.W.kdl_call (kdl_raw hns hx hdat) (I.ok.hd hc) ho hz fun h' tk acc c kp he it => ?_
      have hlen : ys.length ≤ sizeLine := by rw [hdd.length, List.length_map]; omega
      exact ⟨.ref s.heap.objs.size, _, I.laid (t' := tk) (o := .lst ys) kp (Nat.le_refl _) ⟨hlen, acc.toList, c, by rw [items_keys it]; exact hv, by rw [Array.toArray_toList]; exact he⟩, rfl, q.list R hdd (I.hok.fresh (Nat.le_refl _))⟩
  · cases e
end
end Co

set_option linter.all false
set_option maxRecDepth 100000
set_option autoImplicit false
/-! Core12: dict(..), repr(..), isinstance(..). -/
namespace Co
open PySem L2

section
variable {X : Cx} {pins : List (Addr × Obj)} {σ : St} {μ : List Addr} {H : Hp} {s : Shared} {h : Hh}

/-- a cell taken over at once -/
theorem Aft.cell {G : Ctx} {Q : VK} {p : Addr} {o : HO} {c : Cell} (q : Aft G μ H (.v (.ref h.length)) (h ++ [c]) Q) (R : Rl G μ H h) (hp : H p = none) (ok : CellOk G (μ ++ [p]) (upd H p o) p c) : Q (.ref p) (upd H p o) := by
  have hm : p ∉ μ := fun z => R.free.some z hp
  have n : Nxt μ H (μ ++ [p]) (upd H p o) := Nxt.taken hp (.laid hp)
  refine q (.ref p) _ (μ ++ [p]) n ((R.laid hp).taken hm ok) ⟨p, rfl, ?_⟩ trivial
  rw [← R.len]; simp
theorem Nxt.cell {p : Addr} {o : HO} (hp : H p = none) : Nxt μ H (μ ++ [p]) (upd H p o) := Nxt.taken hp (.laid hp)

abbrev IsP (K : PySem.W.Frag) (μ : List Addr) (H : Hp) (q : Value × Value) (p : D × D) : Prop := IsD K μ H q.1 p.1 ∧ IsD K μ H q.2 p.2
theorem pairsOf_cons {d : D} {ds : List D} {kvs : List (D × D)} (e : pairsOf (d :: ds) = some kvs) : ∃ a b r, d = .tup [a, b] ∧ pairsOf ds = some r ∧ kvs = (a, b) :: r := by
  cases d with
  | tup l =>
    match l, e with
    | [a, b], e =>
      simp only [pairsOf] at e
      cases q : pairsOf ds with
      | none => rw [q] at e; cases e
      | some y => rw [q] at e; cases e; exact ⟨a, b, y, rfl, rfl, rfl⟩
    | [], e => simp [pairsOf] at e
    | [_], e => simp [pairsOf] at e
    | _ :: _ :: _ :: _, e => simp [pairsOf] at e
  | _ => simp [pairsOf] at e
theorem pairs_at (I : Inv X pins σ H s) : ∀ {ds : List D} {kvs : List (D × D)} {xs : List V} {us : List Value}, pairsOf ds = some kvs → Dats X.K μ H ds xs → Vals xs us →
    ∃ (As : List Addr) (ps : List (Value × Value)), us = As.map Value.ref ∧ Paired (fun a (q : Value × Value) => PySem.PairAt s.heap a q.1 q.2) As ps ∧ Paired (IsP X.K μ H) ps kvs
  | [], kvs, _, _, e, x, r => by cases e; rw [show _ = [] from x] at r; cases r; exact ⟨[], [], rfl, .nil, .nil⟩
  | d :: ds, kvs, _, _, e, x, r => by
    obtain ⟨a, b, rest, rfl, e2, rfl⟩ := pairsOf_cons e
    obtain ⟨v, xs, rfl, h1, h2⟩ := x
    cases r with
    | cons r1 r2 =>
      obtain ⟨As, ps, rfl, p1, p2⟩ := pairs_at I e2 h2 r2
      obtain ⟨p, ys, rfl, t1, d1⟩ := h1
      cases r1
      obtain ⟨y1, _, rfl, k1, y2, _, rfl, k2, k3⟩ := d1
      rw [show _ = [] from k3] at t1
      obtain ⟨its, rv, t2, _⟩ := I.tuple t1.sq
      cases rv with
      | cons rv1 rv2 =>
        cases rv2 with
        | cons rv3 rv4 =>
          cases rv4
          exact ⟨p :: As, (_, _) :: ps, rfl, .cons (.inl t2) p1, .cons ⟨⟨y1, rv1, k1⟩, ⟨y2, rv3, k2⟩⟩ p2⟩
theorem Paired.get {α β : Type} {F : α → β → Prop} {as : List α} {bs : List β} (p : Paired F as bs) {j : Nat} {b : β} (e : bs[j]? = some b) : ∃ a, as[j]? = some a ∧ F a b := by
  induction p generalizing j with
  | nil => simp at e
  | cons h _ ih =>
    cases j with
    | zero => simp at e; subst e; exact ⟨_, rfl, h⟩
    | succ j => simpa using ih (by simpa using e)
theorem Paired.get' {α β : Type} {F : α → β → Prop} {as : List α} {bs : List β} (p : Paired F as bs) {j : Nat} {a : α} (e : as[j]? = some a) : ∃ b, bs[j]? = some b ∧ F a b := by
  induction p generalizing j with
  | nil => simp at e
  | cons h _ ih =>
    cases j with
    | zero => simp at e; subst e; exact ⟨_, rfl, h⟩
    | succ j => simpa using ih (by simpa using e)
/-- the argument of dict(..): a list or tuple of pairs -/
def PA1 (prog : Program) (w : World) (A : Around) (s : Shared) (p : Addr) (ps : List (Value × Value)) : Prop :=
  ∃ T fp OK, PySem.PairArg prog w T p fp [] ps.length (PySem.PairRel ps) OK ∧ OK s.heap
theorem pa_of {prog : Program} {w : World} {A : Around} {p : Addr} {As : List Addr} {ps : List (Value × Value)} {T : String} (hT : T = "list" ∨ T = "tuple") (hs : PySem.PlainSeq T s.heap p (As.map Value.ref).toArray)
    (pp : Paired (fun a (q : Value × Value) => PySem.PairAt s.heap a q.1 q.2) As ps) : PA1 prog w A s p ps := by
  have hi : PySem.PairItems s.heap (As.map Value.ref).toArray (fun j => As.getD j 0) ps := by
    refine ⟨by simp [Paired.length pp], fun j k v e => ?_⟩
    obtain ⟨a, ea, hp⟩ := Paired.get pp e
    have e1 : As.getD j 0 = a := by rw [List.getD_eq_getElem?_getD, ea]; rfl
    show (As.map Value.ref).toArray[j]? = some (.ref (As.getD j 0)) ∧ PySem.PairAt s.heap (As.getD j 0) k v
    rw [e1]
    exact ⟨by simp [ea], hp⟩
  rcases hT with rfl | rfl
  · exact ⟨_, _, _, PySem.PairArg.list p _ (fun j => As.getD j 0) ps, hs, hi⟩
  · exact ⟨_, _, _, PySem.PairArg.tuple p _ (fun j => As.getD j 0) ps, hs, hi⟩

/-! ints and texts -/
theorem merge_k {G : Ctx} (more : List ((D × D) × V)) (hm : ∀ m ∈ more, keyOk m.1.1 = true ∧ Dat G.K μ H m.1.2 m.2) : ∀ {kvs : List (D × D)} {ks : List (Key × V)}, Paired (PairK G μ H) kvs ks →
    Paired (PairK G μ H) ((more.map (·.1)).foldl (fun acc p => dput acc p.1 p.2) kvs) (mergeK ks (more.map fun m => (toKey m.1.1, m.2))) := by
  induction more with
  | nil => intro kvs ks p; exact p
  | cons m more ih =>
    intro kvs ks p
    obtain ⟨h1, h2⟩ := hm m List.mem_cons_self
    have q := pk_put p (toKey m.1.1) h2
    rw [keyD_toKey h1] at q
    exact ih (fun m hm' => hm m (List.mem_cons_of_mem _ hm')) q
theorem isKey (X : Cx) {K : PySem.W.Frag} {k : D} {u : Value} (e : keyOk k = true) (x : IsD K μ H u k) : keyIs (toKey k) u = true := by
  obtain ⟨v, r, d⟩ := x
  have := d.key e
  subst this
  exact kV_is (P := X.prog) (w := X.w) r
theorem dict_scal (hc : X.calm = true) (I : Inv X pins σ H s) (R : Rl (gx X) μ H h) {p : Addr} {ps : List (Value × Value)} {kvs : List (D × D)} {Q : VK} (ha : PA1 X.prog X.w X.A s p ps) (pp : Paired (IsP X.K μ H) ps kvs) (hk : (kvs.all fun q => keyOk q.1) = true) (hz : ps.length ≤ sizeLine)
    (q : Aft (gx X) μ H (.v (.ref h.length)) (h ++ [.dct (mkDict kvs)]) Q) : wpAny (model X.prog X.w) X.A (call (.type "dict") [.ref p]) (EP X pins σ Q) X.xe s := by
  obtain ⟨T, fp, OK, P, ok⟩ := ha
  -- the values, one by one
  obtain ⟨vs, hv⟩ : ∃ vs : List ((D × D) × V), vs.map (·.1) = kvs ∧ Paired (fun (q : Value × Value) (m : (D × D) × V) => IsD X.K μ H q.1 m.1.1 ∧ RelV m.2 q.2 ∧ Dat X.K μ H m.1.2 m.2) ps vs := by
    clear P ok hz q hk
    induction pp with
    | nil => exact ⟨[], rfl, .nil⟩
    | @cons a b as bs h1 _ ih =>
      obtain ⟨vs, rfl, hp⟩ := ih
      obtain ⟨v, rv, dv⟩ := h1.2
      exact ⟨(b, v) :: vs, rfl, .cons ⟨h1.1, rv, dv⟩ hp⟩
  obtain ⟨rfl, hp⟩ := hv
  have hk' : ∀ m ∈ vs, keyOk m.1.1 = true := fun m hm => List.all_eq_true.mp hk m.1 (List.mem_map_of_mem hm)
  have e1 : Paired (fun (q : Value × Value) (m : Key × Value) => keyIs m.1 q.1 = true ∧ q.2 = m.2) ps ((ps.zip vs).map fun z => (toKey z.2.1.1, z.1.2)) ∧ KV (vs.map fun m => (toKey m.1.1, m.2)) ((ps.zip vs).map fun z => (toKey z.2.1.1, z.1.2)) := by
    clear P ok hz q hk pp R
    induction hp with
    | nil => exact ⟨.nil, .nil⟩
    | cons h1 _ ih =>
      obtain ⟨i1, i2⟩ := ih (fun m hm => hk' m (List.mem_cons_of_mem _ hm))
      exact ⟨.cons ⟨isKey X (hk' _ List.mem_cons_self) h1.1, rfl⟩ i1, .cons ⟨rfl, h1.2.1⟩ i2⟩
  obtain ⟨e1, e2⟩ := e1
  have hl := Paired.length e1
  refine PySem.call_dict_pairs (knd := mixKind X.prog X.w) P (I.ok.hd hc) ok ⟨hl.symm, fun i key v hi => ?_⟩ hz fun h' tk hd' hkp => ?_
  · obtain ⟨⟨k, v'⟩, hb, hk1, hk2⟩ := Paired.get' e1 hi
    exact ⟨k, by rw [hb]; cases hk2; rfl, hk1⟩
  · have hf := I.hok.fresh (Nat.le_refl s.heap.objs.size)
    have hm : (s.heap.objs.size == sysModules) = false := beq_eq_false_iff_ne.mpr (Nat.ne_of_gt I.big)
    have kv := KV.merge e2 (kvs := []) (vs := []) .nil
    have hlen : (mergeK [] (vs.map fun m => (toKey m.1.1, m.2))).length ≤ sizeLine := by
      refine Nat.le_trans (length_mergeK _ []) ?_
      have := Paired.length hp
      simp only [List.length_nil, Nat.zero_add, List.length_map]
      omega
    refine ⟨.ref s.heap.objs.size, _, I.laid (t' := tk) (o := .dK (mergeK [] (vs.map fun m => (toKey m.1.1, m.2)))) (fun b o e => hkp b o (by simp) e) (Nat.le_refl _) ⟨hlen, hm, _, kv, hd'⟩, rfl, q.cell R hf (.inl ⟨_, upd_same, ?_⟩)⟩
    have n : Nxt μ H (μ ++ [s.heap.objs.size]) (upd H s.heap.objs.size (.dK (mergeK [] (vs.map fun m => (toKey m.1.1, m.2))))) := .cell hf
    refine merge_k vs (fun m hm => ?_) .nil
    obtain ⟨a, _, _, _, dm⟩ := pair_right hp hm
    exact ⟨hk' m hm, dm.next R.free n⟩

/-! tuples -/
theorem merge_n {G : Ctx} (more : List ((D × D) × (NestedKey × Addr × Value))) (hm : ∀ m ∈ more, PairN G μ H m.1 m.2) : ∀ {kvs : List (D × D)} {xs : List (NestedKey × Addr × Value)}, Paired (PairN G μ H) kvs xs →
    Paired (PairN G μ H) ((more.map (·.1)).foldl (fun acc p => dput acc p.1 p.2) kvs) (PySem.storedAllH xs (more.map (·.2))) := by
  induction more with
  | nil => intro kvs xs p; exact p
  | cons m more ih =>
    intro kvs xs p
    obtain ⟨h1, h2, h3, h4, v, h5, h6⟩ := hm m List.mem_cons_self
    exact ih (fun m hm' => hm m (List.mem_cons_of_mem _ hm')) (pn_put p h1 h2 h4 h3 h5 h6)
theorem storedAllH_len (ps : List (NestedKey × Addr × Value)) : ∀ xs : List (NestedKey × Addr × Value), (PySem.storedAllH xs ps).length ≤ xs.length + ps.length ∧ xs.length ≤ (PySem.storedAllH xs ps).length := by
  induction ps with
  | nil => intro xs; exact ⟨Nat.le_refl _, Nat.le_refl _⟩
  | cons p ps ih =>
    intro xs
    obtain ⟨a, b⟩ := ih (storedH xs p.1 p.2.1 p.2.2)
    obtain ⟨c, d⟩ := storedH_len xs p.1 p.2.1 p.2.2
    simp only [List.length_cons]
    show (PySem.storedAllH (storedH xs p.1 p.2.1 p.2.2) ps).length ≤ _ ∧ _ ≤ (PySem.storedAllH (storedH xs p.1 p.2.1 p.2.2) ps).length
    omega
theorem storedAllH_ne {ps : List (NestedKey × Addr × Value)} (hp : ps ≠ []) (xs : List (NestedKey × Addr × Value)) : PySem.storedAllH xs ps ≠ [] := by
  cases ps with
  | nil => exact absurd rfl hp
  | cons p ps =>
    intro z
    have h1 := (storedAllH_len ps (storedH xs p.1 p.2.1 p.2.2)).2
    have h2 : PySem.storedAllH (storedH xs p.1 p.2.1 p.2.2) ps = [] := z
    rw [h2] at h1
    exact storedH_ne xs p.1 p.2.1 p.2.2 (List.eq_nil_of_length_eq_zero (Nat.le_zero.mp h1))
theorem dict_nest (hc : X.calm = true) (hu : X.A.units + 70 < cLine) (I : Inv X pins σ H s) (R : Rl (gx X) μ H h) {p : Addr} {ps : List (Value × Value)} {kvs : List (D × D)} {Q : VK} (ha : PA1 X.prog X.w X.A s p ps) (pp : Paired (IsP X.K μ H) ps kvs) (hk : (kvs.all fun q => tupKey q.1) = true) (hne : kvs ≠ []) (hz : ps.length ≤ sizeLine)
    (q : Aft (gx X) μ H (.v (.ref h.length)) (h ++ [.dct (mkDict kvs)]) Q) : wpAny (model X.prog X.w) X.A (call (.type "dict") [.ref p]) (EP X pins σ Q) X.xe s := by
  obtain ⟨T, fp, OK, P, ok⟩ := ha
  obtain ⟨vs, hv, hp⟩ : ∃ vs : List ((D × D) × (NestedKey × Addr × Value)), vs.map (·.1) = kvs ∧ Paired (fun (q : Value × Value) (m : (D × D) × (NestedKey × Addr × Value)) => q.1 = .ref m.2.2.1 ∧ q.2 = m.2.2.2 ∧ PairN (gx X) μ H m.1 m.2) ps vs := by
    clear P ok hz q hne
    induction pp with
    | nil => exact ⟨[], rfl, .nil⟩
    | @cons a b as bs h1 _ ih =>
      simp only [List.all_cons, Bool.and_eq_true] at hk
      obtain ⟨vs, rfl, hp⟩ := ih hk.2
      obtain ⟨k, ts, ek, hd, et⟩ := tupKey_nk hk.1
      obtain ⟨⟨v, rv, dv⟩, ⟨v2, rv2, dv2⟩⟩ := h1
      have dv' := dv
      rw [et] at dv'
      obtain ⟨c, ys, rfl, _, _⟩ := dv'
      exact ⟨(b, (k, c, a.2)) :: vs, rfl, .cons ⟨rv, rfl, ek, hd, dv, ⟨ts, et⟩, v2, rv2, dv2⟩ hp⟩
  subst hv
  have hl := Paired.length hp
  have hv0 : ∀ m ∈ vs, PairN (gx X) μ H m.1 m.2 := fun m hm => by
    obtain ⟨a, _, _, _, dm⟩ := pair_right hp hm
    exact dm
  have hf := I.hok.fresh (Nat.le_refl s.heap.objs.size)
  refine PySem.call_dict_pairsH (knd := nestedKind X.prog X.w) (ps := vs.map (·.2)) P (I.ok.hd hc) (by show X.A.units + 1 + 1 + 8 < cLine; omega) ok ⟨by rw [List.length_map]; exact hl.symm, fun i key v hi => ?_⟩ (fun h' hk' x hx => ?_) hz fun h' tk hd' hkp => ?_
  · obtain ⟨m, hb, hk1, hk2, _⟩ := Paired.get' hp hi
    exact ⟨m.2.1, m.2.2.1, by rw [List.getElem?_map, hb]; cases hk2; rfl, hk1⟩
  · obtain ⟨m, hm, rfl⟩ := List.mem_map.mp hx
    obtain ⟨h1, h2, h3, _⟩ := hv0 m hm
    have I' : Inv X pins σ H { s with heap := h' } := I.kept (t' := s.toks) fun b o e => hk' b o (Nat.ne_of_lt (Heap.lt_size e)) (by simp) e
    exact ⟨nk_is I' _ _ _ _ h1 h3 rfl, h2⟩
  · have hm : (s.heap.objs.size == sysModules) = false := beq_eq_false_iff_ne.mpr (Nat.ne_of_gt I.big)
    have hlen : (PySem.storedAllH [] (vs.map (·.2))).length ≤ sizeLine := by
      have := (storedAllH_len (vs.map (·.2)) []).1
      simp only [List.length_map, List.length_nil, Nat.zero_add] at this
      omega
    have hvne : vs.map (·.2) ≠ [] := fun z => hne (by rw [List.map_eq_nil_iff.mp z]; rfl)
    have hnd : ((PySem.storedAllH [] (vs.map (·.2))).map (·.1)).Nodup := by obtain ⟨_, _, _, _, _, _, _, _, nd⟩ := hd'; exact nd
    refine ⟨.ref s.heap.objs.size, _, I.laid (t' := tk) (o := DN X.prog X.w s.heap.objs.size (PySem.storedAllH [] (vs.map (·.2)))) (fun b o e => hkp b o (by simp) e) (Nat.le_refl _) (DN_ok hd'), rfl, q.cell R hf (.inr ⟨_, upd_same, storedAllH_ne hvne _, hlen, hm, hnd, ?_⟩)⟩
    have n : Nxt μ H (μ ++ [s.heap.objs.size]) (upd H s.heap.objs.size (DN X.prog X.w s.heap.objs.size (PySem.storedAllH [] (vs.map (·.2))))) := .cell hf
    exact merge_n vs (fun m hm => PairN.mono R.free n.keep n.sub (hv0 m hm)) .nil

theorem bi_dict (hc : X.calm = true) (hu : X.A.units + 70 < cLine) : CallR X (.type "dict") (rBi (gx X) .dict) := by
  intro pins s σ H xs us Q I r hr
  obtain ⟨μ, h, rs, z, h', R, d, e, q⟩ := hr
  replace e : biDict h rs = some (z, h') := e
  unfold biDict at e
  split at e
  case h_2 => cases e
  rename_i r0
  obtain ⟨v, rfl, dx⟩ := d.one
  obtain ⟨u, rfl, rx⟩ := L2.vals1 r
  unfold dictBi at e
  split at e
  · rename_i ds hs
    split at e
    · rename_i kvs hp
      split at e
      · rename_i hok
        cases e
        have fin : ∀ (p : Addr) (ys : List V) (its : List Value) (T : String), (T = "list" ∨ T = "tuple") → PySem.PlainSeq T s.heap p its.toArray → Dats X.K μ H ds ys → Vals ys its → its.length ≤ sizeLine →
            wpAny (model X.prog X.w) X.A (call (.type "dict") [.ref p]) (EP X pins σ Q) X.xe s := by
          intro p ys its T hT hps hd rv hz
          obtain ⟨As, ps, rfl, p1, p2⟩ := pairs_at I hp hd rv
          have hl := Paired.length p1
          rw [List.length_map] at hz
          unfold dictOk at hok
          by_cases hk : (kvs.all fun p => keyOk p.1) = true
          · exact dict_scal hc I R (pa_of (prog := X.prog) (w := X.w) (A := X.A) hT hps p1) p2 hk (by omega) q
          · rw [Bool.or_eq_true] at hok
            have hk2 := hok.resolve_left hk
            exact dict_nest hc hu I R (pa_of (prog := X.prog) (w := X.w) (A := X.A) hT hps p1) p2 hk2 (fun z => hk (by rw [z]; rfl)) (by omega) q
        by_cases ht : ∃ ts, r0 = .v (.tup ts)
        · obtain ⟨ts, rfl⟩ := ht
          cases hs
          obtain ⟨p, ys, rfl, ⟨o, e2, e4⟩, e3⟩ := dx
          cases rx
          obtain ⟨ho, hz, its, rv, o', ho', hc', n, hd'⟩ := (show ObjOk X.prog X.w H s.heap p (.frz o (.tup ys)) from I.hok p _ e2)
          rw [ho] at ho'
          cases ho'
          exact fin p ys its "tuple" (.inr rfl) ⟨o, n, ho, hc', e4, hd'⟩ e3 rv (by rw [← rv.length]; exact hz)
        · have hl : listOf h r0 = some ds := by
            cases r0 with
            | f ds => exact hs
            | v d0 =>
              cases d0 with
              | tup ys => exact absurd ⟨ys, rfl⟩ ht
              | _ => exact hs
          obtain ⟨p, ys, rfl, hq, hd⟩ := listOf_ok R dx hl
          cases rx
          obtain ⟨its, r1, ⟨o, n, ho, hcl, hdd, hdat⟩, hz⟩ := I.list hq
          exact fin p ys its "list" (.inl rfl) ⟨o, n, ho, hcl, hdd, hdat⟩ hd r1 (by rw [← r1.length]; exact hz)
      · cases e
    · cases e
  · split at e
    · split at e
      · rename_i kvs hl
        split at e
        · rename_i hk
          cases e
          obtain ⟨p, ks, rfl, _, _, e1, e2⟩ := scal_at R hl hk dx
          cases rx
          refine d_copyOf I (.inl e1) fun p' s' hp' I' => ⟨.ref p', _, I', rfl, q.cell R hp' (.inl ⟨_, upd_same, ?_⟩)⟩
          have n : Nxt μ H (μ ++ [p']) (upd H p' (.dK ks)) := .cell hp'
          exact Paired.mapP e2 fun _ _ => PairK.mono R.free n.keep n.sub
        · cases e
      · cases e
    · cases e

/-! ### repr -/
theorem bi_repr (hg : X.A.guards = some []) (hu : X.A.units + 70 < cLine) : CallR X (.builtin "repr") (rBi (gx X) .repr) := by
  intro pins s σ H xs us Q I r hr
  obtain ⟨μ, h, rs, z, h', R, d, e, q⟩ := hr
  replace e : biRepr h rs = some (z, h') := e
  unfold biRepr at e
  split at e
  case h_2 => cases e
  rename_i r0
  obtain ⟨v, rfl, dx⟩ := d.one
  obtain ⟨u, rfl, rx⟩ := L2.vals1 r
  split at e
  case h_2 => cases e
  rename_i x hx
  cases e
  unfold reprBi at hx
  split at hx
  case h_2 => cases hx
  rename_i y hy
  split at hx
  case isFalse => cases hx
  rename_i hcnd
  cases hx
  simp only [Bool.and_eq_true, decide_eq_true_eq, Bool.not_eq_true', Bool.and_eq_false_iff] at hcnd
  obtain ⟨⟨⟨c1, c2⟩, c3⟩, c4⟩ := hcnd
  have hz := small_iff c4
  obtain ⟨as, rd, hsy⟩ := datR_reads I R hy dx rx
  have hsm : y.hasDict = true → sysModules ∉ as := fun hd => hsy hd (c3.resolve_left (by rw [hd]; simp))
  have fin : ∀ (t : Value) (s' : Shared), RelV (.str y.shown) t → Inv X pins σ H s' → EP X pins σ Q t s' := fun t s' rt I' => ⟨.str y.shown, H, I', rt, q.val R rfl⟩
  have big : ∀ a, u = .ref a → wpAny (model X.prog X.w) X.A (call (.builtin "repr") [u]) (EP X pins σ Q) X.xe s := fun a eu => by
    subst eu
    exact PySem.repr_of_reads' rd c1 hsm hg (by omega) (fun b o e => e) (fun h' t tk hk => fin _ _ ⟨t, rfl⟩ (I.kept hk)) hz
  cases rd with
  | none => exact PySem.P.repr_of_none (fin _ _ ⟨_, rfl⟩ (I.tok _))
  | bool b => exact PySem.P.repr_of_bool (fin _ _ ⟨_, by cases b <;> rfl⟩ (I.tok _))
  | int i t => exact PySem.P.repr_of_int (by simpa [PyData.showable] using c1) (fin _ _ ⟨_, rfl⟩ (I.tok _))
  | str w' t => exact PySem.P.repr_of_str (fin _ _ ⟨_, rfl⟩ (I.tok _)) hz
  | list => exact big _ rfl
  | tuple => exact big _ rfl
  | dict => exact big _ rfl

/-! ### isinstance -/
def tyS : Ty → String
  | .int => "int" | .bool => "bool" | .str => "str" | .tuple => "tuple" | .list => "list" | .dict => "dict"
def tyO : Option Ty → String
  | none => "NoneType" | some t => tyS t
theorem kit_all (t : Option Ty) (u : Ty) : kitB (tyO t) (tyS u) = some (tyIs t u) := by
  cases t with
  | none => cases u <;> decide +kernel
  | some t => cases t <;> cases u <;> decide +kernel
theorem kit_at (I : Inv X pins σ H s) (R : Rl (gx X) μ H h) {r : Res} {v : V} {u : Value} (dx : DatX X.K μ H r v) (rx : RelV v u) (hk : knownTy h r = true) :
    ∃ P : Heap → Prop, PySem.W.KitX X.K u (.type (tyO (tyOf h r))) P ∧ P s.heap ∧ u ≠ .builtin "__main__.__loader__#opaque" := by
  have lst : ∀ p xs, SqL X.K H p xs → RelV (.ref p) u → ∃ P : Heap → Prop, PySem.W.KitX X.K u (.type "list") P ∧ P s.heap ∧ u ≠ .builtin "__main__.__loader__#opaque" := fun p xs hq rx => by
    cases rx
    obtain ⟨its, _, ⟨o, n, ho, hc, _⟩, _⟩ := I.list hq
    exact ⟨_, PySem.W.kitx_list, ⟨o, ho, hc⟩, fun z => nomatch z⟩
  cases r with
  | f ds =>
    obtain ⟨p, xs, rfl, e2, _⟩ := dx
    exact lst p xs (.of e2) rx
  | v d =>
    cases d with
    | non => cases (show v = _ from dx); cases rx; exact ⟨_, PySem.W.kitx_none, True.intro, fun z => nomatch z⟩
    | bl b => cases (show v = _ from dx); cases rx; exact ⟨_, PySem.W.kitx_bool, True.intro, fun z => nomatch z⟩
    | int b => cases (show v = _ from dx); obtain ⟨t, rfl⟩ := rx; exact ⟨_, PySem.W.kitx_int, True.intro, fun z => nomatch z⟩
    | str b => cases (show v = _ from dx); obtain ⟨t, rfl⟩ := rx; exact ⟨_, PySem.W.kitx_str, True.intro, fun z => nomatch z⟩
    | tup ds =>
      obtain ⟨p, xs, rfl, e2, _⟩ := dx
      cases rx
      obtain ⟨its, _, ⟨o, ho, hc, _⟩, _⟩ := I.tuple e2.sq
      exact ⟨_, PySem.W.kitx_tuple, ⟨o, ho, hc⟩, fun z => nomatch z⟩
    | fl ds =>
      obtain ⟨p, xs, rfl, e2, _⟩ := dx
      exact lst p xs e2.sq rx
    | ref n =>
      have key : (∃ ds, look h n = some (.lst ds)) ∨ ∃ kvs, look h n = some (.dct kvs) := by
        simp only [knownTy] at hk
        split at hk
        · exact .inl ⟨_, ‹_›⟩
        · exact .inr ⟨_, ‹_›⟩
        · cases hk
      rcases key with ⟨ds, hl⟩ | ⟨kvs, hl⟩
      · have e1 : tyOf h (.v (.ref n)) = some .list := by simp only [tyOf, hl]
        rw [e1]
        obtain ⟨p, xs, rfl, _, _, h1, _⟩ := lst_at R hl dx
        exact lst p xs (.of h1) rx
      · have e1 : tyOf h (.v (.ref n)) = some .dict := by simp only [tyOf, hl]
        rw [e1]
        have ty := dict_obj R I.hok hl dx rx
        obtain ⟨p, rfl, _⟩ := dx
        cases rx
        exact ⟨_, PySem.W.kitx_dict, ty, fun z => nomatch z⟩
def rIsi2 (G : Ctx) (t : Ty) : List V → Hp → VK → Prop := fun xs H Q => ∃ μ h r x, xs = [x, .ty (tyS t)] ∧ Rl G μ H h ∧ DatX G.K μ H r x ∧ knownTy h r = true ∧ Q (.bl (tyIs (tyOf h r) t)) H
theorem bi_isi (t : Ty) : CallR X (.builtin "isinstance") (rIsi2 (gx X) t) := by
  intro pins s σ H xs us Q I r hr
  obtain ⟨μ, h, r0, x, rfl, R, dx, hk, q⟩ := hr
  obtain ⟨u1, u2, rfl, r1, r2⟩ := L2.vals2 r
  have e2 := (ClsV.ty (tyS t)).eq r2
  subst e2
  obtain ⟨P, Z, p, hx⟩ := kit_at I R dx r1 hk
  exact PySem.W.kia_one Z I.kIn p (kit_ty (kit_all _ _)) hx fun tk => ⟨.bl _, H, I.tok tk, rfl, q⟩
end
end Co

set_option linter.all false
set_option maxRecDepth 100000
set_option autoImplicit false
/-! Core13: methods of builtin types. -/
namespace Co
open PySem L2

section
variable {X : Cx} {pins : List (Addr × Obj)} {σ : St} {μ : List Addr} {H : Hp} {s : Shared} {h : Hh}

mutual
theorem hashD_ok (w : World) : ∀ (d : D) (k : NestedKey) (z : Int), nk d = some k → hashD d = some z → k.hash w = z
  | .int i, k, z, h1, h2 => by simp only [nk] at h1; simp only [hashD] at h2; cases h1; cases h2; rfl
  | .tup xs, k, z, h1, h2 => by
    simp only [nk] at h1
    simp only [hashD] at h2
    cases q : nks xs with
    | none => rw [q] at h1; cases h1
    | some ks =>
      cases q2 : hashsD xs with
      | none => rw [q2] at h2; cases h2
      | some zs =>
        rw [q] at h1; rw [q2] at h2; cases h1; cases h2
        show reduceHash (Builtin.Tuple.tupleHashOf (NestedKey.hashes w ks)) = _
        rw [hashsD_ok w xs ks zs q q2]
  | .non, _, _, _, h2 => by simp [hashD] at h2
  | .bl _, _, _, _, h2 => by simp [hashD] at h2
  | .str _, _, _, _, h2 => by simp [hashD] at h2
  | .fl _, _, _, _, h2 => by simp [hashD] at h2
  | .ref _, _, _, _, h2 => by simp [hashD] at h2
theorem hashsD_ok (w : World) : ∀ (ds : List D) (ks : List NestedKey) (zs : List Int), nks ds = some ks → hashsD ds = some zs → NestedKey.hashes w ks = zs
  | [], ks, zs, h1, h2 => by simp only [nks] at h1; simp only [hashsD] at h2; cases h1; cases h2; rfl
  | d :: ds, ks, zs, h1, h2 => by
    simp only [nks] at h1
    simp only [hashsD] at h2
    split at h1
    · rename_i k ks' q1 q2
      split at h2
      · rename_i z zs' q3 q4
        cases h1; cases h2
        show NestedKey.hash w k :: NestedKey.hashes w ks' = _
        rw [hashD_ok w d k z q1 q3, hashsD_ok w ds ks' zs' q2 q4]
      · cases h2
    · cases h1
end
theorem apart_ok (w : World) {G : Ctx} {kvs : List (D × D)} {xs : List (NestedKey × Addr × Value)} (p : Paired (PairN G μ H) kvs xs) (e : hashApart kvs = true) : (xs.map fun x => x.1.hash w).Nodup := by
  unfold hashApart at e
  split at e
  case h_2 => cases e
  rename_i zs hz
  have h2 : (xs.map fun x => x.1.hash w) = zs := by
    clear e
    induction p generalizing zs with
    | nil => simp only [List.map_nil, hashsD] at hz; cases hz; rfl
    | @cons a b as bs h1 _ ih =>
      simp only [List.map_cons, hashsD] at hz
      split at hz
      · rename_i z zs' q1 q2
        cases hz
        simp only [List.map_cons]
        rw [ih _ q2, hashD_ok w _ _ _ h1.1 q1]
      · cases hz
  rw [h2]
  exact of_decide_eq_true e

/-- which builtin a method is -/
def mT : Nat → String
  | 0 => "list" | 1 => "dict" | 2 => "str" | _ => "tuple"
def mId : Nat → Me → Option String
  | 0, .append => some "list.append" | 0, .pop => some "list.pop" | 0, .extend => some "list.extend"
  | 1, .get => some "dict.get" | 1, .update => some "dict.update"
  | 2, .split => some "str.split"
  | _, _ => none
structure MF (T : String) (name : Str) (id : String) : Prop where
  pa : PlainAttrs T
  slot : PySem.Slot T name id
  hty : typeOf (.builtin id) = pure (.type "method_descriptor")
theorem mf_ok {k : Nat} {m : Me} {id : String} (e : mId k m = some id) : MF (mT k) (meName m) id := by
  unfold mId at e
  split at e <;> cases e
  · exact ⟨F.plainAttrs_list, F.slot_list_append, by show builtinType _ = _; rw [builtinType_eq_fast]; kernel_rfl⟩
  · exact ⟨F.plainAttrs_list, F.slot_list_pop, by show builtinType _ = _; rw [builtinType_eq_fast]; kernel_rfl⟩
  · exact ⟨F.plainAttrs_list, F.slot_list_extend, by show builtinType _ = _; rw [builtinType_eq_fast]; kernel_rfl⟩
  · exact ⟨F.plainAttrs_dict, F.slot_dict_get, by show builtinType _ = _; rw [builtinType_eq_fast]; kernel_rfl⟩
  · exact ⟨F.plainAttrs_dict, F.slot_dict_update, by show builtinType _ = _; rw [builtinType_eq_fast]; kernel_rfl⟩
  · exact ⟨F.plainAttrs_str, F.slot_str_split, by show builtinType _ = _; rw [builtinType_eq_fast]; kernel_rfl⟩
/-- the receiver's type, and that it carries nothing beside -/
theorem recv_ok (I : Inv X pins σ H s) (R : Rl (gx X) μ H h) {d : D} {x : V} {u : Value} (dx : Dat X.K μ H d x) (rx : RelV x u) (hk : mkd h d < 3) : s.TypeIs u (mT (mkd h d)) ∧ ∀ a, u = .ref a → ∃ ob, s.heap.get? a = some ob ∧ ob.dict = none := by
  cases d with
  | str y =>
    cases (show x = _ from dx)
    obtain ⟨t, rfl⟩ := rx
    exact ⟨typeIs_str s y t, fun a e => nomatch e⟩
  | ref n =>
    simp only [mkd] at hk ⊢
    split at hk
    · rename_i xs hl
      obtain ⟨p, ys, rfl, _, _, h1, _⟩ := lst_at R hl dx
      cases rx
      obtain ⟨its, k, _, ho, _⟩ := I.lst h1
      exact ⟨⟨_, ho, rfl⟩, fun a e => by cases e; exact ⟨_, ho, rfl⟩⟩
    · rename_i kvs hl
      obtain ⟨p, rfl, _, _, c⟩ := dct_at I R hl dx
      cases rx
      rcases c with ⟨ks, e1, _⟩ | ⟨xs, _, ⟨o, es, ep, ho, hx, _⟩, _⟩
      · obtain ⟨_, _, vs, _, o, es, ep, ho, hx, _⟩ := I.hok p _ e1
        exact ⟨⟨o, ho, hx.1⟩, fun a e => by cases e; exact ⟨o, ho, hx.2.1⟩⟩
      · exact ⟨⟨o, ho, hx.1⟩, fun a e => by cases e; exact ⟨o, ho, hx.2.1⟩⟩
    · exact absurd hk (by omega)
  | tup _ => exact absurd hk (by simp [mkd])
  | _ => exact absurd hk (by simp [mkd])

def rMe (G : Ctx) (k : Nat) (m : Me) : V → List V → Hp → VK → Prop := fun x xs H Q => ∃ μ h d rs z h', Rl G μ H h ∧ Dat G.K μ H d x ∧ DatXs G.K μ H rs xs ∧ mkd h d = k ∧ methd m h d rs = some (z, h') ∧ Aft G μ H z h' Q
/-- what follows a cell that is written -/
theorem Aft.wrote {G : Ctx} {Q : VK} {p : Addr} {n : Nat} {c : Cell} {o : HO} {r : Res} {v : V} (q : Aft G μ H r (h.set n c) Q) (R : Rl G μ H h) (ea : μ[n]? = some p) (ok : CellOk G μ (upd H p o) p c) (dv : DatX G.K μ (upd H p o) r v) (nw : New H r v) : Q v (upd H p o) :=
  q v _ μ (.wrote (List.mem_of_getElem? ea)) (R.wrote ea ok) dv nw

theorem me_cases {k : Nat} {m : Me} {h : Hh} {d : D} {rs : List Res} {z : Res} {h' : Hh} (e : methd m h d rs = some (z, h')) (hk : mkd h d = k) :
    (∃ n xs, d = .ref n ∧ k = 0 ∧ look h n = some (.lst xs) ∧ mLst m h n xs rs = some (z, h')) ∨ (∃ n kvs, d = .ref n ∧ k = 1 ∧ look h n = some (.dct kvs) ∧ mDct m h n kvs rs = some (z, h')) ∨
      ∃ x, d = .str x ∧ k = 2 ∧ mStr m h x rs = some (z, h') := by
  cases d with
  | ref n =>
    simp only [methd] at e
    simp only [mkd] at hk
    split at e
    · rename_i hl; rw [hl] at hk; exact .inl ⟨n, _, rfl, hk.symm, hl, e⟩
    · rename_i hl; rw [hl] at hk; exact .inr (.inl ⟨n, _, rfl, hk.symm, hl, e⟩)
    · cases e
  | str x => exact .inr (.inr ⟨x, rfl, hk.symm, e⟩)
  | _ => simp [methd] at e
theorem me_id {m : Me} {h : Hh} {d : D} {rs : List Res} {z : Res} {h' : Hh} (e : methd m h d rs = some (z, h')) : mkd h d < 3 ∧ ∃ id, mId (mkd h d) m = some id := by
  rcases me_cases e rfl with ⟨n, xs, rfl, hk, hl, e⟩ | ⟨n, kvs, rfl, hk, hl, e⟩ | ⟨x, rfl, hk, e⟩
  · rw [hk]
    refine ⟨by omega, ?_⟩
    unfold mLst at e
    split at e <;> first | exact ⟨_, rfl⟩ | cases e
  · rw [hk]
    refine ⟨by omega, ?_⟩
    unfold mDct at e
    split at e <;> first | exact ⟨_, rfl⟩ | cases e
  · rw [hk]
    refine ⟨by omega, ?_⟩
    unfold mStr at e
    split at e <;> first | exact ⟨_, rfl⟩ | cases e

theorem pair_zip {α β : Type} {F : α → β → Prop} {as : List α} {bs : List β} (p : Paired F as bs) : ∃ vs : List (α × β), vs.map (·.1) = as ∧ vs.map (·.2) = bs ∧ ∀ m ∈ vs, F m.1 m.2 := by
  induction p with
  | nil => exact ⟨[], rfl, rfl, fun _ h => nomatch h⟩
  | @cons a b as bs h1 _ ih =>
    obtain ⟨vs, rfl, rfl, h2⟩ := ih
    exact ⟨(a, b) :: vs, rfl, rfl, fun m hm => by
      rcases List.mem_cons.mp hm with rfl | hm
      · exact h1
      · exact h2 m hm⟩
theorem mt_ok (hu : X.A.units + 70 < cLine) {k : Nat} {m : Me} {id : String} (hid : mId k m = some id) : MtR X id (rMe (gx X) k m) := by
  intro pins s σ H x xs v us Q I rx rv hr
  obtain ⟨μ, h, d, rs, z, h', R, dx, ds, hk, e, q⟩ := hr
  rcases me_cases e hk with ⟨n, ys, rfl, rfl, hl, e⟩ | ⟨n, kvs, rfl, rfl, hl, e⟩ | ⟨y, rfl, rfl, e⟩
  · obtain ⟨p, vs, rfl, ep, hm, hp, hd⟩ := lst_at R hl dx
    have hw : ∀ {zs : List D} {ws : List V}, Dats X.K μ H zs ws → CellOk (gx X) μ (upd H p (.lst ws)) p (.lst zs) := fun x => ⟨_, upd_same, Dats.next R.free (.wrote hm) x⟩
    unfold mLst at e
    split at e
    · cases hid
      split at e
      · rename_i g hg
        cases e
        have hx0 : xs = [] := ds
        subst hx0
        obtain ⟨w', hw', dw⟩ := hd.get hg
        rw [← hd.length] at hw'
        exact mt_pop pins s σ H _ _ v us Q I rx rv ⟨p, vs, w', rfl, rfl, hp, hw', q.wrote R ep (hw hd.dropLast) (Dat.next R.free (.wrote hm) dw) trivial⟩
      · cases e
    · cases hid
      obtain ⟨a, rfl, da⟩ := ds.one
      cases (show a = _ from da)
      split at e
      · rename_i i j hj
        split at e
        · rename_i g hg
          cases e
          obtain ⟨w', hw', dw⟩ := hd.get hg
          have hj' := hj
          unfold ixN? at hj'
          rw [← hd.length] at hj'
          obtain ⟨s1, s2, s3, s4⟩ := ixN_seq hj'
          have hn := line63
          obtain ⟨_, _, _, _, hz⟩ := I.lst hp
          exact mt_popAt pins s σ H _ _ v us Q I rx rv ⟨p, vs, _, _, w', rfl, rfl, hp, by omega, by omega, s1, hw', q.wrote R ep (hw (hd.erase _)) (Dat.next R.free (.wrote hm) dw) trivial⟩
        · cases e
      · cases e
    · cases hid
      obtain ⟨a, rfl, da⟩ := ds.one
      split at e
      · rename_i zs hz
        split at e
        · rename_i hs
          cases e
          obtain ⟨b, ws, rfl, h1, h2⟩ := lstOf_ok R da hz
          exact mt_extend pins s σ H _ _ v us Q I rx rv ⟨p, b, vs, ws, rfl, rfl, hp, h1, by rw [hd.length, h2.length]; exact small_iff hs, q.wrote R ep (hw (hd.append h2)) rfl trivial⟩
        · cases e
      · cases e
    · cases hid
      obtain ⟨a, rfl, da⟩ := ds.one
      split at e
      · rename_i hs
        cases e
        exact mt_append pins s σ H _ _ v us Q I rx rv ⟨p, vs, a, rfl, rfl, hp, by rw [hd.length]; exact small_lt hs, q.wrote R ep (hw (hd.append (Dats.cons da rfl))) rfl trivial⟩
      · cases e
    · cases e
  · unfold mDct at e
    split at e
    · cases hid
      obtain ⟨a, b, rfl, da, db⟩ := ds.two
      split at e
      · rename_i hf
        cases e
        obtain ⟨u1, u2, rfl, r1, r2⟩ := L2.vals2 rv
        exact dict_getOr (by omega) I R hl hf dx da db rx r1 r2 fun t dt => q.val R dt
      · cases e
    · cases hid
      obtain ⟨a, rfl, da⟩ := ds.one
      split at e
      case h_2 => cases e
      rename_i j more hl2
      split at e
      case isFalse => cases e
      rename_i hcond
      cases e
      simp only [Bool.and_eq_true, decide_eq_true_eq] at hcond
      obtain ⟨⟨⟨⟨⟨c1, c2⟩, c3⟩, c4⟩, c5⟩, c6⟩ := hcond
      obtain ⟨u, rfl, ru⟩ := L2.vals1 rv
      obtain ⟨p, zs, rfl, ep, hm, hd, hs, hz, pp, mu⟩ := nest_at I R hl c2 dx
      obtain ⟨p2, zs2, rfl, ep2, hm2, hd2, hs2, hz2, pp2, mu2⟩ := nest_at I R hl2 c3 da
      cases rx
      cases ru
      have hne : p ≠ p2 := fun z => by
        subst z
        obtain ⟨h1, e1⟩ := List.getElem?_eq_some_iff.mp ep
        obtain ⟨h2, e2⟩ := List.getElem?_eq_some_iff.mp ep2
        exact c1 ((List.getElem_inj R.nd).mp (e1.trans e2.symm))
      have l1 := Paired.length pp
      have l2 := Paired.length pp2
      have c6' := small_iff c6
      have hne2 : zs2 ≠ [] := fun z => by
        subst z
        have : more = [] := List.eq_nil_of_length_eq_zero (by simpa using l2)
        subst this
        simp at c4
      have hap : zs ≠ [] ∨ ((∀ x ∈ zs2, s.TypeIs (.ref x.2.1) "tuple") ∧ (zs2.map fun x => (nestedKind X.prog X.w).hash x.1).Nodup) := by
        rw [Bool.or_eq_true] at c5
        rcases c5 with c5 | c5
        · left
          intro z
          subst z
          have : kvs = [] := List.eq_nil_of_length_eq_zero (by simpa using l1)
          subst this
          simp at c5
        · right
          refine ⟨fun y hy => ?_, apart_ok X.w pp2 c5⟩
          obtain ⟨b, _, _, _, h3, ⟨ts, et⟩, _⟩ := pair_right pp2 hy
          rw [et] at h3
          obtain ⟨c, ys, e0, t2, _⟩ := h3
          cases e0
          obtain ⟨its, _, t3, _⟩ := I.tuple t2.sq
          exact t3.typeIs
      refine PySem.call_update_dictH (knd := nestedKind X.prog X.w) (by show X.A.units + 1 + 8 < cLine; omega) hne hs2 hd hd2 hap (by omega) fun h' hd' _ hsb => ?_
      have hnd : ((PySem.storedAllH zs zs2).map (·.1)).Nodup := by obtain ⟨_, _, _, _, _, _, _, _, nd⟩ := hd'; exact nd
      have hll := (storedAllH_len zs2 zs).1
      refine ⟨.non, upd H p (DN X.prog X.w p (PySem.storedAllH zs zs2)), d_write (t' := s.toks) I mu hsb ?_ (DN_ok hd'), rfl, q.wrote R ep (.inr ⟨_, upd_same, storedAllH_ne hne2 _, by omega, hs, hnd, ?_⟩) rfl trivial⟩
      · obtain ⟨o, _, _, ho, _⟩ := hd'
        exact ⟨o, ho⟩
      · obtain ⟨vs, e1, e2, e3⟩ := pair_zip pp2
        subst e1 e2
        exact Paired.mapP (merge_n vs e3 pp) fun _ _ => PairN.mono R.free (Nxt.wrote hm).keep ⟨[], by simp⟩
    · cases e
  · cases (show x = _ from dx)
    unfold mStr at e
    split at e
    · cases hid
      obtain ⟨a, rfl, da⟩ := ds.one
      cases (show a = _ from da)
      split at e
      · rename_i hcond
        cases e
        rw [Bool.and_eq_true] at hcond
        refine mt_split pins s σ H _ _ v us Q I rx rv ⟨_, _, rfl, rfl, by simpa using hcond.1, small_iff hcond.2, ?_⟩
        intro p hp
        refine q.list R ?_ hp
        exact Dats.map _ fun _ _ => rfl
      · cases e
    · cases e
end
end Co

set_option linter.all false
set_option maxRecDepth 100000
set_option autoImplicit false
/-! Core14: expressions: what the text does is what the interpreter says. -/
namespace Co
open PySem L2

section
variable {X : Cx} {G : Ctx} {μ μ1 : List Addr} {H H1 : Hp} {h h' : Hh} {σ : St} {ρ : Rho} {r : Res} {Q : VK}

theorem _root_.L2.PE.weak {x : Expr} {t t' : TE} (a : PE X x t) (i : ∀ σ H Q, t' σ H Q → t σ H Q) : PE X x t' := ⟨fun pins s σ H Q I hw => a.run pins s σ H Q I (i σ H Q hw)⟩
theorem _root_.L2.PT.weak {x : Expr} {t t' : TT} (a : PT X x t) (i : ∀ σ H Q, t' σ H Q → t σ H Q) : PT X x t' := ⟨fun pins s σ H Q I hw => a.run pins s σ H Q I (i σ H Q hw)⟩
theorem _root_.L2.PW.weak {x : Expr} {t t' : TT} (a : PW X x t) (i : ∀ σ H Q, t' σ H Q → t σ H Q) : PW X x t' := ⟨fun wh pins s σ H Q I hw => a.run wh pins s σ H Q I (i σ H Q hw)⟩
theorem _root_.L2.PA.weak {x : List Expr} {t t' : TA} (a : PA X x t) (i : ∀ σ H Q, t' σ H Q → t σ H Q) : PA X x t' := ⟨fun pos pins s σ H Q I hw => a.run pos pins s σ H Q I (i σ H Q hw)⟩

theorem Aft.trans (q : Aft G μ H r h' Q) (n : Nxt μ H μ1 H1) : Aft G μ1 H1 r h' Q := fun v H2 μ2 n2 R2 d2 w2 => q v H2 μ2 (n.trans n2) R2 d2 (w2.back n)
theorem tE.mk {f : Rho → Hh → Option (Res × Hh)} (R : Rl G μ H h) (S : Rs G.K μ H ρ σ) (e : f ρ h = some (r, h')) (q : Aft G μ H r h' Q) : tE G f σ H Q := ⟨μ, ρ, h, r, h', R, S, e, q⟩

/-- a test's reading -/
def tT (G : Ctx) (f : Rho → Hh → Option (Bool × Hh)) : TT := fun σ H Q => ∃ μ ρ h b h', Rl G μ H h ∧ Rs G.K μ H ρ σ ∧ f ρ h = some (b, h') ∧ ∀ H' μ', Nxt μ H μ' H' → Rl G μ' H' h' → Q b H'
/-- values of a written list, all of them taken over by the heap -/
def tA (G : Ctx) (f : Rho → Hh → Option (List D × Hh)) : TA := fun σ H Q => ∃ μ ρ h ds h', Rl G μ H h ∧ Rs G.K μ H ρ σ ∧ f ρ h = some (ds, h') ∧ ∀ vs H' μ', Nxt μ H μ' H' → Rl G μ' H' h' → Dats G.K μ' H' ds vs → Q vs H'
/-- .. as they are -/
def tRs (G : Ctx) (f : Rho → Hh → Option (List Res × Hh)) : TA := fun σ H Q => ∃ μ ρ h rs h', Rl G μ H h ∧ Rs G.K μ H ρ σ ∧ f ρ h = some (rs, h') ∧ ∀ vs H' μ', Nxt μ H μ' H' → Rl G μ' H' h' → DatXs G.K μ' H' rs vs → Q vs H'
def tOo (G : Ctx) (f : Rho → Hh → Option (Option Int × Hh)) : TO := fun σ H Q => ∃ μ ρ h o h', Rl G μ H h ∧ Rs G.K μ H ρ σ ∧ f ρ h = some (o, h') ∧ ∀ H' μ', Nxt μ H μ' H' → Rl G μ' H' h' → Q o H'

theorem star_of {x : Expr} {xs : List Expr} (p : plainX x = true) : starEach (x :: xs) X.env = (false, eval x X.env) :: starEach xs X.env := by
  cases x <;> first | rfl | (simp [plainX] at p)
theorem plain_ix {x : Expr} (p : plainX x = true) : PlainIx x := by
  intro o i
  cases x <;> first | rfl | (with_unfolding_all rfl) | (simp [plainX] at p)
end

/-! ### own defs -/
/-- a def's promise -/
structure FnG (P : Program) (w : World) (K : PySem.W.Frag) (mg : Str → Option Value) (base : Heap) (k : Nat) (a : Addr) (fd : FuncData) (ps : List Str) (sp : List V → Hp → VK → Prop) : Prop where
  len : ∀ vs H Q, sp vs H Q → vs.length = ps.length
  run : ∀ (A : Around) (outer : List Env) (s : Shared) (H : Hp) (args : Args) (us : List Value) (vs : List V) (Q : VK), A.guards = some [] → Room k A → Env0 P w K mg base A outer s H →
    BindsTo s fd args (ps.zip us) → Vals vs us → sp vs H Q → codeAny (model P w) A (.call (.ref a) args) (CR CX0 outer P w H s Q E0) s
def rCall (G : Ctx) (cl : Call) (f : Nat) : List V → Hp → VK → Prop := fun xs H Q => ∃ μ h ds d h', Rl G μ H h ∧ Dats G.K μ H ds xs ∧ cl f ds h = some (d, h') ∧ Aft G μ H (.v d) h' Q
structure OwnFn (X : Cx) (cl : Call) (f : Nat) (n : Str) : Prop where
  has : ∃ (a : Addr) (k : Nat) (fd : FuncData) (ps : List Str), X.mg n = some (.ref a) ∧ PySem.W.keepIn X.K (.ref a) = true ∧ Room k X.A ∧ Binds X.K fd ps [] ∧ FnG X.prog X.w X.K X.mg X.base k a fd ps (rCall (gx X) cl f)
theorem own_call {X : Cx} {sp : List V → Hp → VK → Prop} {a : Addr} {k : Nat} {fd : FuncData} {ps : List Str} (F : FnG X.prog X.w X.K X.mg X.base k a fd ps sp) (hg : X.A.guards = some []) (hr : Room k X.A) (hb : Binds X.K fd ps []) : CallR X (.ref a) sp := by
  intro pins s σ H xs us Q I r hsp
  have hl : (us ++ []).length = ps.length := by rw [List.append_nil, ← r.length]; exact F.len _ _ _ hsp
  have hbb := hb s us I.kIn hl
  rw [List.append_nil] at hbb
  refine wpAny_call (codeAny_mono (F.run X.A X.stack s H ⟨us, []⟩ us xs Q hg hr I.env0 hbb r hsp) fun rr s' hq => ?_)
  cases rr with
  | error e => exact False.elim hq
  | ok fl =>
    cases fl with
    | ret u => exact I.after hq
    | _ => exact False.elim hq

def bnames : List Str := ["len", "abs", "int", "min", "max", "sum", "sorted", "list", "tuple", "dict", "all", "any", "repr", "isinstance", "range", "enumerate", "zip", "bool", "str"]
/-- a body's context -/
structure Cok (X : Cx) (c : CS) (cl : Call) : Prop where
  calm : X.calm = true
  gd : X.A.guards = some []
  un : X.A.units + 70 < cLine
  N : X.N = c.N
  nd : X.N.Nodup
  vis : ∀ x, isVis c.sc x = true → Vis X.env.scope x
  loc : ∀ x, isLoc c.sc x = true → L2.Loc X.env.scope x ∧ (X.fn x = true ∨ X.env.scope.names.lookup x = some .local)
  gl : ∀ x, isGl c.sc x = true → Gl X x
  fr : ∀ y, c.sc.names.lookup y = some .cell ∨ c.sc.names.lookup y = some .free → X.env.scope.names.lookup y = some .cell ∨ X.env.scope.names.lookup y = some .free
  mgb : ∀ x ∈ bnames, X.mg x = none
  own : ∀ f n, c.fns[f]? = some n → OwnFn X cl f n
  kind : X.env.scope.kind = .function

theorem lookup_map (f : Str → NameKind → NameKind) (x : Str) : ∀ l : List (Str × NameKind), (l.map fun p => (p.1, f p.1 p.2)).lookup x = (l.lookup x).map fun k => f x k
  | [] => rfl
  | (n, k) :: l => by
    simp only [List.map_cons, List.lookup_cons]
    cases hx : x == n with
    | true => have := eq_of_beq hx; subst this; rfl
    | false => exact lookup_map f x l
/-- the names of a comprehension's block -/
theorem rel_lookup (scope : Scope) (env : Env) (x : Str) : (relabel scope env).names.lookup x = (scope.names.lookup x).map fun k => if (k == .free && env.scope.kind == .function && env.kindOf x == some .cell) then .cell else k := by
  rw [← lookup_map (fun n k => if (k == .free && env.scope.kind == .function && env.kindOf n == some .cell) then .cell else k) x scope.names]
  unfold relabel
  congr 1
  refine List.map_congr_left fun p _ => ?_
  obtain ⟨n, k⟩ := p
  simp only
  split <;> rfl
theorem Cok.blk {X : Cx} {c : CS} {cl : Call} (C : Cok X c cl) {scope : Scope} {own : List (Str × Nat)} (hb : blkC c.N c.sc scope own = true) (s : Shared) (H : Hp) (cc : Addr) (cells : List (Str × Addr)) (fp : List Addr) :
    Cok (X.blk s H scope (compEnvC scope cells cc X.env) fp) ⟨c.N, scope, c.fns⟩ cl where
  calm := C.calm
  gd := C.gd
  un := C.un
  N := C.N
  nd := C.nd
  vis := fun x hx => by
    show Vis (relabel scope X.env) x
    unfold Vis
    rw [rel_lookup]
    unfold isVis at hx
    simp only at hx
    split at hx
    · rename_i e; rw [e]; exact .inl rfl
    · rename_i e; rw [e]; exact .inr (.inl rfl)
    · rename_i e; rw [e]; simp only [Option.map_some]; split
      · exact .inr (.inl rfl)
      · exact .inr (.inr rfl)
    · cases hx
  loc := fun x hx => by
    show L2.Loc (relabel scope X.env) x ∧ ((scope.names.lookup x == some .cell) = true ∨ (relabel scope X.env).names.lookup x = some .local)
    unfold L2.Loc
    rw [rel_lookup]
    unfold isLoc at hx
    simp only at hx
    split at hx
    · rename_i e; rw [e]; exact ⟨.inl rfl, .inr rfl⟩
    · rename_i e; rw [e]; exact ⟨.inr rfl, .inl (by decide)⟩
    · cases hx
  gl := fun x hx => by
    show (relabel scope X.env).names.lookup x = some .globalImplicit
    rw [rel_lookup]
    unfold isGl at hx
    simp only at hx
    split at hx
    · rename_i e; rw [e]; rfl
    · cases hx
  fr := fun y hy => by
    show (relabel scope X.env).names.lookup y = some .cell ∨ (relabel scope X.env).names.lookup y = some .free
    rw [rel_lookup]
    rcases hy with e | e
    · simp only at e; rw [e]; exact .inl rfl
    · simp only at e
      rw [e]; simp only [Option.map_some]; split
      · exact .inl rfl
      · exact .inr rfl
  mgb := C.mgb
  own := fun f n hf => ⟨(C.own f n hf).has⟩
  kind := by
    show (relabel scope X.env).kind = .function
    have := (blkOk_by hb).kind
    exact this
theorem Cok.blkOk {X : Cx} {c : CS} {cl : Call} (C : Cok X c cl) {scope : Scope} {own : List (Str × Nat)} (hb : blkC c.N c.sc scope own = true) : BlkOk X.N X.env.scope scope own := by
  have B := blkOk_by hb
  rw [C.N]
  exact ⟨B.kind, B.uniq, B.ix, fun y hy e => C.fr _ (B.free y hy e), B.own⟩

section
variable {X : Cx} {c : CS} {cl : Call} {a b d : E} {p q r : Expr} {pos : Pos}

/-! ### names, constants -/
theorem e_var (C : Cok X c cl) {i : Nat} {n : Str} (h1 : c.N[i]? = some n) (h2 : isVis c.sc n = true) (h3 : (n == ("__debug__" : Str)) = false) (h4 : (n == ("__classdict__" : Str)) = false) : PE X (.Name n pos) (tE (gx X) (ev cl (.var i))) := by
  refine (pe_var (i := i) (by rw [C.N]; exact h1) (C.vis n h2) h3 h4).weak fun σ H Q ht => ?_
  obtain ⟨μ, ρ, h, r, h', R, S, e, q⟩ := ht
  simp only [ev] at e
  split at e
  · rename_i d hd
    cases e
    obtain ⟨v, e1, e2⟩ := S.ok i d hd
    exact ⟨v, e1, q.val R e2⟩
  · cases e
theorem e_con {e0 : E} {d : D} {x : Expr} {v : V} (he : PE X x (tC v)) (hd : ∀ μ H, Dat X.K μ H d v) (hev : ∀ ρ h, ev cl e0 ρ h = some (.v d, h)) : PE X x (tE (gx X) (ev cl e0)) := by
  refine he.weak fun σ H Q ht => ?_
  obtain ⟨μ, ρ, h, r, h', R, S, e, q⟩ := ht
  rw [hev] at e
  cases e
  exact q.val R (hd _ _)

/-! ### operators -/
theorem e_bin {o : Bop} (ha : PE X p (tE (gx X) (ev cl a))) (hb : PE X q (tE (gx X) (ev cl b))) : PE X (.BinOp p (opOf o) q pos) (tE (gx X) (ev cl (.bin o a b))) := by
  refine (pe_op (bin_ok o) ha hb).weak fun σ H Q ht => ?_
  obtain ⟨μ, ρ, h, r, h', R, S, e, k⟩ := ht
  simp only [ev] at e
  split at e
  case h_2 => cases e
  rename_i x h1 ea
  split at e
  case h_2 => cases e
  rename_i y h2 eb
  split at e
  case h_2 => cases e
  rename_i z ez
  cases e
  exact tE.mk R S ea fun v H1 μ1 n1 R1 d1 w1 => tE.mk R1 (S.next R.free n1) eb fun u H2 μ2 n2 R2 d2 w2 => ⟨μ2, _, x, y, _, R2, d1.next R1.free n2, d2, ez, k.trans (n1.trans n2)⟩
theorem e_neg (ha : PE X p (tE (gx X) (ev cl a))) : PE X (.UnaryOp .USub p pos) (tE (gx X) (ev cl (.neg a))) := by
  refine (pe_un un_neg ha).weak fun σ H Q ht => ?_
  obtain ⟨μ, ρ, h, r, h', R, S, e, k⟩ := ht
  simp only [ev] at e
  split at e
  case h_2 => cases e
  rename_i i h1 ea
  cases e
  exact tE.mk R S ea fun v H1 μ1 n1 R1 d1 w1 => ⟨i, d1, (k.trans n1).val R1 rfl⟩
theorem e_not (ha : PE X p (tE (gx X) (ev cl a))) : PE X (.UnaryOp .Not p pos) (tE (gx X) (ev cl (.not a))) := by
  refine (pe_not ha).weak fun σ H Q ht => ?_
  obtain ⟨μ, ρ, h, r, h', R, S, e, k⟩ := ht
  simp only [ev] at e
  split at e
  case h_2 => cases e
  rename_i i h1 ea
  cases e
  exact tE.mk R S ea fun v H1 μ1 n1 R1 d1 w1 => ⟨i, d1, (k.trans n1).val R1 rfl⟩
theorem e_and {rest : List Expr} (ha : PE X p (tE (gx X) (ev cl a))) (hb : PE X (.BoolOp .And (q :: rest) pos) (tE (gx X) (ev cl b))) : PE X (.BoolOp .And (p :: q :: rest) pos) (tE (gx X) (ev cl (.and a b))) := by
  refine (pe_and ha hb).weak fun σ H Q ht => ?_
  obtain ⟨μ, ρ, h, r, h', R, S, e, k⟩ := ht
  simp only [ev] at e
  split at e
  · rename_i h1 ea
    exact tE.mk R S ea fun v H1 μ1 n1 R1 d1 w1 => ⟨true, d1, by rw [if_pos rfl]; exact tE.mk R1 (S.next R.free n1) e (k.trans n1)⟩
  · rename_i h1 ea
    cases e
    exact tE.mk R S ea fun v H1 μ1 n1 R1 d1 w1 => ⟨false, d1, by rw [if_neg Bool.false_ne_true]; exact (k.trans n1).val R1 rfl⟩
  · cases e
theorem e_or {rest : List Expr} (ha : PE X p (tE (gx X) (ev cl a))) (hb : PE X (.BoolOp .Or (q :: rest) pos) (tE (gx X) (ev cl b))) : PE X (.BoolOp .Or (p :: q :: rest) pos) (tE (gx X) (ev cl (.or a b))) := by
  refine (pe_or ha hb).weak fun σ H Q ht => ?_
  obtain ⟨μ, ρ, h, r, h', R, S, e, k⟩ := ht
  simp only [ev] at e
  split at e
  · rename_i h1 ea
    exact tE.mk R S ea fun v H1 μ1 n1 R1 d1 w1 => ⟨false, d1, by rw [if_neg Bool.false_ne_true]; exact tE.mk R1 (S.next R.free n1) e (k.trans n1)⟩
  · rename_i h1 ea
    cases e
    exact tE.mk R S ea fun v H1 μ1 n1 R1 d1 w1 => ⟨true, d1, by rw [if_pos rfl]; exact (k.trans n1).val R1 rfl⟩
  · cases e
theorem e_cmp (C : Cok X c cl) {o : Cop} (ha : PE X p (tE (gx X) (ev cl a))) (hb : PE X q (tE (gx X) (ev cl b))) (hm : behindInMarks (copOf o) q = false) : PE X (.Compare p [copOf o] [q] pos) (tE (gx X) (ev cl (.cmp o a b))) := by
  have hu : X.A.units + 65 < cLine := by have := C.un; omega
  refine (pe_cmpR (cmp_ok hu o) ha hb hm).weak fun σ H Q ht => ?_
  obtain ⟨μ, ρ, h, r, h', R, S, e, k⟩ := ht
  simp only [ev] at e
  split at e
  case h_2 => cases e
  rename_i x h1 ea
  split at e
  case h_2 => cases e
  rename_i y h2 eb
  split at e
  case h_2 => cases e
  rename_i z ez
  cases e
  exact tE.mk R S ea fun v H1 μ1 n1 R1 d1 w1 => tE.mk R1 (S.next R.free n1) eb fun u H2 μ2 n2 R2 d2 w2 => ⟨μ2, _, x, y, z, R2, d1.next R1.free n2, d2, ez, (k.trans (n1.trans n2)).val R2 rfl⟩
theorem e_chn (C : Cok X c cl) {o o' : Cop} (ha : PE X p (tE (gx X) (ev cl a))) (hb : PE X q (tE (gx X) (ev cl b))) (hd : PE X r (tE (gx X) (ev cl d))) (hm : lastMarks [copOf o, copOf o'] [q, r] = false) :
    PE X (.Compare p [copOf o, copOf o'] [q, r] pos) (tE (gx X) (ev cl (.chn o o' a b d))) := by
  have hu : X.A.units + 65 < cLine := by have := C.un; omega
  refine (pe_chain (cmp_ok hu o) (cmp_ok hu o') ha hb hd hm).weak fun σ H Q ht => ?_
  obtain ⟨μ, ρ, h, r', h', R, S, e, k⟩ := ht
  simp only [ev] at e
  split at e
  case h_2 => cases e
  rename_i x h1 ea
  split at e
  case h_2 => cases e
  rename_i y h2 eb
  split at e
  · rename_i e1
    split at e
    case h_2 => cases e
    rename_i z h3 ed
    split at e
    case h_2 => cases e
    rename_i t e2
    cases e
    exact tE.mk R S ea fun v H1 μ1 n1 R1 d1 w1 => tE.mk R1 (S.next R.free n1) eb fun u H2 μ2 n2 R2 d2 w2 => ⟨μ2, _, x, y, true, R2, d1.next R1.free n2, d2, e1, true, rfl, by
      rw [if_pos rfl]
      exact tE.mk R2 (S.next R.free (n1.trans n2)) ed fun w' H3 μ3 n3 R3 d3 w3 => ⟨μ3, _, y, z, t, R3, d2.next R2.free n3, d3, e2, (k.trans ((n1.trans n2).trans n3)).val R3 rfl⟩⟩
  · rename_i e1
    cases e
    exact tE.mk R S ea fun v H1 μ1 n1 R1 d1 w1 => tE.mk R1 (S.next R.free n1) eb fun u H2 μ2 n2 R2 d2 w2 => ⟨μ2, _, x, y, false, R2, d1.next R1.free n2, d2, e1, false, rfl, by
      rw [if_neg Bool.false_ne_true]
      exact (k.trans (n1.trans n2)).val R2 rfl⟩
  · cases e
theorem isnone {μ : List Addr} {H : Hp} {K : PySem.W.Frag} {r : Res} {v : V} (dx : DatX K μ H r v) : decide (v = .non) = (match r with | .v .non => true | _ => false) := by
  cases r with
  | f ds => obtain ⟨p, xs, rfl, _⟩ := dx; rfl
  | v d =>
    cases d with
    | non => cases (show v = _ from dx); rfl
    | bl _ => cases (show v = _ from dx); rfl
    | int _ => cases (show v = _ from dx); rfl
    | str _ => cases (show v = _ from dx); rfl
    | tup _ => obtain ⟨p, xs, rfl, _⟩ := dx; rfl
    | fl _ => obtain ⟨p, xs, rfl, _⟩ := dx; rfl
    | ref _ => obtain ⟨p, rfl, _⟩ := dx; rfl
theorem e_isN {j : Nat} {pos' : Pos} (ha : PE X p (tE (gx X) (ev cl a))) : PE X (.Compare p [.Is] [.Constant .none j pos'] pos) (tE (gx X) (ev cl (.isN a))) := by
  refine (pe_cmp (pc_isN ha) rfl).weak fun σ H Q ht => ?_
  obtain ⟨μ, ρ, h, r', h', R, S, e, k⟩ := ht
  simp only [ev] at e
  split at e
  · rename_i h1 ea
    cases e
    exact tE.mk R S ea fun v H1 μ1 n1 R1 d1 w1 => by rw [isnone d1]; exact (k.trans n1).val R1 rfl
  · rename_i x h1 hn ea
    cases e
    exact tE.mk R S ea fun v H1 μ1 n1 R1 d1 w1 => by
      rw [isnone d1]
      split
      · exfalso; simp_all
      · exact (k.trans n1).val R1 rfl
  · cases e
theorem e_notN {j : Nat} {pos' : Pos} (ha : PE X p (tE (gx X) (ev cl a))) : PE X (.Compare p [.IsNot] [.Constant .none j pos'] pos) (tE (gx X) (ev cl (.notN a))) := by
  refine (pe_cmp (pc_notN ha) rfl).weak fun σ H Q ht => ?_
  obtain ⟨μ, ρ, h, r', h', R, S, e, k⟩ := ht
  simp only [ev] at e
  split at e
  · rename_i h1 ea
    cases e
    exact tE.mk R S ea fun v H1 μ1 n1 R1 d1 w1 => by show Q (.bl (!decide (v = .non))) H1; rw [isnone d1]; exact (k.trans n1).val R1 rfl
  · rename_i x h1 hn ea
    cases e
    exact tE.mk R S ea fun v H1 μ1 n1 R1 d1 w1 => by
      show Q (.bl (!decide (v = .non))) H1
      rw [isnone d1]
      split
      · exfalso; simp_all
      · exact (k.trans n1).val R1 rfl
  · cases e
/-! ### tests -/
theorem t_val {e0 : E} {x : Expr} (ha : PE X x (tE (gx X) (ev cl e0))) (he : ∀ whole, isTrue x X.env whole = (do let v ← whole; standAt x.pos; holding [v] (truthy v))) : PT X x (tT (gx X) fun ρ h => asB (ev cl e0 ρ h)) := by
  refine (pt_val ha he).weak fun σ H Q ht => ?_
  obtain ⟨μ, ρ, h, b, h', R, S, e, k⟩ := ht
  simp only [asB] at e
  split at e
  · rename_i ea
    cases e
    exact tE.mk R S ea fun v H1 μ1 n1 R1 d1 w1 => ⟨b, d1, k H1 μ1 n1 R1⟩
  · cases e
theorem t_not (ha : PT X p (tT (gx X) fun ρ h => asB (ev cl a ρ h))) : PT X (.UnaryOp .Not p pos) (tT (gx X) fun ρ h => asB (ev cl (.not a) ρ h)) := by
  refine (pt_not ha).weak fun σ H Q ht => ?_
  obtain ⟨μ, ρ, h, b, h', R, S, e, k⟩ := ht
  simp only [ev] at e
  split at e
  · rename_i b' h1 ea
    cases e
    exact ⟨μ, ρ, h, b', _, R, S, by simp only [ea, asB], fun H' μ' n' R' => k H' μ' n' R'⟩
  · cases e
end
end Co

set_option linter.all false
set_option maxRecDepth 100000
set_option autoImplicit false
/-! Core15: more expressions. -/
namespace Co
open PySem L2

/-! ### t[::-1] of a tuple -/
theorem fm_congr {α β : Type} {f g : α → Option β} : ∀ {l : List α}, (∀ a ∈ l, f a = g a) → l.filterMap f = l.filterMap g
  | [], _ => rfl
  | a :: l, h => by rw [List.filterMap_cons, List.filterMap_cons, h a List.mem_cons_self, fm_congr fun b hb => h b (List.mem_cons_of_mem _ hb)]
theorem range_all {α : Type} : ∀ l : List α, (List.range l.length).filterMap (fun m => l[m]?) = l
  | [] => rfl
  | a :: l => by
    rw [List.length_cons, List.range_succ_eq_map, List.filterMap_cons]
    simp only [List.getElem?_cons_zero, List.filterMap_map]
    congr 1
    have := range_all l
    conv => rhs; rw [← this]
    refine fm_congr fun m _ => ?_
    simp
theorem pick_rev (xs : List Value) : ((List.range xs.length).filterMap fun (m : Nat) => xs.toArray[(((xs.length : Int) - 1) + (m : Int) * (-1)).toNat]?) = xs.reverse := by
  have h1 := range_all xs.reverse
  rw [List.length_reverse] at h1
  conv => rhs; rw [← h1]
  refine fm_congr fun m hm => ?_
  have hm' : m < xs.length := List.mem_range.mp hm
  rw [List.getElem?_reverse hm']
  have e : ((xs.length : Int) - 1 + (m : Int) * (-1)).toNat = xs.length - 1 - m := by omega
  rw [e]
  simp
section
variable {prog : Program} {w : World} {A : Around} {E : Value → Shared → Prop} {s : Shared}
theorem rev_item {t sl : Addr} {xs : List Value} {vl vu vs : Value} {Q : Value → Shared → Prop} (ht : PyProof.Rows.IsTup s.heap t xs.toArray) (hs : s.heap.IsSliceOf sl vl vu vs) (pl : IsPart vl none) (pu : IsPart vu none) (ps : IsPart vs (some (-1))) (hsz : xs.length ≤ sizeLine)
    (h : Q (.ref s.heap.objs.size) { s with heap := s.heap.push { cls := .type "tuple", data := .seq xs.reverse.toArray } }) : wpAny (model prog w) A (getItem (.ref t) (.ref sl)) Q E s := by
  obtain ⟨os, hos, hcs, hds⟩ := id hs
  have hTs : s.TypeIs (.ref sl) "slice" := ⟨os, hos, hcs⟩
  unfold getItem
  try with_reducible refine wpAny_holding ?_
  first | refine wpAny_bind (wpAny_pure ?_) | skip
  refine wpAny_bind (wpAny_sequenceKey ht.typeIs (by decide) (wpAny_bind (wpAny_callSpecial?_slot (name := Str.ofString "__getitem__") ht.typeIs PyProof.Rows.slot_tuple_getitem (wpAny_call_entry PyProof.Rows.slot_tuple_getitem ht.typeIs PyProof.Rows.entry_tuple_getitem ?_ (PyProof.Rows.args_tuple_getitem _ _)))))
  show wpAny _ _ (Builtin.Tuple.tupleItemsOf (.ref t) >>= _) _ _ s
  refine wpAny_bind (PyProof.Rows.tupleItemsOf_ ht (wpAny_bind (wpAny_typeOf hTs ?_)))
  rw [if_pos (by decide)]
  have happ : ∀ {Q' : Int × Int × Nat → Shared → Prop}, Q' ((xs.length : Int) - 1, -1, xs.length) s → wpAny (model prog w) A.in1 (Builtin.Slice.sliceApplied (.ref sl) (pure ((xs.toArray.size : Nat) : Int))) Q' (fun e s' => E e s') s := fun {Q'} hq => by
    unfold Builtin.Slice.sliceApplied Builtin.Slice.sliceFields
    refine wpAny_bind (wpAny_bind (wpAny_field hos hds (x := vl) rfl (wpAny_bind (wpAny_field hos hds (x := vu) rfl (wpAny_bind (wpAny_field hos hds (x := vs) rfl (wpAny_pure (wpAny_bind (HT.slicePart_ ps ?_)))))))))
    show wpAny _ _ (if ((-1 : Int) == 0) = true then _ else _) _ _ s
    rw [if_neg (by decide)]
    refine wpAny_bind (HT.slicePart_ pl (wpAny_bind (HT.slicePart_ pu (wpAny_bind (wpAny_pure (wpAny_pure ?_))))))
    have e1 : Builtin.Slice.slicePlaces ((xs.toArray.size : Int) - 1) (-1) (-1) = xs.length := by
      unfold Builtin.Slice.slicePlaces
      rw [List.size_toArray, if_neg (by omega)]
      split <;> simp <;> omega
    show Q' ((xs.toArray.size : Int) - 1, -1, Builtin.Slice.slicePlaces ((xs.toArray.size : Int) - 1) (-1) (-1)) s
    rw [e1, List.size_toArray]
    exact hq
  refine wpAny_bind (wpAny_mono (happ (Q' := fun r s' => r = ((xs.length : Int) - 1, -1, xs.length) ∧ s' = s) ⟨rfl, rfl⟩) ?_ fun _ _ e => e)
  rintro r s' ⟨rfl, rfl⟩
  have hno : ¬ ((((xs.length : Int) - 1) == 0 && (-1 : Int) == 1 && xs.length == xs.toArray.size) = true) := by simp
  show wpAny _ _ (if (((xs.length : Int) - 1) == 0 && (-1 : Int) == 1 && xs.length == xs.toArray.size) = true then _ else _) _ _ s'
  rw [if_neg hno, pick_rev]
  have hk : sizeOk (.seq xs.reverse.toArray) := by show xs.reverse.toArray.size ≤ sizeLine; simpa using hsz
  first
    | exact wpAny_bind (m := Builtin.Tuple.tupleExact _) (wpAny_newObj_type (wpAny_pure ⟨_, rfl, wpAny_pure h⟩) hk)
    | exact wpAny_bind (m := Builtin.Tuple.tupleExact _) (wpAny_newObj_type (wpAny_bind (wpAny_pure (wpAny_pure ⟨_, rfl, wpAny_pure h⟩))) hk)
    | exact wpAny_bind (wpAny_bind (m := Builtin.Tuple.tupleExact _) (wpAny_newObj_type (wpAny_pure (wpAny_pure ⟨_, rfl, wpAny_pure h⟩)) hk))
    | exact wpAny_bind (wpAny_bind (m := Builtin.Tuple.tupleExact _) (wpAny_newObj_type (wpAny_pure ⟨_, rfl, wpAny_pure h⟩) hk))
end
end Co

set_option linter.all false
set_option maxRecDepth 100000
set_option autoImplicit false
/-! Core16: expressions: displays, calls, methods, items. -/
namespace Co
open PySem L2

section
variable {X : Cx} {c : CS} {cl : Call} {a b d : E} {p q r : Expr} {pos : Pos} {es : List E} {xs : List Expr}

theorem _root_.L2.PE.or {x : Expr} {t t' : TE} (a : PE X x t) (b : PE X x t') : PE X x (fun σ H Q => t σ H Q ∨ t' σ H Q) := ⟨fun pins s σ H Q I hw => hw.elim (a.run pins s σ H Q I) (b.run pins s σ H Q I)⟩

/-! ### lists of expressions -/
theorem a_nil : PA X [] (tA (gx X) (evs cl [])) := by
  refine pa_nil.weak fun σ H Q ht => ?_
  obtain ⟨μ, ρ, h, ds, h', R, S, e, k⟩ := ht
  cases e
  exact k [] H μ .refl R rfl
theorem a_cons (hp : plainX p = true) (ha : PE X p (tE (gx X) (ev cl a))) (hb : PA X xs (tA (gx X) (evs cl es))) : PA X (p :: xs) (tA (gx X) (evs cl (a :: es))) := by
  refine (pa_cons ha hb (star_of hp)).weak fun σ H Q ht => ?_
  obtain ⟨μ, ρ, h, ds, h', R, S, e, k⟩ := ht
  simp only [evs, asD] at e
  cases ea : ev cl a ρ h with
  | none => rw [ea] at e; cases e
  | some y =>
  obtain ⟨r0, h1⟩ := y
  rw [ea] at e
  simp only at e
  cases eb : evs cl es ρ (adopt r0 h1).2 with
  | none => rw [eb] at e; cases e
  | some y =>
  obtain ⟨ds', h2⟩ := y
  rw [eb] at e
  cases e
  refine tE.mk R S ea fun v H1 μ1 n1 R1 d1 w1 => ?_
  obtain ⟨μ2, n2, R2, d2⟩ := adopt_ok n1 R1 d1 w1
  exact ⟨μ2, ρ, _, ds', _, R2, S.next R.free n2, eb, fun vs H3 μ3 n3 R3 d3 => k (v :: vs) H3 μ3 (n2.trans n3) R3 (Dats.cons (d2.next R2.free n3) d3)⟩
theorem r_nil : PA X [] (tRs (gx X) (evRs cl [])) := by
  refine pa_nil.weak fun σ H Q ht => ?_
  obtain ⟨μ, ρ, h, ds, h', R, S, e, k⟩ := ht
  cases e
  exact k [] H μ .refl R rfl
theorem r_cons (hp : plainX p = true) (ha : PE X p (tE (gx X) (ev cl a))) (hb : PA X xs (tRs (gx X) (evRs cl es))) : PA X (p :: xs) (tRs (gx X) (evRs cl (a :: es))) := by
  refine (pa_cons ha hb (star_of hp)).weak fun σ H Q ht => ?_
  obtain ⟨μ, ρ, h, ds, h', R, S, e, k⟩ := ht
  simp only [evRs] at e
  split at e
  case h_2 => cases e
  rename_i r0 h1 ea
  split at e
  case h_2 => cases e
  rename_i ds' h2 eb
  cases e
  refine tE.mk R S ea fun v H1 μ1 n1 R1 d1 w1 => ?_
  exact ⟨μ1, ρ, _, ds', _, R1, S.next R.free n1, eb, fun vs H3 μ3 n3 R3 d3 => k (v :: vs) H3 μ3 (n1.trans n3) R3 ⟨v, vs, rfl, d1.next R1.free n3, d3⟩⟩

/-! ### displays -/
theorem e_tup {j : Nat} (ha : PA X xs (tA (gx X) (evs cl es))) : PE X (.Tuple xs j pos) (tE (gx X) (ev cl (.tup es))) := by
  refine ⟨fun pins s σ H Q I ht => ?_⟩
  obtain ⟨μ, ρ, h, r0, h', R, S, e, k⟩ := ht
  simp only [ev] at e
  split at e
  case h_2 => cases e
  rename_i ds h1 ea
  split at e
  case isFalse => cases e
  rename_i hs
  cases e
  have hw : tA (gx X) (evs cl es) σ H (fun vs H1 => ∃ μ1, Nxt μ H μ1 H1 ∧ Rl (gx X) μ1 H1 h' ∧ Dats X.K μ1 H1 ds vs) := ⟨μ, ρ, h, ds, h', R, S, ea, fun vs H1 μ1 n1 R1 d1 => ⟨μ1, n1, R1, d1⟩⟩
  refine wpAny_Tuple_spliced (thn (ha.run pos pins s σ H _ I hw) fun us s1 ⟨vs, H1, I1, rv, μ1, n1, R1, d1⟩ => ?_)
  have hl : vs.length ≤ sizeLine := by rw [d1.length]; exact small_iff hs
  exact ⟨by rw [← rv.length]; exact hl, tup_laid I1 rv hl s1.toks (k.trans n1) R1 d1⟩
theorem e_lst (ha : PA X xs (tA (gx X) (evs cl es))) : PE X (.List xs pos) (tE (gx X) (ev cl (.lst es))) := by
  refine (pe_lst ha).weak fun σ H Q ht => ?_
  obtain ⟨μ, ρ, h, r0, h', R, S, e, k⟩ := ht
  simp only [ev] at e
  split at e
  case h_2 => cases e
  rename_i ds h1 ea
  split at e
  case isFalse => cases e
  rename_i hs
  cases e
  exact ⟨μ, ρ, h, ds, _, R, S, ea, fun vs H1 μ1 n1 R1 d1 => ⟨by rw [d1.length]; exact small_iff hs, fun l hl => (k.trans n1).list R1 d1 hl⟩⟩
theorem e_dnew : PE X (.Dict [] [] pos) (tE (gx X) (ev cl .dnew)) := by
  refine pe_dnewK.weak fun σ H Q ht => ?_
  obtain ⟨μ, ρ, h, r0, h', R, S, e, k⟩ := ht
  simp only [ev] at e
  cases e
  exact fun l hl => k.cell R hl (.inl ⟨[], upd_same, .nil⟩)

/-! ### branches -/
theorem e_ite (ht : PT X p (tT (gx X) fun ρ h => asB (ev cl a ρ h))) (hb : PE X q (tE (gx X) (ev cl b))) (hd : PE X r (tE (gx X) (ev cl d))) : PE X (.IfExp p q r pos) (tE (gx X) (ev cl (.ite a b d))) := by
  refine (pe_ifExp ht hb hd).weak fun σ H Q hq => ?_
  obtain ⟨μ, ρ, h, r0, h', R, S, e, k⟩ := hq
  simp only [ev] at e
  split at e
  · rename_i h1 ea
    exact ⟨μ, ρ, h, true, h1, R, S, by simp only [ea, asB], fun H1 μ1 n1 R1 => by dsimp only; rw [if_pos rfl]; exact tE.mk R1 (S.next R.free n1) e (k.trans n1)⟩
  · rename_i h1 ea
    exact ⟨μ, ρ, h, false, h1, R, S, by simp only [ea, asB], fun H1 μ1 n1 R1 => by dsimp only; rw [if_neg Bool.false_ne_true]; exact tE.mk R1 (S.next R.free n1) e (k.trans n1)⟩
  · cases e
theorem t_and2 (ha : PT X p (tT (gx X) fun ρ h => asB (ev cl a ρ h))) {rest : List Expr} (hb : PW X (.BoolOp .And (q :: rest) pos) (tT (gx X) fun ρ h => asB (ev cl b ρ h))) :
    PW X (.BoolOp .And (p :: q :: rest) pos) (tT (gx X) fun ρ h => asB (ev cl (.and a b) ρ h)) := by
  refine (pw_and ha hb).weak fun σ H Q ht => ?_
  obtain ⟨μ, ρ, h, z, h', R, S, e, k⟩ := ht
  simp only [ev] at e
  cases ea : ev cl a ρ h with
  | none => rw [ea] at e; simp [asB] at e
  | some y =>
  obtain ⟨r0, h1⟩ := y
  rw [ea] at e
  cases r0 with
  | f _ => simp [asB] at e
  | v d0 =>
  cases d0 with
  | bl t =>
    cases t with
    | true => exact ⟨μ, ρ, h, true, h1, R, S, by simp only [ea, asB], fun H1 μ1 n1 R1 => by dsimp only; rw [if_pos rfl]; exact ⟨μ1, ρ, h1, z, h', R1, S.next R.free n1, e, fun H2 μ2 n2 R2 => k H2 μ2 (n1.trans n2) R2⟩⟩
    | false => simp only [asB] at e; cases e; exact ⟨μ, ρ, h, false, h', R, S, by simp only [ea, asB], fun H1 μ1 n1 R1 => by dsimp only; rw [if_neg Bool.false_ne_true]; exact k H1 μ1 n1 R1⟩
  | _ => simp [asB] at e
theorem t_or2 (ha : PT X p (tT (gx X) fun ρ h => asB (ev cl a ρ h))) {rest : List Expr} (hb : PW X (.BoolOp .Or (q :: rest) pos) (tT (gx X) fun ρ h => asB (ev cl b ρ h))) :
    PW X (.BoolOp .Or (p :: q :: rest) pos) (tT (gx X) fun ρ h => asB (ev cl (.or a b) ρ h)) := by
  refine (pw_or ha hb).weak fun σ H Q ht => ?_
  obtain ⟨μ, ρ, h, z, h', R, S, e, k⟩ := ht
  simp only [ev] at e
  cases ea : ev cl a ρ h with
  | none => rw [ea] at e; simp [asB] at e
  | some y =>
  obtain ⟨r0, h1⟩ := y
  rw [ea] at e
  cases r0 with
  | f _ => simp [asB] at e
  | v d0 =>
  cases d0 with
  | bl t =>
    cases t with
    | false => exact ⟨μ, ρ, h, false, h1, R, S, by simp only [ea, asB], fun H1 μ1 n1 R1 => by dsimp only; rw [if_neg Bool.false_ne_true]; exact ⟨μ1, ρ, h1, z, h', R1, S.next R.free n1, e, fun H2 μ2 n2 R2 => k H2 μ2 (n1.trans n2) R2⟩⟩
    | true => simp only [asB] at e; cases e; exact ⟨μ, ρ, h, true, h', R, S, by simp only [ea, asB], fun H1 μ1 n1 R1 => by dsimp only; rw [if_pos rfl]; exact k H1 μ1 n1 R1⟩
  | _ => simp [asB] at e
theorem t_ite (ht : PT X p (tT (gx X) fun ρ h => asB (ev cl a ρ h))) (hb : PT X q (tT (gx X) fun ρ h => asB (ev cl b ρ h))) (hd : PT X r (tT (gx X) fun ρ h => asB (ev cl d ρ h))) : PT X (.IfExp p q r pos) (tT (gx X) fun ρ h => asB (ev cl (.ite a b d) ρ h)) := by
  refine ⟨fun pins s σ H Q I hq => ?_⟩
  obtain ⟨μ, ρ, h, z, h', R, S, e, k⟩ := hq
  simp only [ev] at e
  show wpAny _ _ (do if ← PySem.isTrue p X.env (eval p X.env) then PySem.isTrue q X.env (eval q X.env) else PySem.isTrue r X.env (eval r X.env)) _ _ s
  split at e
  · rename_i h1 ea
    refine wpAny_bind (thn (ht.run pins s σ H (fun b' H1 => ∃ μ1, b' = true ∧ Nxt μ H μ1 H1 ∧ Rl (gx X) μ1 H1 h1) I ⟨μ, ρ, h, true, h1, R, S, by simp only [ea, asB], fun H1 μ1 n1 R1 => ⟨μ1, rfl, n1, R1⟩⟩) fun b' s1 ⟨H1, I1, μ1, eb, n1, R1⟩ => ?_)
    subst eb
    rw [if_pos rfl]
    exact hb.run pins s1 σ H1 Q I1 ⟨μ1, ρ, h1, z, h', R1, S.next R.free n1, e, fun H2 μ2 n2 R2 => k H2 μ2 (n1.trans n2) R2⟩
  · rename_i h1 ea
    refine wpAny_bind (thn (ht.run pins s σ H (fun b' H1 => ∃ μ1, b' = false ∧ Nxt μ H μ1 H1 ∧ Rl (gx X) μ1 H1 h1) I ⟨μ, ρ, h, false, h1, R, S, by simp only [ea, asB], fun H1 μ1 n1 R1 => ⟨μ1, rfl, n1, R1⟩⟩) fun b' s1 ⟨H1, I1, μ1, eb, n1, R1⟩ => ?_)
    subst eb
    rw [if_neg Bool.false_ne_true]
    exact hd.run pins s1 σ H1 Q I1 ⟨μ1, ρ, h1, z, h', R1, S.next R.free n1, e, fun H2 μ2 n2 R2 => k H2 μ2 (n1.trans n2) R2⟩
  · simp [asB] at e

/-! ### items -/
theorem e_ix (C : Cok X c cl) (ha : PE X p (tE (gx X) (ev cl a))) (hb : PE X q (tE (gx X) (ev cl b))) (hp : plainX q = true) : PE X (.Subscript p q pos) (tE (gx X) (ev cl (.ix a b))) := by
  have hu : X.A.units + 65 < cLine := by have := C.un; omega
  refine (pe_ix (ix_ok hu) ha hb (plain_ix hp)).weak fun σ H Q ht => ?_
  obtain ⟨μ, ρ, h, r, h', R, S, e, k⟩ := ht
  simp only [ev] at e
  split at e
  case h_2 => cases e
  rename_i x h1 ea
  split at e
  case h_2 => cases e
  rename_i y h2 eb
  split at e
  case h_2 => cases e
  rename_i z ez
  cases e
  exact tE.mk R S ea fun v H1 μ1 n1 R1 d1 w1 => tE.mk R1 (S.next R.free n1) eb fun u H2 μ2 n2 R2 d2 w2 => ⟨μ2, _, x, y, z, R2, d1.next R1.free n2, d2, ez, fun t dt => (k.trans (n1.trans n2)).val R2 dt⟩
theorem o_none : PO X none (tOo (gx X) (evO cl none)) := by
  refine ⟨fun pins s σ H Q I ht => po_none.run pins s σ H Q I ?_⟩
  obtain ⟨μ, ρ, h, r, h', R, S, e, k⟩ := ht
  cases e
  exact k H μ .refl R
theorem o_some (ha : PE X p (tE (gx X) (ev cl a))) : PO X (some p) (tOo (gx X) (evO cl (some a))) := by
  refine ⟨fun pins s σ H Q I ht => (po_some ha).run pins s σ H Q I ?_⟩
  obtain ⟨μ, ρ, h, r, h', R, S, e, k⟩ := ht
  simp only [evO] at e
  split at e
  · rename_i i h1 ea
    cases e
    exact tE.mk R S ea fun v H1 μ1 n1 R1 d1 w1 => ⟨i, d1, k H1 μ1 n1 R1⟩
  · cases e
theorem e_sl {lo hi : Option E} {lx hx : Option Expr} {p2 : Pos} (ha : PE X p (tE (gx X) (ev cl a))) (hl : PO X lx (tOo (gx X) (evO cl lo))) (hh : PO X hx (tOo (gx X) (evO cl hi))) : PE X (.Subscript p (.Slice lx hx none p2) pos) (tE (gx X) (ev cl (.sl a lo hi))) := by
  refine (L2.pe_slice sl_ok ha hl hh).weak fun σ H Q ht => ?_
  obtain ⟨μ, ρ, h, r, h', R, S, e, k⟩ := ht
  simp only [ev] at e
  split at e
  case h_2 => cases e
  rename_i x h1 ea
  split at e
  case h_2 => cases e
  rename_i l h2 el
  split at e
  case h_2 => cases e
  rename_i u h3 eu
  split at e
  case h_2 => cases e
  rename_i z ez
  cases e
  exact tE.mk R S ea fun v H1 μ1 n1 R1 d1 w1 => ⟨μ1, ρ, h1, l, h2, R1, S.next R.free n1, el, fun H2 μ2 n2 R2 => ⟨μ2, ρ, h2, u, _, R2, S.next R.free (n1.trans n2), eu, fun H3 μ3 n3 R3 =>
    ⟨μ3, _, x, _, R3, (d1.next R1.free n2).next R2.free n3, ez, k.trans ((n1.trans n2).trans n3)⟩⟩⟩
def tRevT (te : TE) (K : PySem.W.Frag) (X : Cx) : TE := fun σ H Q => te σ H fun x H1 => ∃ μ h ds, Rl (gx X) μ H1 h ∧ Dat K μ H1 (.tup ds) x ∧ Aft (gx X) μ H1 (.v (.tup ds.reverse)) h Q
theorem pe_revT {k : Nat} {te : TE} {p1 p2 p3 : Pos} (he : PE X p te) : PE X (.Subscript p (.Slice none none (some (.UnaryOp .USub (.Constant (.int 1) k p1) p2)) p3) pos) (tRevT te X.K X) := by
  refine ⟨fun pins s σ H Q I h => ?_⟩
  refine PyProof.Rows.Subscript_ (thn (he.run pins s σ H _ I h) fun v s1 ⟨x, H1, I1, r1, q1⟩ => ?_)
  obtain ⟨μ, hh, ds, R, ⟨t, ys, rfl, e2, e3⟩, q⟩ := q1
  cases r1
  have hst : PO X (some (.UnaryOp .USub (.Constant (.int 1) k p1) p2)) (tPart (tUn (rU fun i => .int (-i)) (tC (.int 1)))) := po_some (pe_un un_neg pe_int)
  refine wpAny_Slice (thn (po_none.run pins s1 σ H1 (fun o H2 => o = none ∧ H2 = H1) I1 ⟨rfl, rfl⟩) fun vl s2 ⟨l, H2, I2, pl, el, z2⟩ => thn (po_none.run pins s2 σ H2 (fun o H3 => o = none ∧ H3 = H2) I2 ⟨rfl, rfl⟩) fun vu s3 ⟨u, H3, I3, pu, eu, z3⟩ =>
    thn (hst.run pins s3 σ H3 (fun o H4 => o = some (-1) ∧ H4 = H3) I3 ⟨1, rfl, -1, rfl, rfl, rfl⟩) fun vs s4 ⟨o, H4, I4, ps, eo, z4⟩ => ?_)
  subst el z2 eu z3 eo z4
  have I5 : Inv X pins σ H4 { s4 with heap := s4.heap.push { cls := .type "slice", data := .fields #[vl, vu, vs] } } := I4.kept (t' := s4.toks) fun b ob q => Heap.get?_push_of_some _ q
  obtain ⟨its, r, ht, hz⟩ := I5.tuple e2.sq
  show wpAny (model X.prog X.w) X.A (PyProof.Rows.subscriptTail p (.Slice none none (some (.UnaryOp .USub (.Constant (.int 1) k p1) p2)) p3) (.ref t) (.ref s4.heap.objs.size)) (EP X pins σ Q) X.xe { s4 with heap := s4.heap.push { cls := .type "slice", data := .fields #[vl, vu, vs] } }
  refine PyProof.Rows.tail_any (ops := [.ref t, .ref s4.heap.objs.size]) ht.typeIs PyProof.Rows.slot_tuple_getitem.lookup ?_ (by with_unfolding_all rfl)
  exact rev_item ht (Heap.IsSliceOf.new _ vl vu vs) pl pu ps (by rw [← r.length]; exact hz) (tup_laid I5 r.reverse (by rw [List.length_reverse]; exact hz) s4.toks q R e3.rev)
theorem e_rev {k : Nat} {p1 p2 p3 : Pos} (ha : PE X p (tE (gx X) (ev cl a))) : PE X (.Subscript p (.Slice none none (some (.UnaryOp .USub (.Constant (.int 1) k p1) p2)) p3) pos) (tE (gx X) (ev cl (.rev a))) := by
  refine ((pe_revL ha).or (pe_revT ha)).weak fun σ H Q ht => ?_
  obtain ⟨μ, ρ, h, r, h', R, S, e, k⟩ := ht
  simp only [ev] at e
  split at e
  case h_2 => cases e
  rename_i x h1 ea
  split at e
  case h_2 => cases e
  rename_i z ez
  cases e
  unfold turned at ez
  split at ez
  · cases ez
    exact .inr (tE.mk R S ea fun v H1 μ1 n1 R1 d1 w1 => ⟨μ1, _, _, R1, d1, k.trans n1⟩)
  · split at ez
    · rename_i hl
      cases ez
      refine .inl (tE.mk R S ea fun v H1 μ1 n1 R1 d1 w1 => ?_)
      obtain ⟨l, vs, rfl, hq, hd⟩ := listOf_ok R1 d1 hl
      exact ⟨l, vs, rfl, hq, fun l' hl' => (k.trans n1).list R1 hd.rev hl'⟩
    · cases ez

/-! ### calls -/
theorem chk_any {es : List E} {xs : List Expr} (h : chkEs c es xs = true) : ∀ pos : Pos, (backTo pos (starEach xs X.env)).any (·.1) = false := by
  intro pos
  induction es generalizing xs with
  | nil =>
    simp only [chkEs] at h
    cases xs with
    | nil => rfl
    | cons _ _ => cases h
  | cons e es ih =>
    cases xs with
    | nil => rfl
    | cons x xs =>
      simp only [chkEs, Bool.and_eq_true] at h
      rw [star_of h.1.2]
      show (false || (backTo pos (starEach xs X.env)).any (·.1)) = false
      rw [ih h.2]; rfl
theorem e_call (C : Cok X c cl) {f : Nat} {n : Str} {np : Pos} (hf : c.fns[f]? = some n) (hg : isGl c.sc n = true) (hdb : (n == ("__debug__" : Str)) = false) (hes : chkEs c es xs = true) (ha : PA X xs (tA (gx X) (evs cl es))) : PE X (.Call (.Name n np) xs [] pos) (tE (gx X) (ev cl (.call f es))) := by
  obtain ⟨a, k, fd, ps, hm, hk, hr, hb, F⟩ := (C.own f n hf).has
  have hc := own_call F C.gd hr hb
  have key : PE X (.Call (.Name n np) xs [] pos) (fun σ H Q => tA (gx X) (evs cl es) σ H fun vs H1 => rCall (gx X) cl f vs H1 Q) := by
    refine ⟨fun pins s σ H Q I h => ?_⟩
    refine wpAny_Call_Name_kw (ld_glob I (C.gl n hg) hm ?_ hdb)
    cases xs with
    | nil =>
      refine PySem.W.callWith_K0 I.kIn hk ?_
      have h2 := Calls.spliced_nil (M := model X.prog X.w) (A := X.A) (E := X.xe) (s := s) (Q := fun _ s' => s' = s) rfl
      cases es with
      | nil =>
        obtain ⟨μ, ρ, h0, ds, h', R, S, e, kk⟩ := h
        cases e
        exact hc pins s σ H [] [] Q I .nil (kk [] H μ .refl R rfl)
      | cons e es => simp [chkEs] at hes
    | cons x xs =>
      have hpl : plainX x = true := by
        cases es with
        | nil => simp [chkEs] at hes
        | cons e es => simp only [chkEs, Bool.and_eq_true] at hes; exact hes.1.2
      have hpl2 : (backTo pos (starEach xs X.env)).any (·.1) = false := by
        cases es with
        | nil => simp [chkEs] at hes
        | cons e es => simp only [chkEs, Bool.and_eq_true] at hes; exact chk_any hes.2 pos
      exact PySem.W.callWith_K (h₀ := X.base) I.ok.mod.kin hk (thn (ha.run pos pins s σ H _ I h) fun us s1 ⟨vs, H1, I1, r, q⟩ => ⟨I1.kIn, hc pins s1 σ H1 vs us Q I1 r q⟩) (star_of hpl) hpl2
  refine key.weak fun σ H Q ht => ?_
  obtain ⟨μ, ρ, h, r, h', R, S, e, k⟩ := ht
  simp only [ev] at e
  split at e
  case h_2 => cases e
  rename_i ds h1 ea
  split at e
  case h_2 => cases e
  rename_i z h2 ec
  cases e
  exact ⟨μ, ρ, h, ds, h1, R, S, ea, fun vs H1 μ1 n1 R1 d1 => ⟨μ1, h1, ds, z, _, R1, d1, ec, k.trans n1⟩⟩

/-- a builtin by its name -/
theorem gname_is {g : Expr} {n : Str} (C : Cok X c cl) (h : gname c g n = true) : ∃ np, g = .Name n np ∧ Gl X n := by
  unfold gname at h
  split at h
  · rename_i m np
    simp only [Bool.and_eq_true, decide_eq_true_eq] at h
    obtain ⟨rfl, h2⟩ := h
    exact ⟨np, rfl, C.gl _ h2⟩
  · cases h
theorem w_bi {o : Bi} {σ : St} {H : Hp} {Q : VK} (ht : tE (gx X) (ev cl (.bi o es)) σ H Q) : tCB (rBi (gx X) o) (tRs (gx X) (evRs cl es)) σ H Q := by
  obtain ⟨μ, ρ, h, r, h', R, S, e, k⟩ := ht
  simp only [ev] at e
  split at e
  case h_2 => cases e
  rename_i rs h1 ea
  exact ⟨μ, ρ, h, rs, h1, R, S, ea, fun vs H1 μ1 n1 R1 d1 => ⟨μ1, h1, rs, r, h', R1, d1, e, k.trans n1⟩⟩
theorem e_bi (C : Cok X c cl) {o : Bi} {g : Expr} (hg : gname c g (biName o) = true) (hes : chkEs c es xs = true) (hne : xs.isEmpty = false) (ha : PA X xs (tRs (gx X) (evRs cl es))) : PE X (.Call g xs [] pos) (tE (gx X) (ev cl (.bi o es))) := by
  obtain ⟨np, rfl, hgl⟩ := gname_is C hg
  cases xs with
  | nil => cases hne
  | cons x xs =>
  cases es with
  | nil => simp [chkEs] at hes
  | cons e0 es =>
  have hes' := hes
  simp only [chkEs, Bool.and_eq_true] at hes'
  have hpl := hes'.1.2
  have hp2 := chk_any (X := X) hes'.2 pos
  have mg : ∀ n ∈ bnames, X.mg n = none := C.mgb
  cases o
  · exact (pe_callB bi_len hgl (mg _ (by decide)) (by decide +kernel) ha (by decide) (by decide) (star_of hpl) hp2).weak fun σ H Q => w_bi
  · exact (pe_callB bi_abs hgl (mg _ (by decide)) (by decide +kernel) ha (by decide) (by decide) (star_of hpl) hp2).weak fun σ H Q => w_bi
  · exact (pe_callTy bi_int hgl (mg _ (by decide)) (by decide +kernel) ha (by decide) (by decide) (star_of hpl) hp2).weak fun σ H Q => w_bi
  · exact (pe_callB (bi_min C.calm) hgl (mg _ (by decide)) (by decide +kernel) ha (by decide) (by decide) (star_of hpl) hp2).weak fun σ H Q => w_bi
  · exact (pe_callB (bi_max C.calm) hgl (mg _ (by decide)) (by decide +kernel) ha (by decide) (by decide) (star_of hpl) hp2).weak fun σ H Q => w_bi
  · exact (pe_callB (bi_sum C.calm) hgl (mg _ (by decide)) (by decide +kernel) ha (by decide) (by decide) (star_of hpl) hp2).weak fun σ H Q => w_bi
  · exact (pe_callB (bi_sorted C.calm C.un) hgl (mg _ (by decide)) (by decide +kernel) ha (by decide) (by decide) (star_of hpl) hp2).weak fun σ H Q => w_bi
  · exact (pe_callTy (bi_list C.calm) hgl (mg _ (by decide)) (by decide +kernel) ha (by decide) (by decide) (star_of hpl) hp2).weak fun σ H Q => w_bi
  · exact (pe_callTy bi_tuple hgl (mg _ (by decide)) (by decide +kernel) ha (by decide) (by decide) (star_of hpl) hp2).weak fun σ H Q => w_bi
  · exact (pe_callTy (bi_dict C.calm C.un) hgl (mg _ (by decide)) (by decide +kernel) ha (by decide) (by decide) (star_of hpl) hp2).weak fun σ H Q => w_bi
  · exact (pe_callB (bi_all C.calm) hgl (mg _ (by decide)) (by decide +kernel) ha (by decide) (by decide) (star_of hpl) hp2).weak fun σ H Q => w_bi
  · exact (pe_callB (bi_any C.calm) hgl (mg _ (by decide)) (by decide +kernel) ha (by decide) (by decide) (star_of hpl) hp2).weak fun σ H Q => w_bi
  · exact (pe_callB (bi_repr C.gd C.un) hgl (mg _ (by decide)) (by decide +kernel) ha (by decide) (by decide) (star_of hpl) hp2).weak fun σ H Q => w_bi
end
end Co

set_option linter.all false
set_option maxRecDepth 100000
set_option autoImplicit false
/-! Core17: isinstance, methods, ranges, dict displays. -/
namespace Co
open PySem L2

section
variable {X : Cx} {c : CS} {cl : Call} {a b d : E} {p q r : Expr} {pos : Pos} {es : List E} {xs : List Expr}

theorem tyName_is (t : Ty) : (tyName t : Str) ∈ bnames := by cases t <;> decide
theorem ty_boot (t : Ty) : bootBuiltins (tyName t) = some (.type (tyS t)) := by cases t <;> decide +kernel
theorem e_isi (C : Cok X c cl) {t : Ty} {g q : Expr} (hg : gname c g "isinstance" = true) (hq : gname c q (tyName t) = true) (hp : plainX p = true) (ha : PE X p (tE (gx X) (ev cl a))) : PE X (.Call g [p, q] [] pos) (tE (gx X) (ev cl (.isi t a))) := by
  obtain ⟨np, rfl, hgl⟩ := gname_is C hg
  obtain ⟨np2, rfl, hgl2⟩ := gname_is C hq
  have hq2 : PE X (.Name (tyName t) np2) (tC (.ty (tyS t))) := pe_bltn hgl2 (C.mgb _ (tyName_is t)) (ty_boot t) rfl (by cases t <;> decide) (by cases t <;> decide)
  refine (pe_callB (bi_isi t) hgl (C.mgb _ (by decide)) (by decide +kernel) (pa_cons ha (pa_cons hq2 pa_nil) (star_of hp)) (by decide) (by decide) (star_of hp) rfl).weak fun σ H Q ht => ?_
  obtain ⟨μ, ρ, h, r, h', R, S, e, k⟩ := ht
  simp only [ev] at e
  split at e
  case h_2 => cases e
  rename_i r0 h1 ea
  split at e
  case isFalse => cases e
  rename_i hk
  cases e
  exact tE.mk R S ea fun v H1 μ1 n1 R1 d1 w1 => ⟨μ1, _, r0, v, rfl, R1, d1, hk, (k.trans n1).val R1 rfl⟩

/-! ### methods -/
theorem chk_few {es : List E} {xs : List Expr} (h : chkEs c es xs = true) (hl : xs.length < 29) : ((backTo pos (starEach xs X.env)).all (fun x => !x.1) && (backToKw pos (keywordEach [] X.env)).all (fun x => x.1.isSome)
      && decide (xs.length + ([] : List Keyword).length + (if ([] : List Keyword).isEmpty then 0 else 1) < 30)) = true := by
  have h1 := chk_any (X := X) h pos
  have h2 : (backTo pos (starEach xs X.env)).all (fun x => !x.1) = true := by
    rw [List.all_eq_true]
    intro x hx
    have h3 := List.any_eq_false.mp h1 x hx
    simpa using h3
  have h3 : (backToKw pos (keywordEach [] X.env)).all (fun x => x.1.isSome) = true := rfl
  rw [h2, h3]
  simp
  omega
theorem e_me (C : Cok X c cl) {m : Me} {apos : Pos} (hes : chkEs c es xs = true) (hl : xs.length < 29) (hline2 : (apos.endLine == pos.line) = true) (hbase : attributeBase p (meName m) X.env (eval p X.env) = eval p X.env)
    (ho : PE X p (tE (gx X) (ev cl a))) (ha : PA X xs (tRs (gx X) (evRs cl es))) : PE X (.Call (.Attribute p (meName m) apos) xs [] pos) (tE (gx X) (ev cl (.me m a es))) := by
  refine ⟨fun pins s σ H Q I ht => ?_⟩
  obtain ⟨μ, ρ, h, r, h', R, S, e, k⟩ := ht
  simp only [ev] at e
  split at e
  case h_2 => cases e
  rename_i d h1 ea
  split at e
  case h_2 => cases e
  rename_i rs h2 eb
  split at e
  case isFalse => cases e
  rename_i hk
  obtain ⟨hlt, id, hid⟩ := me_id e
  have hw : tE (gx X) (ev cl a) σ H (fun x H1 => ∃ μ1, Nxt μ H μ1 H1 ∧ Rl (gx X) μ1 H1 h1 ∧ Dat X.K μ1 H1 d x) := tE.mk R S ea fun v H1 μ1 n1 R1 d1 w1 => ⟨μ1, n1, R1, d1⟩
  refine wpAny_Call_method_late hbase (chk_few hes hl) hline2 rfl (thn (ho.run pins s σ H _ I hw) fun u s1 ⟨x, H1, I1, rx, μ1, n1, R1, d1⟩ => ?_)
  obtain ⟨hT, hdn⟩ := recv_ok I1 R1 d1 rx (by rw [hk]; exact hlt)
  have F := mf_ok hid
  rw [hk] at hT
  refine ⟨mT (mkd h2 d), id, F.pa, F.slot, F.hty, hT, hdn, ?_⟩
  have hw2 : tRs (gx X) (evRs cl es) σ H1 (fun vs H2 => ∃ μ2, Nxt μ1 H1 μ2 H2 ∧ Rl (gx X) μ2 H2 h2 ∧ DatXs X.K μ2 H2 rs vs) := ⟨μ1, ρ, h1, rs, h2, R1, S.next R.free n1, eb, fun vs H2 μ2 n2 R2 d2 => ⟨μ2, n2, R2, d2⟩⟩
  have fin : ∀ (us : List Value) (vs : List V) (s2 : Shared) (H2 : Hp), Inv X pins σ H2 s2 → Vals vs us → (∃ μ2, Nxt μ1 H1 μ2 H2 ∧ Rl (gx X) μ2 H2 h2 ∧ DatXs X.K μ2 H2 rs vs) → wpAny (model X.prog X.w) X.A (call (.builtin id) (u :: us)) (EP X pins σ Q) X.xe s2 := by
    intro us vs s2 H2 I2 r2 ⟨μ2, n2, R2, d2⟩
    exact mt_ok C.un hid pins s2 σ H2 x vs u us Q I2 rx r2 ⟨μ2, h2, d, rs, r, h', R2, d1.next R1.free n2, d2, rfl, e, k.trans (n1.trans n2)⟩
  cases xs with
  | nil =>
    cases es with
    | cons e0 es => simp [chkEs] at hes
    | nil =>
      obtain ⟨_, _, _, _, _, _, _, eb', kk⟩ := hw2
      refine Calls.callWith_builtin rfl (PySem.evalArgs_none ?_)
      cases eb
      exact fin [] [] s1 H1 I1 .nil ⟨μ1, .refl, R1, rfl⟩
  | cons y ys =>
    cases es with
    | nil => simp [chkEs] at hes
    | cons e0 es =>
      have hes' := hes
      simp only [chkEs, Bool.and_eq_true] at hes'
      have hA := ha.run pos pins s1 σ H1 _ I1 hw2
      rw [star_of hes'.1.2] at hA ⊢
      refine Calls.callWith_builtin (by show (false || (backTo pos (starEach ys X.env)).any (·.1)) = false; rw [chk_any hes'.2 pos]; rfl) (Calls.evalArgs_plain ?_)
      exact thn hA fun us s2 ⟨vs, H2, I2, r2, q2⟩ => fin us vs s2 H2 I2 r2 q2

/-! ### ranges -/
theorem rg_dats {K : PySem.W.Frag} {μ : List Addr} {H : Hp} (x y : Int) : Dats K μ H (rangeD x y) (rgV x y) := by
  unfold rangeD rgV
  exact Dats.map _ fun _ _ => rfl
theorem rangeOf_is {rs : List Res} {ds : List D} (e : rangeOf rs = some ds) : (∃ n, rs = [.v (.int n)] ∧ rangeOk 0 n = true ∧ ds = rangeD 0 n) ∨ ∃ i j, rs = [.v (.int i), .v (.int j)] ∧ rangeOk i j = true ∧ ds = rangeD i j := by
  unfold rangeOf at e
  split at e
  · split at e
    · cases e; exact .inl ⟨_, rfl, ‹_›, rfl⟩
    · cases e
  · split at e
    · cases e; exact .inr ⟨_, _, rfl, ‹_›, rfl⟩
    · cases e
  · cases e
theorem rgOk_of {i j : Int} (h : rangeOk i j = true) : RgOk i j := by
  unfold rangeOk at h
  simp only [Bool.and_eq_true, decide_eq_true_eq] at h
  exact ⟨by omega, by omega, by omega, by omega, by omega⟩
/-- range(..) as an argument -/
def tRg (G : Ctx) (f : Rho → Hh → Option (List Res × Hh)) : St → Hp → (Int → Int → Hp → Prop) → Prop := fun σ H Q => ∃ μ ρ h rs h' i j, Rl G μ H h ∧ Rs G.K μ H ρ σ ∧ f ρ h = some (rs, h') ∧
  (rs = [.v (.int i), .v (.int j)] ∨ (i = 0 ∧ rs = [.v (.int j)])) ∧ ∀ H' μ', Nxt μ H μ' H' → Rl G μ' H' h' → Q i j H'
theorem p_rg1 (C : Cok X c cl) {g x1 : Expr} {e1 : E} (hg : gname c g "range" = true) (hp : plainX x1 = true) (h1 : PE X x1 (tE (gx X) (ev cl e1))) : PRg X (.Call g [x1] [] pos) (tRg (gx X) (evRs cl [e1])) := by
  obtain ⟨np, rfl, hgl⟩ := gname_is C hg
  intro pins s σ H Q I ht
  obtain ⟨μ, ρ, h, rs, h', i, j, R, S, e, hrs, k⟩ := ht
  refine prg_1 hgl (C.mgb _ (by decide)) h1 (star_of hp) pins s σ H Q I ?_
  simp only [evRs] at e
  split at e
  case h_2 => cases e
  rename_i r1 h2 ea
  cases e
  rcases hrs with hrs | ⟨rfl, hrs⟩
  · cases hrs
  · cases hrs
    exact tE.mk R S ea fun v H1 μ1 n1 R1 d1 w1 => ⟨j, d1, k H1 μ1 n1 R1⟩
theorem p_rg2 (C : Cok X c cl) {g x1 x2 : Expr} {e1 e2 : E} (hg : gname c g "range" = true) (hp1 : plainX x1 = true) (hp2 : plainX x2 = true) (h1 : PE X x1 (tE (gx X) (ev cl e1))) (h2 : PE X x2 (tE (gx X) (ev cl e2))) :
    PRg X (.Call g [x1, x2] [] pos) (tRg (gx X) (evRs cl [e1, e2])) := by
  obtain ⟨np, rfl, hgl⟩ := gname_is C hg
  intro pins s σ H Q I ht
  obtain ⟨μ, ρ, h, rs, h', i, j, R, S, e, hrs, k⟩ := ht
  refine prg_2 hgl (C.mgb _ (by decide)) h1 h2 (star_of hp1) (star_of hp2) (by rw [star_of hp2]; rfl) pins s σ H Q I ?_
  simp only [evRs] at e
  split at e
  case h_2 => cases e
  rename_i r1 h3 ea
  split at e
  case h_2 => cases e
  rename_i r2 h4 eb
  split at eb
  case h_2 => cases eb
  rename_i r3 h5 ec
  cases eb
  cases e
  rcases hrs with hrs | ⟨rfl, hrs⟩
  · cases hrs
    exact tE.mk R S ea fun v H1 μ1 n1 R1 d1 w1 => tE.mk R1 (S.next R.free n1) ec fun u H2 μ2 n2 R2 d2 w2 => ⟨i, j, d1, d2, k H2 μ2 (n1.trans n2) R2⟩
  · cases hrs
theorem evRs_len : ∀ {es : List E} {ρ : Rho} {h : Hh} {rs : List Res} {h1 : Hh}, evRs cl es ρ h = some (rs, h1) → rs.length = es.length := by
  intro es
  induction es with
  | nil => intro ρ h rs h1 e; cases e; rfl
  | cons a es ih =>
    intro ρ h rs h1 e
    simp only [evRs] at e
    split at e
    · split at e
      · rename_i e3
        cases e
        simp [ih e3]
      · cases e
    · cases e
theorem p_rg0 {x : Expr} (hl : es.length ≠ 1 ∧ es.length ≠ 2) : PRg X x (tRg (gx X) (evRs cl es)) := by
  intro pins s σ H Q I ht
  obtain ⟨μ, ρ, h, rs, h', i, j, R, S, e, hrs, k⟩ := ht
  have := evRs_len e
  rcases hrs with rfl | ⟨_, rfl⟩ <;> simp at this <;> omega
theorem e_lstR (C : Cok X c cl) {g g2 : Expr} {pos2 : Pos} (hg : gname c g "list" = true) (hr : PRg X (.Call g2 xs [] pos2) (tRg (gx X) (evRs cl es))) : PE X (.Call g [.Call g2 xs [] pos2] [] pos) (tE (gx X) (ev cl (.lstR es))) := by
  obtain ⟨np, rfl, hgl⟩ := gname_is C hg
  refine (pe_listRg C.calm hgl (C.mgb _ (by decide)) hr).weak fun σ H Q ht => ?_
  obtain ⟨μ, ρ, h, r, h', R, S, e, k⟩ := ht
  simp only [ev] at e
  split at e
  case h_2 => cases e
  rename_i rs h1 ea
  split at e
  case h_2 => cases e
  rename_i ds hd
  cases e
  rcases rangeOf_is hd with ⟨n, rfl, ho, rfl⟩ | ⟨i, j, rfl, ho, rfl⟩
  · exact ⟨μ, ρ, h, _, _, 0, n, R, S, ea, .inr ⟨rfl, rfl⟩, fun H1 μ1 n1 R1 => ⟨rgOk_of ho, fun l hl => (k.trans n1).list R1 (rg_dats _ _) hl⟩⟩
  · exact ⟨μ, ρ, h, _, _, i, j, R, S, ea, .inl rfl, fun H1 μ1 n1 R1 => ⟨rgOk_of ho, fun l hl => (k.trans n1).list R1 (rg_dats _ _) hl⟩⟩
theorem e_tupR (C : Cok X c cl) {g g2 : Expr} {pos2 : Pos} (hg : gname c g "tuple" = true) (hr : PRg X (.Call g2 xs [] pos2) (tRg (gx X) (evRs cl es))) : PE X (.Call g [.Call g2 xs [] pos2] [] pos) (tE (gx X) (ev cl (.tupR es))) := by
  obtain ⟨np, rfl, hgl⟩ := gname_is C hg
  refine ⟨fun pins s σ H Q I ht => ?_⟩
  obtain ⟨μ, ρ, h, r, h', R, S, e, k⟩ := ht
  simp only [ev] at e
  split at e
  case h_2 => cases e
  rename_i rs h1 ea
  split at e
  case h_2 => cases e
  rename_i ds hd
  cases e
  obtain ⟨i, j, hrs, ho, rfl⟩ : ∃ i j, (rs = [.v (.int i), .v (.int j)] ∨ (i = 0 ∧ rs = [.v (.int j)])) ∧ rangeOk i j = true ∧ ds = rangeD i j := by
    rcases rangeOf_is hd with ⟨n, rfl, ho, rfl⟩ | ⟨i, j, rfl, ho, rfl⟩
    · exact ⟨0, n, .inr ⟨rfl, rfl⟩, ho, rfl⟩
    · exact ⟨i, j, .inl rfl, ho, rfl⟩
  obtain ⟨b1, b2, b3, b4, b5⟩ := rgOk_of ho
  have hw : tRg (gx X) (evRs cl es) σ H (fun i' j' H1 => ∃ μ1, i' = i ∧ j' = j ∧ Nxt μ H μ1 H1 ∧ Rl (gx X) μ1 H1 h') := ⟨μ, ρ, h, rs, h', i, j, R, S, ea, hrs, fun H1 μ1 n1 R1 => ⟨μ1, rfl, rfl, n1, R1⟩⟩
  refine PyProof.Rows.Call_ (ld_blt I hgl (C.mgb _ (by decide)) PyProof.Rows.boot_tuple (PyProof.Rows.callWith_type1 (PyProof.Rows.args_cons (thn (hr pins s σ H _ I hw) fun x s1 ⟨rr, i', j', t, u, v, H1, ex, hR, I1, μ1, ei, ej, n1, R1⟩ => PyProof.Rows.args_nil ?_) rfl) rfl))
  subst ex ei ej
  refine call_tuple_range (n := (j' - i').toNat) (I1.ok.hd C.calm) hR (small_one b1 b2 b3 b4) (PyProof.Rows.rangeSize_nat i' j') b5 fun h' tk acc hk hi => ?_
  have I2 : Inv X pins σ H1 { s1 with heap := h', toks := tk } := I1.kept hk
  have := tup_laid I2 (vals_rg hi) (by rw [rgV_length, sizeLine_eq]; omega) tk (k.trans n1) R1 (rg_dats i' j')
  rw [Array.toArray_toList] at this
  exact this

/-! ### dict displays -/
def trs (cl : Call) (G : Ctx) : List E → List (TE × TE)
  | k :: v :: es => (tE G (ev cl k), tE G (ev cl v)) :: trs cl G es
  | _ => []
theorem pairs_tr (X : Cx) : ∀ (es : List E) (σ : St) (H : Hp) (μ : List Addr) (ρ : Rho) (h : Hh) (ds : List D) (h' : Hh) (kvs : List (D × D)) (Q : List (V × V) → Hp → Prop), Rl (gx X) μ H h → Rs X.K μ H ρ σ → evs cl es ρ h = some (ds, h') → pairUp ds = some kvs →
    (∀ ps H' μ', Nxt μ H μ' H' → Rl (gx X) μ' H' h' → Paired (fun (p : D × D) (q : V × V) => Dat X.K μ' H' p.1 q.1 ∧ Dat X.K μ' H' p.2 q.2) kvs ps → Q ps H') → tPairs (trs cl (gx X) es) σ H Q
  | [], σ, H, μ, ρ, h, ds, h', kvs, Q, R, S, e, ep, k => by
    cases e
    cases ep
    exact k [] H μ .refl R .nil
  | [e1], σ, H, μ, ρ, h, ds, h', kvs, Q, R, S, e, ep, k => by
    simp only [evs] at e
    split at e
    · cases e; cases ep
    · cases e
  | e1 :: e2 :: es, σ, H, μ, ρ, h, ds, h', kvs, Q, R, S, e, ep, k => by
    simp only [evs, asD] at e
    cases ea : ev cl e1 ρ h with
    | none => rw [ea] at e; cases e
    | some y =>
    obtain ⟨r1, h1⟩ := y
    rw [ea] at e
    simp only at e
    cases eb : ev cl e2 ρ (adopt r1 h1).2 with
    | none => rw [eb] at e; cases e
    | some y =>
    obtain ⟨r2, h2⟩ := y
    rw [eb] at e
    simp only at e
    cases ec : evs cl es ρ (adopt r2 h2).2 with
    | none => rw [ec] at e; cases e
    | some y =>
    obtain ⟨ds', h3⟩ := y
    rw [ec] at e
    cases e
    simp only [pairUp] at ep
    cases eq : pairUp ds' with
    | none => rw [eq] at ep; cases ep
    | some kvs' =>
    rw [eq] at ep
    cases ep
    refine tE.mk R S ea fun v H1 μ1 n1 R1 d1 w1 => ?_
    obtain ⟨μ2, n2, R2, d2⟩ := adopt_ok n1 R1 d1 w1
    refine tE.mk R2 (S.next R.free n2) eb fun u H2 μ3 n3 R3 d3 w3 => ?_
    obtain ⟨μ4, n4, R4, d4⟩ := adopt_ok n3 R3 d3 w3
    refine pairs_tr X es σ H2 μ4 ρ _ ds' _ kvs' _ R4 (S.next R.free (n2.trans n4)) ec eq fun ps H' μ' n' R' hp => ?_
    exact k _ H' μ' ((n2.trans n4).trans n') R' (.cons ⟨(d2.next R2.free n4).next R4.free n', d4.next R4.free n'⟩ hp)
theorem e_dlit {ks : List (Option Expr)} {vs : List Expr} (hp : PPs X pos ks vs (trs cl (gx X) es)) (hall : ks.all (·.isSome) = true) (hl : ks.length = vs.length) (h0 : ks ≠ []) (h15 : ks.length ≤ 15) : PE X (.Dict ks vs pos) (tE (gx X) (ev cl (.dlit es))) := by
  refine (pe_disp hp hall hl h0 h15).weak fun σ H Q ht => ?_
  obtain ⟨μ, ρ, h, r, h', R, S, e, k⟩ := ht
  simp only [ev] at e
  split at e
  case h_2 => cases e
  rename_i ds h1 ea
  split at e
  case h_2 => cases e
  rename_i kvs eq
  split at e
  case h_2 => cases e
  rename_i hlk
  split at e
  case isFalse => cases e
  rename_i hc
  cases e
  simp only [Bool.and_eq_true, decide_eq_true_eq] at hc
  intro l hl0
  have hm : l ∉ μ := fun z => R.free.some z hl0
  have n0 : Nxt μ H (μ ++ [l]) (upd H l (.dK [])) := .cell hl0
  have R0 : Rl (gx X) (μ ++ [l]) (upd H l (.dK [])) (h ++ [.dct []]) := (R.laid hl0).taken hm (.inl ⟨[], upd_same, .nil⟩)
  refine pairs_tr X es σ _ (μ ++ [l]) ρ _ ds h1 kvs _ R0 (S.next R.free n0) ea eq fun ps H' μ' n' R' hpp => ?_
  obtain ⟨l', el', hm', ok⟩ := R'.place hlk
  have el : μ'[h.length]? = some l := by
    obtain ⟨ν, hν⟩ := n'.sub
    rw [hν, List.append_assoc, List.getElem?_append_right (by rw [R.len]; exact Nat.le_refl _)]
    simp [R.len]
  rw [el] at el'
  cases el'
  have hH : H' l = some (.dK []) := by
    rcases ok with ⟨ks', e1, e2⟩ | ⟨xs, _, hz, _, _, _, e2⟩
    · cases e2; exact e1
    · cases e2; exact absurd rfl hz
  refine ⟨hH, ?_⟩
  obtain ⟨vk, hv1, hv2⟩ : ∃ vk : List ((D × D) × V), vk.map (·.1) = kvs ∧ (ps = vk.map fun m => (kV (toKey m.1.1), m.2)) ∧ ∀ m ∈ vk, keyOk m.1.1 = true ∧ Dat X.K μ' H' m.1.2 m.2 := by
    have hk := hc.1
    clear eq hc ea k
    induction hpp with
    | nil => exact ⟨[], rfl, rfl, fun _ h => nomatch h⟩
    | @cons a b as bs h1 _ ih =>
      simp only [List.all_cons, Bool.and_eq_true] at hk
      obtain ⟨vk, rfl, rfl, h2⟩ := ih hk.2
      refine ⟨(a, b.2) :: vk, rfl, ?_, fun m hm => ?_⟩
      · simp only [List.map_cons]
        rw [← h1.1.key hk.1]
      · rcases List.mem_cons.mp hm with rfl | hm
        · exact ⟨hk.1, h1.2⟩
        · exact h2 m hm
  obtain ⟨rfl, hv3⟩ := hv2
  subst hv1
  refine ⟨vk.map fun m => (toKey m.1.1, m.2), by rw [List.map_map]; rfl, by simpa using hc.2, ?_⟩
  have nw : Nxt μ' H' μ' (upd H' l (.dK (mergeK [] (vk.map fun m => (toKey m.1.1, m.2))))) := .wrote hm'
  refine k (.ref l) _ μ' ((n0.trans n').trans nw) (R'.wrote el (.inl ⟨_, upd_same, merge_k vk (fun m hm => ⟨(hv3 m hm).1, (hv3 m hm).2.next R'.free nw⟩) .nil⟩)) ⟨l, rfl, el⟩ trivial
end
end Co

set_option linter.all false
set_option maxRecDepth 100000
set_option autoImplicit false
/-! Core18: targets, walks, comprehensions. -/
namespace Co
open PySem L2

section
variable {X : Cx} {c : CS} {cl : Call} {G : Ctx} {K : PySem.W.Frag} {μ μ1 μ2 : List Addr} {H H1 H2 : Hp} {h h1 h2 : Hh} {ρ ρ' : Rho} {σ : St} {pos : Pos}

/-- what a target takes -/
def DatT (K : PySem.W.Frag) (μ : List Addr) (H : Hp) : Tg → D → V → Prop
  | .nm _, d, v => Dat K μ H d v
  | .tp _, d, v => ∃ ds a xs, d = .tup ds ∧ v = .ref a ∧ SqT K H a xs ∧ Dats K μ H ds xs
theorem DatT.of {tg : Tg} {d : D} {v : V} (x : Dat K μ H d v) (hb : ∃ ρ ρ', bindT tg d ρ = some ρ') : DatT K μ H tg d v := by
  cases tg with
  | nm i => exact x
  | tp ts =>
    obtain ⟨ρ, ρ', hb⟩ := hb
    cases d with
    | tup ds =>
      obtain ⟨a, xs, rfl, e2, e3⟩ := x
      exact ⟨ds, a, xs, rfl, rfl, e2.sq, e3⟩
    | _ => simp [bindT] at hb
def tG (G : Ctx) (tg : Tg) : TG := fun v σ H Q => ∃ μ h ρ d ρ', Rl G μ H h ∧ Rs G.K μ H ρ σ ∧ DatT G.K μ H tg d v ∧ bindT tg d ρ = some ρ' ∧
  ∀ σ', Rs G.K μ H ρ' σ' → σ'.length = σ.length → (∀ i, i ∉ slotsT tg → σ'[i]? = σ[i]?) → Q σ' H
def tGs (G : Ctx) (ts : List Tg) : TGs := fun vs σ H Q => ∃ μ h ρ ds ρ', Rl G μ H h ∧ Rs G.K μ H ρ σ ∧ Dats G.K μ H ds vs ∧ bindTs ts ds ρ = some ρ' ∧
  ∀ σ', Rs G.K μ H ρ' σ' → σ'.length = σ.length → (∀ i, i ∉ slotsTs ts → σ'[i]? = σ[i]?) → Q σ' H
theorem PG.weak {x : Expr} {t t' : TG} (a : PG X x t) (i : ∀ v σ H Q, t' v σ H Q → t v σ H Q) : PG X x t' := ⟨fun pins s σ H v u Q I r hw => a.run pins s σ H v u Q I r (i v σ H Q hw)⟩
theorem PGs.weak {x : List Expr} {t t' : TGs} (a : PGs X x t) (i : ∀ v σ H Q, t' v σ H Q → t v σ H Q) : PGs X x t' := ⟨fun pins s σ H v u Q I r hw => a.run pins s σ H v u Q I r (i v σ H Q hw)⟩
theorem tgt_asg {tg : Tg} {x : Expr} (h : chkT c tg x = true) (xs : List Expr) : assignEach (x :: xs) X.env = (false, assign x X.env) :: assignEach xs X.env := by
  cases tg <;> cases x <;> first | rfl | (simp [chkT] at h)
theorem tgts_asg : ∀ {ts : List Tg} {xs : List Expr}, chkTs c ts xs = true → (assignEach xs X.env).length = ts.length ∧ (assignEach xs X.env).findIdx? (·.1) = none
  | [], xs, h => by
    simp only [chkTs] at h
    cases xs with
    | nil => exact ⟨rfl, rfl⟩
    | cons _ _ => cases h
  | t :: ts, xs, h => by
    cases xs with
    | nil => simp [chkTs] at h
    | cons x xs =>
      simp only [chkTs, Bool.and_eq_true] at h
      obtain ⟨h1, h2⟩ := tgts_asg h.2
      rw [tgt_asg h.1]
      refine ⟨by simp [h1], ?_⟩
      rw [List.findIdx?_cons]
      simp [h2]
mutual
theorem g_ok (C : Cok X c cl) : ∀ (tg : Tg) (x : Expr), chkT c tg x = true → PG X x (tG (gx X) tg)
  | .nm i, x, hc => by
    cases x with
    | Name n pos =>
      simp only [chkT, Bool.and_eq_true, decide_eq_true_eq] at hc
      obtain ⟨hl, hf⟩ := C.loc n hc.2
      refine PG.weak (pg_name (i := i) C.nd (by rw [C.N]; exact hc.1) hl hf) fun v σ H Q ht => ?_
      obtain ⟨μ, h, ρ, d, ρ', R, S, dt, hb, k⟩ := ht
      simp only [bindT] at hb
      split at hb
      · cases hb
        exact k _ (S.set dt) (by simp) fun j hj => List.getElem?_set_ne (fun z => hj (by simp [slotsT, z]))
      · cases hb
    | _ => simp [chkT] at hc
  | .tp ts, x, hc => by
    cases x with
    | Tuple xs k pos =>
      simp only [chkT] at hc
      obtain ⟨h1, h2⟩ := tgts_asg (X := X) hc
      refine PG.weak (pg_tup C.calm (gs_ok C ts xs hc) h1 h2) fun v σ H Q ht => ?_
      obtain ⟨μ, h, ρ, d, ρ', R, S, ⟨ds, a, ys, rfl, rfl, hq, hd⟩, hb, k⟩ := ht
      simp only [bindT] at hb
      have hlen : ∀ {ts : List Tg} {ds : List D} {ρ ρ' : Rho}, bindTs ts ds ρ = some ρ' → ds.length = ts.length := by
        intro ts
        induction ts with
        | nil => intro ds ρ ρ' hb; cases ds with | nil => rfl | cons _ _ => simp [bindTs] at hb
        | cons t ts ih =>
          intro ds ρ ρ' hb
          cases ds with
          | nil => simp [bindTs] at hb
          | cons d ds =>
            simp only [bindTs] at hb
            split at hb
            · simp [ih hb]
            · cases hb
      exact ⟨a, ys, rfl, hq, by rw [hd.length, hlen hb], μ, h, ρ, ds, ρ', R, S, hd, hb, fun σ' S' l' f' => k σ' S' l' fun i hi => f' i (by simpa [slotsT] using hi)⟩
    | _ => simp [chkT] at hc
theorem gs_ok (C : Cok X c cl) : ∀ (ts : List Tg) (xs : List Expr), chkTs c ts xs = true → PGs X xs (tGs (gx X) ts)
  | [], xs, hc => by
    simp only [chkTs] at hc
    cases xs with
    | cons _ _ => cases hc
    | nil =>
      refine PGs.weak pgs_nil fun v σ H Q ht => ?_
      obtain ⟨μ, h, ρ, ds, ρ', R, S, dt, hb, k⟩ := ht
      cases ds with
      | cons _ _ => simp [bindTs] at hb
      | nil => cases hb; exact ⟨dt, k σ S rfl fun _ _ => rfl⟩
  | t :: ts, xs, hc => by
    cases xs with
    | nil => simp [chkTs] at hc
    | cons x xs =>
      simp only [chkTs, Bool.and_eq_true] at hc
      refine PGs.weak (pgs_cons (g_ok C t x hc.1) (gs_ok C ts xs hc.2) (by rw [tgt_asg hc.1]; rfl)) fun v σ H Q ht => ?_
      obtain ⟨μ, h, ρ, ds, ρ', R, S, dt, hb, k⟩ := ht
      cases ds with
      | nil => simp [bindTs] at hb
      | cons d ds =>
        obtain ⟨u, r, rfl, d1, d2⟩ := dt
        simp only [bindTs] at hb
        split at hb
        · rename_i ρ1 hb1
          refine ⟨u, r, rfl, μ, h, ρ, d, ρ1, R, S, DatT.of d1 ⟨_, _, hb1⟩, hb1, fun σ1 S1 l1 f1 => ?_⟩
          refine ⟨μ, h, ρ1, ds, ρ', R, S1, d2, hb, fun σ2 S2 l2 f2 => k σ2 S2 (l2.trans l1) fun i hi => ?_⟩
          simp only [slotsTs, List.mem_append, not_or] at hi
          rw [f2 i hi.2, f1 i hi.1]
        · cases hb
end

/-! ### walks -/
/-- an iterator that walks as the interpreter does -/
def Walks (G : Ctx) (tg : Tg) (w : Walk) (J : It) (μ1 : List Addr) (H1 : Hp) : Prop := ∀ i μ2 H2 h2, Nxt μ1 H1 μ2 H2 → Rl G μ2 H2 h2 → w.ok h2 = true →
  (w.ds.length ≤ i → J.stop i H2) ∧ ∀ d, w.ds[i]? = some d → (∃ ρ ρ', bindT tg d ρ = some ρ') → J.go i H2 ∧ ∀ x H3, J.yld i H2 x H3 → Nxt μ2 H2 μ2 H3 ∧ Rl G μ2 H3 h2 ∧ DatT G.K μ2 H3 tg d x
def tW (G : Ctx) (tg : Tg) (f : Rho → Hh → Option (Walk × Hh)) : TI := fun σ H R => ∃ μ ρ h w h', Rl G μ H h ∧ Rs G.K μ H ρ σ ∧ f ρ h = some (w, h') ∧ ∀ J H1 μ1, Nxt μ H μ1 H1 → Rl G μ1 H1 h' → Walks G tg w J μ1 H1 → R J H1
theorem PI.weak {tx x : Expr} {t t' : TI} (a : PI X tx x t) (i : ∀ σ H R, t' σ H R → t σ H R) : PI X tx x t' := ⟨fun pins s σ H R I hw => a.run pins s σ H R I (i σ H R hw)⟩
theorem PI.or {tx x : Expr} {t t' : TI} (a : PI X tx x t) (b : PI X tx x t') : PI X tx x (fun σ H R => t σ H R ∨ t' σ H R) := ⟨fun pins s σ H R I hw => hw.elim (a.run pins s σ H R I) (b.run pins s σ H R I)⟩

/-- a list or tuple that is walked stands as it was -/
theorem stay_list {r : Res} {ds : List D} {a : Addr} (R1 : Rl G μ1 H1 h1) (dx : DatX G.K μ1 H1 r (.ref a)) (hl : listOf h1 r = some ds) (n : Nxt μ1 H1 μ2 H2) (R2 : Rl G μ2 H2 h2) (hs : stays (guardOf h1 r) h2 = true) : ∃ xs, SqL G.K H2 a xs ∧ Dats G.K μ2 H2 ds xs := by
  cases r with
  | f es =>
    cases hl
    obtain ⟨p, xs, e0, e2, e3, e4⟩ := dx
    cases e0
    exact ⟨xs, .of (n.keep _ _ e2 e4), e3.next R1.free n⟩
  | v d =>
    cases d with
    | fl es =>
      cases hl
      obtain ⟨p, xs, e0, e2, e3⟩ := dx
      cases e0
      refine ⟨xs, ?_, e3.next R1.free n⟩
      rcases e2 with ⟨o, e2⟩ | e2
      · exact .inl (.inr ⟨o, n.keep _ _ e2 (R1.free.frz e2)⟩)
      · exact .inr e2
    | ref k =>
      simp only [listOf] at hl
      split at hl
      · rename_i es he
        cases hl
        simp only [guardOf, he, stays] at hs
        split at hs
        · rename_i ys hy
          have : ys = ds := of_decide_eq_true hs
          subst this
          obtain ⟨p, e0, ep⟩ := dx
          cases e0
          obtain ⟨ν, hν⟩ := n.sub
          have ep2 : μ2[k]? = some a := by rw [hν, List.getElem?_append_left (List.getElem?_eq_some_iff.mp ep).1]; exact ep
          obtain ⟨p, xs, e1, _, _, h3, h4⟩ := lst_at R2 hy (v := .ref a) ⟨a, rfl, ep2⟩
          cases e1
          exact ⟨xs, .of h3, h4⟩
        · cases hs
      · cases hl
    | _ => simp [listOf] at hl
theorem walks_list {tg : Tg} {r : Res} {ds : List D} {a : Addr} (R1 : Rl G μ1 H1 h1) (dx : DatX G.K μ1 H1 r (.ref a)) (hl : listOf h1 r = some ds) : Walks G tg ⟨ds, guardOf h1 r, none⟩ (Itl G.K a) μ1 H1 := by
  intro i μ2 H2 h2 n R2 hok
  unfold Walk.ok at hok
  rw [Bool.and_eq_true] at hok
  obtain ⟨xs, hq, hd⟩ := stay_list R1 dx hl n R2 hok.1
  refine ⟨fun hi => ⟨xs, hq, by rw [hd.length]; exact hi⟩, fun d hdi hb => ?_⟩
  obtain ⟨v, e1, e2⟩ := hd.get hdi
  refine ⟨⟨xs, v, hq, e1⟩, fun x H3 hy => ?_⟩
  obtain ⟨rfl, hy⟩ := hy
  have := hy xs hq
  rw [e1] at this
  cases this
  exact ⟨.refl, R2, DatT.of e2 hb⟩
theorem walks_tup {tg : Tg} {ds : List D} {a : Addr} (R1 : Rl G μ1 H1 h1) (dx : Dat G.K μ1 H1 (.tup ds) (.ref a)) : Walks G tg ⟨ds, none, none⟩ (Itt G.K a) μ1 H1 := by
  intro i μ2 H2 h2 n R2 hok
  obtain ⟨p, xs, e0, e2, hd⟩ := Dat.next R1.free n dx
  cases e0
  have hq : SqT G.K H2 a xs := e2.sq
  refine ⟨fun hi => ⟨xs, hq, by rw [hd.length]; exact hi⟩, fun d hdi hb => ?_⟩
  obtain ⟨v, e1, e2⟩ := hd.get hdi
  refine ⟨⟨xs, v, hq, e1⟩, fun x H3 hy => ?_⟩
  obtain ⟨rfl, hy⟩ := hy
  have := hy xs hq
  rw [e1] at this
  cases this
  exact ⟨.refl, R2, DatT.of e2 hb⟩
theorem walks_str {tg : Tg} {x : Str} : Walks G tg ⟨signs x, none, none⟩ (Its x) μ1 H1 := by
  intro i μ2 H2 h2 n R2 hok
  refine ⟨fun hi => by show x.cps.size ≤ i; simpa [signs] using hi, fun d hdi hb => ?_⟩
  simp only [signs, List.getElem?_map] at hdi
  cases hc : x.cps.toList[i]? with
  | none => rw [hc] at hdi; cases hdi
  | some ch =>
    rw [hc] at hdi
    cases hdi
    have hc' : x.cps[i]? = some ch := by rw [← Array.getElem?_toList]; exact hc
    refine ⟨(Array.getElem?_eq_some_iff.mp hc').1, fun y H3 hy => ?_⟩
    obtain ⟨rfl, ch', h1, rfl⟩ := hy
    rw [hc'] at h1
    cases h1
    exact ⟨.refl, R2, DatT.of rfl hb⟩
theorem walks_range {tg : Tg} (x y : Int) : Walks G tg ⟨rangeD x y, none, none⟩ (Itr x (y - x).toNat) μ1 H1 := by
  intro i μ2 H2 h2 n R2 hok
  refine ⟨fun hi => by show (y - x).toNat ≤ i; simpa [rangeD] using hi, fun d hdi hb => ?_⟩
  simp only [rangeD, List.getElem?_map] at hdi
  cases hc : (List.range (y - x).toNat)[i]? with
  | none => rw [hc] at hdi; cases hdi
  | some j =>
    rw [hc] at hdi
    cases hdi
    obtain ⟨hlt, hj⟩ := List.getElem?_eq_some_iff.mp hc
    have hlt2 : i < (y - x).toNat := by rw [List.length_range] at hlt; exact hlt
    simp at hj
    subst hj
    refine ⟨hlt2, fun v H3 hy => ?_⟩
    obtain ⟨rfl, rfl⟩ := hy
    exact ⟨.refl, R2, DatT.of rfl hb⟩
theorem enumD_get {ds : List D} {i : Nat} {d : D} (e : (enumD ds)[i]? = some d) : ∃ y, ds[i]? = some y ∧ d = .tup [.int (i : Nat), y] := by
  unfold enumD at e
  rw [List.getElem?_map, List.getElem?_zipIdx] at e
  cases q : ds[i]? with
  | none => rw [q] at e; cases e
  | some y => rw [q] at e; simp at e; exact ⟨y, rfl, e.symm⟩
theorem enumD_len (ds : List D) : (enumD ds).length = ds.length := by unfold enumD; simp
theorem walks_enum {ts : List Tg} {r : Res} {ds : List D} {a : Addr} (R1 : Rl G μ1 H1 h1) (dx : DatX G.K μ1 H1 r (.ref a)) (hl : listOf h1 r = some ds) : Walks G (.tp ts) ⟨enumD ds, guardOf h1 r, none⟩ (Ite G.K a) μ1 H1 := by
  intro i μ2 H2 h2 n R2 hok
  unfold Walk.ok at hok
  rw [Bool.and_eq_true] at hok
  obtain ⟨xs, hq, hd⟩ := stay_list R1 dx hl n R2 hok.1
  refine ⟨fun hi => ⟨xs, hq, by rw [hd.length]; simpa [enumD_len] using hi⟩, fun d hdi hb => ?_⟩
  obtain ⟨y, e0, rfl⟩ := enumD_get hdi
  obtain ⟨v, e1, e2⟩ := hd.get e0
  refine ⟨⟨xs, v, hq, e1⟩, fun x H3 hy => ?_⟩
  obtain ⟨T, u, rfl, hT, rfl, hu⟩ := hy
  have := hu xs hq
  rw [e1] at this
  cases this
  have nx : Nxt μ2 H2 μ2 (upd H2 T (.tup [.int (i : Nat), v])) := .laid hT
  exact ⟨nx, R2.laid hT, [.int (i : Nat), y], T, _, rfl, rfl, .of upd_same, Dats.cons rfl (Dats.cons (e2.next R2.free nx) rfl)⟩
end
end Co

set_option linter.all false
set_option maxRecDepth 100000
set_option autoImplicit false
/-! Core19: walks of a text, comprehensions. -/
namespace Co
open PySem L2

/-! a list beside the state that grows -/
section
variable {K : PySem.W.Frag} {G : Ctx} {μ μ' : List Addr} {H H' : Hp} {h : Hh} {D : Addr} {vs us : List V}
theorem frz_beside {aa : Addr} {o : Obj} {u : HO} (hv : H D = some (.lst vs)) (e : H aa = some (.frz o u)) : (upd H D (.lst us)) aa = some (.frz o u) := by
  have z : aa ≠ D := fun z => by subst z; rw [hv] at e; cases e
  rw [upd_ne z]; exact e
mutual
theorem dat_beside (hv : H D = some (.lst vs)) : ∀ (d : Co.D) (u : V), Dat K μ H d u → Dat K μ (upd H D (.lst us)) d u
  | .non, _, x => x
  | .bl _, _, x => x
  | .int _, _, x => x
  | .str _, _, x => x
  | .tup ds, _, x => by
    obtain ⟨aa, ys, rfl, ⟨o, e2, e4⟩, e3⟩ := x
    exact ⟨aa, ys, rfl, ⟨o, frz_beside hv e2, e4⟩, dats_beside hv ds ys e3⟩
  | .fl ds, _, x => by
    obtain ⟨aa, ys, rfl, e2, e3⟩ := x
    refine ⟨aa, ys, rfl, ?_, dats_beside hv ds ys e3⟩
    rcases e2 with ⟨o, e2⟩ | e2
    · exact .inl ⟨o, frz_beside hv e2⟩
    · exact .inr e2
  | .ref n, _, x => x
theorem dats_beside (hv : H D = some (.lst vs)) : ∀ (ds : List Co.D) (ys : List V), Dats K μ H ds ys → Dats K μ (upd H D (.lst us)) ds ys
  | [], _, x => x
  | d :: ds, _, x => by
    obtain ⟨v, r, rfl, e2, e3⟩ := x
    exact ⟨v, r, rfl, dat_beside hv d v e2, dats_beside hv ds r e3⟩
end
theorem rl_beside (hv : H D = some (.lst vs)) (hD : D ∉ μ) (R : Rl G μ H h) : Rl G μ (upd H D (.lst us)) h := by
  refine ⟨R.len, R.nd, fun n c e => ?_⟩
  obtain ⟨aa, ea, ok⟩ := R.ok n c e
  have hne : aa ≠ D := fun z => hD (z ▸ List.mem_of_getElem? ea)
  refine ⟨aa, ea, ?_⟩
  cases c with
  | lst ds => obtain ⟨ys, e1, e2⟩ := ok; exact ⟨ys, by rw [upd_ne hne]; exact e1, dats_beside hv _ _ e2⟩
  | dct kvs =>
    rcases ok with ⟨ks, e1, e2⟩ | ⟨ys, e1, z0, z, y, nd, e2⟩
    · exact .inl ⟨ks, by rw [upd_ne hne]; exact e1, Paired.mapP e2 fun p q hp => ⟨hp.1, dat_beside hv _ _ hp.2⟩⟩
    · exact .inr ⟨ys, by rw [upd_ne hne]; exact e1, z0, z, y, nd, Paired.mapP e2 fun p q hp => by
        obtain ⟨a1, a2, a3, a4, v, a5, a6⟩ := hp
        exact ⟨a1, a2, dat_beside hv _ _ a3, a4, v, a5, dat_beside hv _ _ a6⟩⟩
  | ins c fs => exact ok.elim
theorem nxt_beside (hD : H D = none) (n : Nxt μ H μ' H') : Nxt μ H μ' (upd H' D (.lst us)) :=
  ⟨n.ext, fun aa o e hm => by rw [upd_ne (ne_of_none e hD)]; exact n.keep aa o e hm, fun aa e => n.dom aa (upd_nn e)⟩
end
section
variable {X : Cx} {c : CS} {cl : Call} {a b e0 : E} {p q r x : Expr} {tx : Expr} {pos : Pos} {es : List E} {xs : List Expr}

/-! ### what a loop walks -/
theorem w_of {tg : Tg} (ha : PE X p (tE (gx X) (ev cl a))) : PI X tx p (tW (gx X) tg (evW cl (.of a))) := by
  refine PI.weak (PI.or (pi_str ha) (PI.or (pi_tup ha) (pi_list ha))) fun σ H R ht => ?_
  obtain ⟨μ, ρ, h, w, h', Rr, S, e, k⟩ := ht
  simp only [evW] at e
  split at e
  case h_2 => cases e
  rename_i r0 h1 ea
  split at e
  case h_2 => cases e
  rename_i w0 hw
  cases e
  unfold walkOf at hw
  split at hw
  · cases hw
    exact .inl (tE.mk Rr S ea fun v H1 μ1 n1 R1 d1 w1 => ⟨_, d1, k _ H1 μ1 n1 R1 walks_str⟩)
  · split at hw
    case h_2 => cases hw
    rename_i ds hs
    cases hw
    right
    by_cases ht : ∃ ts, r0 = .v (.tup ts)
    · obtain ⟨ts, rfl⟩ := ht
      cases hs
      left
      refine tE.mk Rr S ea fun v H1 μ1 n1 R1 d1 w1 => ?_
      obtain ⟨l, ys, rfl, e2, e3⟩ := id d1
      exact ⟨l, rfl, ⟨ys, e2.sq⟩, k _ H1 μ1 n1 R1 (walks_tup R1 d1)⟩
    · right
      have hl : ∀ hh, listOf hh r0 = seqOf hh r0 := fun hh => by
        cases r0 with
        | f ds => rfl
        | v d0 =>
          cases d0 with
          | tup ys => exact absurd ⟨ys, rfl⟩ ht
          | _ => rfl
      rw [← hl] at hs
      refine tE.mk Rr S ea fun v H1 μ1 n1 R1 d1 w1 => ?_
      obtain ⟨l, ys, rfl, hq, hd⟩ := listOf_ok R1 d1 hs
      exact ⟨l, rfl, ⟨ys, hq⟩, k _ H1 μ1 n1 R1 (walks_list R1 d1 hs)⟩
theorem one_of {σ : St} {H : Hp} {Q : List V → Hp → Prop} (ht : ∃ μ ρ h r h', Rl (gx X) μ H h ∧ Rs X.K μ H ρ σ ∧ ev cl a ρ h = some (r, h') ∧ ∀ v H1 μ1, Nxt μ H μ1 H1 → Rl (gx X) μ1 H1 h' → DatX X.K μ1 H1 r v → Q [v] H1) : tRs (gx X) (evRs cl [a]) σ H Q := by
  obtain ⟨μ, ρ, h, r, h', R, S, e, k⟩ := ht
  refine ⟨μ, ρ, h, [r], h', R, S, by simp only [evRs, e], fun vs H1 μ1 n1 R1 d1 => ?_⟩
  obtain ⟨v, rfl, dv⟩ := d1.one
  exact k v H1 μ1 n1 R1 dv
theorem w_enum (C : Cok X c cl) {ts : List Tg} {g : Expr} {txs : List Expr} {kk : Nat} {tp : Pos} (hg : gname c g "enumerate" = true) (hp : plainX p = true) (ha : PE X p (tE (gx X) (ev cl a))) :
    PI X (.Tuple txs kk tp) (.Call g [p] [] pos) (tW (gx X) (.tp ts) (evW cl (.enum a))) := by
  obtain ⟨np, rfl, hgl⟩ := gname_is C hg
  refine PI.weak (pi_enum hgl (C.mgb _ (by decide)) (pa_cons ha pa_nil (star_of hp)) (star_of hp)) fun σ H R ht => ?_
  obtain ⟨μ, ρ, h, w, h', Rr, S, e, k⟩ := ht
  simp only [evW] at e
  split at e
  case h_2 => cases e
  rename_i r0 h1 ea
  split at e
  case h_2 => cases e
  rename_i ds hl
  cases e
  refine tE.mk Rr S ea fun v H1 μ1 n1 R1 d1 w1 => ?_
  obtain ⟨l, ys, rfl, hq, hd⟩ := listOf_ok R1 d1 hl
  exact ⟨l, ys, rfl, hq, k _ H1 μ1 n1 R1 (walks_enum R1 d1 hl)⟩
theorem w_rng (C : Cok X c cl) {tg : Tg} {g : Expr} (hg : gname c g "range" = true) (hes : chkEs c es xs = true) (ha : PA X xs (tRs (gx X) (evRs cl es))) : PI X tx (.Call g xs [] pos) (tW (gx X) tg (evW cl (.range es))) := by
  obtain ⟨np, rfl, hgl⟩ := gname_is C hg
  have dead : (∀ ρ h y, evW cl (.range es) ρ h = some y → False) → PI X tx (.Call (.Name "range" np) xs [] pos) (tW (gx X) tg (evW cl (.range es))) := fun hn => ⟨fun pins s σ H R I ht => by
    obtain ⟨μ, ρ, h, w, h', Rr, S, e, k⟩ := ht
    exact (hn _ _ _ e).elim⟩
  match es, xs, hes, ha with
  | [], _, _, _ => exact dead fun ρ h y e => by simp [evW, evRs, rangeOf] at e
  | [e1], [x1], hes, ha =>
    have hp1 := hes
    simp only [chkEs, Bool.and_eq_true] at hp1
    refine PI.weak (pi_range1 hgl (C.mgb _ (by decide)) ha (star_of hp1.1.2)) fun σ H R ht => ?_
    obtain ⟨μ, ρ, h, w, h', Rr, S, e, k⟩ := ht
    simp only [evW] at e
    split at e
    case h_2 => cases e
    rename_i rs h1 ea
    split at e
    case h_2 => cases e
    rename_i ds hd
    cases e
    refine ⟨μ, ρ, h, rs, h', Rr, S, ea, fun vs H1 μ1 n1 R1 d1 => ?_⟩
    rcases rangeOf_is hd with ⟨n, rfl, ho, rfl⟩ | ⟨i, j, rfl, ho, rfl⟩
    · obtain ⟨v, rfl, dv⟩ := d1.one
      obtain ⟨_, _, b1, b2, _⟩ := rgOk_of ho
      refine ⟨n, by rw [show v = _ from dv], b1, b2, ?_⟩
      have hw := walks_range (G := gx X) (tg := tg) (μ1 := μ1) (H1 := H1) 0 n
      have e0 : (n - 0).toNat = n.toNat := by omega
      rw [e0] at hw
      exact k _ H1 μ1 n1 R1 hw
    · simp only [evRs] at ea
      split at ea
      · cases ea
      · cases ea
  | [e1, e2], [x1, x2], hes, ha =>
    have hp1 := hes
    simp only [chkEs, Bool.and_eq_true] at hp1
    refine PI.weak (pi_range2 hgl (C.mgb _ (by decide)) ha (by rw [star_of hp1.1.2, star_of hp1.2.1.2]; rfl) (star_of hp1.2.1.2)) fun σ H R ht => ?_
    obtain ⟨μ, ρ, h, w, h', Rr, S, e, k⟩ := ht
    simp only [evW] at e
    split at e
    case h_2 => cases e
    rename_i rs h1 ea
    split at e
    case h_2 => cases e
    rename_i ds hd
    cases e
    refine ⟨μ, ρ, h, rs, h', Rr, S, ea, fun vs H1 μ1 n1 R1 d1 => ?_⟩
    rcases rangeOf_is hd with ⟨n, rfl, ho, rfl⟩ | ⟨i, j, rfl, ho, rfl⟩
    · simp only [evRs] at ea
      split at ea
      · split at ea
        · cases ea
          rename_i heq
          split at heq
          · cases heq
          · cases heq
        · cases ea
      · cases ea
    · obtain ⟨v, w', rfl, dv, dw⟩ := d1.two
      obtain ⟨b1, b2, b3, b4, _⟩ := rgOk_of ho
      exact ⟨i, j, by rw [show v = _ from dv, show w' = _ from dw], ⟨b1, b2, b3, b4⟩, k _ H1 μ1 n1 R1 (walks_range i j)⟩
  | [_], [], hes, _ => simp [chkEs] at hes
  | [_], _ :: _ :: _, hes, _ => simp [chkEs] at hes
  | [_, _], [], hes, _ => simp [chkEs] at hes
  | [_, _], [_], hes, _ => simp [chkEs] at hes
  | [_, _], _ :: _ :: _ :: _, hes, _ => simp [chkEs] at hes
  | e1 :: e2 :: e3 :: es, _, _, _ =>
    refine dead fun ρ h y e => ?_
    simp only [evW] at e
    split at e
    case h_2 => cases e
    rename_i rs h1 ea
    split at e
    case h_2 => cases e
    rename_i ds hd
    have hl : ∀ {es : List E} {ρ : Rho} {h : Hh} {rs : List Res} {h1 : Hh}, evRs cl es ρ h = some (rs, h1) → rs.length = es.length := by
      intro es
      induction es with
      | nil => intro ρ h rs h1 e; cases e; rfl
      | cons a es ih =>
        intro ρ h rs h1 e
        simp only [evRs] at e
        split at e
        · split at e
          · rename_i e3
            cases e
            simp [ih e3]
          · cases e
        · cases e
    have h3 := hl ea
    rcases rangeOf_is hd with ⟨n, rfl, _⟩ | ⟨i, j, rfl, _⟩ <;> simp at h3

/-! ### comprehensions -/
theorem wipe_get {σ σ' : St} : ∀ {vs : List Nat}, σ'.length = σ.length → (∀ i, i ∉ vs → σ'[i]? = σ[i]?) → wipe σ' vs = wipe σ vs
  | [], hl, hg => List.ext_getElem? fun i => hg i (by simp)
  | v :: vs, hl, hg => by
    have h1 : ∀ i, i ∉ vs → (σ'.set v none)[i]? = (σ.set v none)[i]? := fun i hi => by
      by_cases e : v = i
      · subst e
        by_cases hv : v < σ.length
        · rw [List.getElem?_set_self hv, List.getElem?_set_self (by omega)]
        · rw [List.getElem?_eq_none (by simp; omega), List.getElem?_eq_none (by simp; omega)]
      · rw [List.getElem?_set_ne e, List.getElem?_set_ne e]
        exact hg i (by simp only [List.mem_cons, not_or]; exact ⟨fun z => e z.symm, hi⟩)
    have h2 := wipe_get (vs := vs) (σ := σ.set v none) (σ' := σ'.set v none) (by simp [hl]) h1
    have h3 : ∀ (τ : St) (vs : List Nat), wipe (τ.set v none) vs = (wipe τ vs).set v none := by
      intro τ vs
      induction vs with
      | nil => rfl
      | cons u us ih =>
        unfold wipe
        rw [ih]
        by_cases e : u = v
        · subst e; rfl
        · rw [List.set_comm _ _ e]
    rw [h3, h3] at h2
    exact h2
theorem wipe_in (σ : St) (vs : List Nat) (i : Nat) (hi : i ∈ vs) (hl : i < σ.length) : (wipe σ vs)[i]? = some none := by
  induction vs with
  | nil => cases hi
  | cons v vs ih =>
    unfold wipe
    by_cases e : v = i
    · subst e
      rw [List.getElem?_set_self (by rw [wipe_length]; exact hl)]
    · rw [List.getElem?_set_ne e]
      exact ih (by rcases List.mem_cons.mp hi with z | z; exact absurd z.symm e; exact z)
theorem wipe_wipe (σ : St) (vs : List Nat) : wipe (wipe σ vs) vs = wipe σ vs := by
  refine wipe_get (wipe_length σ vs) fun i hi => ?_
  induction vs with
  | nil => rfl
  | cons v vs ih =>
    simp only [List.mem_cons, not_or] at hi
    unfold wipe
    rw [List.getElem?_set_ne (fun z => hi.1 z.symm)]
    exact ih hi.2
theorem w_lc {tg : Tg} {it : W} {t : Option E} {own : List (Str × Nat)} (hs : ((slotsT tg).all fun i => own.any fun p => decide (p.2 = i)) = true) {σ : St} {H : Hp} {Q : VK} (hq : tE (gx X) (ev cl (.lc tg it t e0 own)) σ H Q) :
    tLc (tW (gx X) tg (evW cl it)) (tG (gx X) tg) (tT (gx X) fun ρ h => evT cl t ρ h) (tE (gx X) (ev cl e0)) (own.map (·.2)) σ H Q := by
  obtain ⟨μ, ρ, h, r, h', R, S, e, k⟩ := hq
  simp only [ev] at e
  split at e
  case h_2 => cases e
  rename_i w h1 ew
  split at e
  case h_2 => cases e
  rename_i ds h2 el
  cases e
  refine ⟨μ, ρ, h, w, h1, R, S, ew, fun J H1 μ1 n1 R1 hw => ?_⟩
  intro D hD
  have hDμ : D ∉ μ1 := fun z => R1.free.some z hD
  refine ⟨fun i m H2 => ∃ μ2 h2' acc vs, Nxt μ1 H1 μ2 H2 ∧ Rl (gx X) μ2 H2 h2' ∧ H2 D = some (.lst vs) ∧ D ∉ μ2 ∧ Dats X.K μ2 H2 acc vs ∧ i ≤ w.ds.length ∧ m = w.ds.length - i ∧
    lcL (fun ρ h => evT cl t ρ h) (fun ρ h => asD (ev cl e0 ρ h)) tg w (wipeR ρ own) (w.ds.drop i) acc h2' = some (ds, h'), ⟨w.ds.length, μ1, h1, [], [], .laid hD, R1.laid hD, upd_same, hDμ, rfl, Nat.zero_le _, by simp, by simpa using el⟩, ?_⟩
  rintro i m H2 ⟨μ2, h2', acc, vs, n2, R2, hv, hDm, hd, hil, rfl, hl⟩
  by_cases hi : i < w.ds.length
  · right
    rw [List.drop_eq_getElem_cons hi] at hl
    simp only [lcL] at hl
    split at hl
    case isFalse => cases hl
    rename_i hok
    split at hl
    case h_1 => cases hl
    rename_i ρ1 hb1
    obtain ⟨hstop, hgo⟩ := hw i μ2 H2 h2' n2 R2 hok
    obtain ⟨go, hy⟩ := hgo _ (List.getElem?_eq_getElem hi) ⟨_, _, hb1⟩
    refine ⟨go, fun H3 => ∃ μ3 h3 acc' vs', Nxt μ1 H1 μ3 H3 ∧ Rl (gx X) μ3 H3 h3 ∧ H3 D = some (.lst vs') ∧ D ∉ μ3 ∧ Dats X.K μ3 H3 acc' vs' ∧ lcL (fun ρ h => evT cl t ρ h) (fun ρ h => asD (ev cl e0 ρ h)) tg w (wipeR ρ own) (w.ds.drop (i + 1)) acc' h3 = some (ds, h'),
      fun H3 ⟨μ3, h3, acc', vs', a1, a2, a3, a4, a5, a6⟩ => ⟨w.ds.length - (i + 1), by omega, μ3, h3, acc', vs', a1, a2, a3, a4, a5, by omega, rfl, a6⟩, fun x H3 hyl => ?_⟩
    obtain ⟨n3, R3, dt⟩ := hy x H3 hyl
    have S3 : Rs X.K μ2 H3 (wipeR ρ own) (wipe σ (own.map (·.2))) := (((S.next R.free n1).next R1.free n2).next R2.free n3).wipe own
    refine ⟨μ2, h2', wipeR ρ own, _, ρ1, R3, S3, dt, hb1, fun σ' S' l' f' => ⟨?_, ?_⟩⟩
    · rw [← wipe_wipe σ]
      refine wipe_get l' fun j hj => f' j fun hm => hj ?_
      have h5 := List.all_eq_true.mp hs j hm
      obtain ⟨pp, hp1, hp2⟩ := List.any_eq_true.mp h5
      exact List.mem_map.mpr ⟨pp, hp1, of_decide_eq_true hp2⟩
    · have hv3 : H3 D = some (.lst vs) := n3.keep _ _ hv hDm
      split at hl
      · rename_i h4 et
        refine ⟨μ2, ρ1, h2', true, h4, R3, S', et, fun H4 μ4 n4 R4 => ?_⟩
        dsimp only
        rw [if_pos rfl]
        have hv4 : H4 D = some (.lst vs) := n4.keep _ _ hv3 hDm
        have hD4 : D ∉ μ4 := fun z => by
          obtain ⟨ν, rfl, hν⟩ := n4.ext
          rcases List.mem_append.mp z with z | z
          · exact hDm z
          · rw [hν D z] at hv3; cases hv3
        split at hl
        case h_2 => cases hl
        rename_i y h5 ey
        simp only [asD] at ey
        cases eq : ev cl e0 ρ1 h4 with
        | none => rw [eq] at ey; cases ey
        | some z =>
        obtain ⟨r5, h6⟩ := z
        rw [eq] at ey
        simp only [Option.some.injEq] at ey
        split at hl
        case isFalse => cases hl
        rename_i hlen
        refine tE.mk R4 (S'.next R3.free n4) eq fun v H5 μ5 n5 R5 d5 w5 => ?_
        obtain ⟨μ6, n6, R6, d6⟩ := adopt_ok n5 R5 d5 w5
        rw [ey] at R6 d6
        have hv5 : H5 D = some (.lst vs) := n5.keep _ _ hv4 hD4
        have hD6 : D ∉ μ6 := fun z => by
          obtain ⟨ν, rfl, hν⟩ := n6.ext
          rcases List.mem_append.mp z with z | z
          · exact hD4 z
          · rw [hν D z] at hv4; cases hv4
        have hd5 : Dats X.K μ6 H5 acc vs := ((hd.next R2.free n3).next R3.free n4).next R4.free n6
        refine ⟨vs, hv5, by rw [hd.length]; exact small_lt hlen, ?_⟩
        -- the list that grows lies beside the state
        have hfree : ∀ aa o, H5 aa = some o → aa ∉ μ6 → aa = D ∨ (upd H5 D (.lst (vs ++ [v]))) aa = some o := fun aa o e1 _ => by
          by_cases z : aa = D
          · exact .inl z
          · right; rw [upd_ne z]; exact e1
        have mv : ∀ (d : Co.D) (u : V), Dat X.K μ6 H5 d u → Dat X.K μ6 (upd H5 D (.lst (vs ++ [v]))) d u := dat_beside hv5
        have mvs : ∀ (ds : List Co.D) (us : List V), Dats X.K μ6 H5 ds us → Dats X.K μ6 (upd H5 D (.lst (vs ++ [v]))) ds us := dats_beside hv5
        refine ⟨μ6, h5, acc ++ [y], vs ++ [v], ?_, rl_beside hv5 hD6 R6, upd_same, hD6, (mvs _ _ hd5).append (Dats.cons (mv _ _ d6) rfl), hl⟩
        exact nxt_beside hD ((n2.trans n3).trans (n4.trans n6))
      · rename_i h4 et
        refine ⟨μ2, ρ1, h2', false, h4, R3, S', et, fun H4 μ4 n4 R4 => ?_⟩
        dsimp only
        rw [if_neg Bool.false_ne_true]
        have hv4 : H4 D = some (.lst vs) := n4.keep _ _ hv3 hDm
        have hD4 : D ∉ μ4 := fun z => by
          obtain ⟨ν, rfl, hν⟩ := n4.ext
          rcases List.mem_append.mp z with z | z
          · exact hDm z
          · rw [hν D z] at hv3; cases hv3
        exact ⟨μ4, h4, acc, vs, (n2.trans n3).trans n4, R4, hv4, hD4, (hd.next R2.free n3).next R3.free n4, hl⟩
      · cases hl
  · left
    have hi' : i = w.ds.length := by omega
    subst hi'
    simp only [List.drop_length, lcL] at hl
    split at hl
    case isFalse => cases hl
    rename_i hok
    cases hl
    refine ⟨(hw _ μ2 H2 _ n2 R2 hok).1 (Nat.le_refl _), k (.ref D) H2 μ2 (n1.trans n2) R2 ⟨D, vs, rfl, hv, hd, hDm⟩ fun p' ep => ?_⟩
    cases ep
    exact n1.dom _ hD
theorem e_lc (C : Cok X c cl) {tg : Tg} {it : W} {t : Option E} {elt tgt iter : Expr} {ifs : List Expr} {scope : Scope} {own : List (Str × Nat)} (hb : blkC c.N c.sc scope own = true) (hs : ((slotsT tg).all fun i => own.any fun p => decide (p.2 = i)) = true) (hfs : ∀ x, foldedSetIterable iter X.env x = pure x)
    (hi : PI X tgt iter (tW (gx X) tg (evW cl it))) (htg : chkT ⟨c.N, scope, c.fns⟩ tg tgt = true)
    (ht : ∀ (s : Shared) (H : Hp) (cc : Addr) (cells : List (Str × Addr)) (fp : List Addr), PTs (X.blk s H scope (compEnvC scope cells cc X.env) fp) ifs (tT (gx X) fun ρ h => evT cl t ρ h))
    (he : ∀ (s : Shared) (H : Hp) (cc : Addr) (cells : List (Str × Addr)) (fp : List Addr), PE (X.blk s H scope (compEnvC scope cells cc X.env) fp) elt (tE (gx X) (ev cl e0))) :
    PE X (.ListComp elt [⟨tgt, iter, ifs, 0⟩] scope pos) (tE (gx X) (ev cl (.lc tg it t e0 own))) := by
  refine (pe_lc (g := tG (gx X) tg) C.calm C.nd hi (C.blkOk hb) (fun s H cc cells fp => g_ok (C.blk hb s H cc cells fp) tg tgt htg) ht he hfs).weak fun σ H Q hq => w_lc hs hq
end
end Co

set_option linter.all false
set_option maxRecDepth 100000
set_option autoImplicit false
/-! Core20: every expression of the text. -/
namespace Co
open PySem L2

section
variable {cl : Call}
theorem base_of {X : Cx} {p : Expr} {n : Str} (h : (match p with | .Call .. => false | _ => true) = true) : attributeBase p n X.env (eval p X.env) = eval p X.env := by
  cases p <;> first | rfl | (simp at h)
theorem fold_of {X : Cx} {p : Expr} (h : plainX p = true) (y : Value) : foldedSetIterable p X.env y = pure y := by
  cases p <;> first | rfl | (simp [plainX] at h)
theorem pw_of {X : Cx} {op : BoolOp} {vs : List Expr} {pos : Pos} {t : TT} (h : PT X (.BoolOp op vs pos) t) : PW X (.BoolOp op vs pos) t := ⟨fun wh pins s σ H Q I hw => by
  have := h.run pins s σ H Q I hw
  exact this⟩
theorem pt_of {X : Cx} {x : Expr} {t : TT} (h : PW X x t) : PT X x t := ⟨fun pins s σ H Q I hw => h.run _ pins s σ H Q I hw⟩

abbrev Both (X : Cx) (cl : Call) (e : E) (x : Expr) : Prop := PE X x (tE (gx X) (ev cl e)) ∧ PT X x (tT (gx X) fun ρ h => asB (ev cl e ρ h))
theorem both {X : Cx} {e : E} {x : Expr} (h : PE X x (tE (gx X) (ev cl e))) (he : ∀ whole, isTrue x X.env whole = (do let v ← whole; standAt x.pos; holding [v] (truthy v))) : Both X cl e x := ⟨h, t_val h he⟩

/-- a comparison as a test -/
theorem t_cmp {X : Cx} {e : E} {op : CmpOp} {l r : Expr} {pos : Pos} {rr : R2} {a b : E} (ho : OpR X (compareOp op) rr) (ha : PE X l (tE (gx X) (ev cl a))) (hb : PE X r (tE (gx X) (ev cl b))) (hm : behindInMarks op r = false)
    (hw : ∀ σ H Q, tE (gx X) (ev cl e) σ H Q → tOp rr (tE (gx X) (ev cl a)) (tE (gx X) (ev cl b)) σ H Q) : PT X (.Compare l [op] [r] pos) (tT (gx X) fun ρ h => asB (ev cl e ρ h)) := by
  refine ⟨fun pins s σ H Q I ht => ?_⟩
  have h1 : tOp rr (tE (gx X) (ev cl a)) (tE (gx X) (ev cl b)) σ H fun v H1 => ∃ k, v = .bl k ∧ Q k H1 := by
    refine hw σ H _ ?_
    obtain ⟨μ, ρ, h, z, h', R, S, e0, k⟩ := ht
    simp only [asB] at e0
    split at e0
    · rename_i ez
      cases e0
      exact tE.mk R S ez fun v H1 μ1 n1 R1 d1 w1 => ⟨z, d1, k H1 μ1 n1 R1⟩
    · cases e0
  refine wpAny_isTrue_Compare1 (thn (ha.run pins s σ H _ I h1) fun v s1 ⟨x, H1, I1, r1, q1⟩ => thn (hb.run pins s1 σ H1 _ I1 q1) fun u s2 ⟨y, H2, I2, r2, q2⟩ => thn (ho pins s2 σ H2 x y v u _ I2 r1 r2 q2) fun z s3 ⟨w, H3, I3, r3, k, ek, q3⟩ => ?_) hm
  subst ek
  cases r3
  exact wpAny_truthy_bool ⟨H3, I3, q3⟩

theorem w_cmp {X : Cx} {o : Cop} {a b : E} {σ : St} {H : Hp} {Q : VK} (ht : tE (gx X) (ev cl (.cmp o a b)) σ H Q) : tOp (rCmp (gx X) o) (tE (gx X) (ev cl a)) (tE (gx X) (ev cl b)) σ H Q := by
  obtain ⟨μ, ρ, h, r, h', R, S, e, k⟩ := ht
  simp only [ev] at e
  split at e
  case h_2 => cases e
  rename_i x h1 ea
  split at e
  case h_2 => cases e
  rename_i y h2 eb
  split at e
  case h_2 => cases e
  rename_i z ez
  cases e
  exact tE.mk R S ea fun v H1 μ1 n1 R1 d1 w1 => tE.mk R1 (S.next R.free n1) eb fun u H2 μ2 n2 R2 d2 w2 => ⟨μ2, _, x, y, z, R2, d1.next R1.free n2, d2, ez, (k.trans (n1.trans n2)).val R2 rfl⟩
theorem w_chn {X : Cx} {o o' : Cop} {a b d : E} {σ : St} {H : Hp} {Q : VK} (ht : tE (gx X) (ev cl (.chn o o' a b d)) σ H Q) : tChain (rCmp (gx X) o) (rCmp (gx X) o') (tE (gx X) (ev cl a)) (tE (gx X) (ev cl b)) (tE (gx X) (ev cl d)) σ H Q := by
  obtain ⟨μ, ρ, h, r', h', R, S, e, k⟩ := ht
  simp only [ev] at e
  split at e
  case h_2 => cases e
  rename_i x h1 ea
  split at e
  case h_2 => cases e
  rename_i y h2 eb
  split at e
  · rename_i e1
    split at e
    case h_2 => cases e
    rename_i z h3 ed
    split at e
    case h_2 => cases e
    rename_i t e2
    cases e
    exact tE.mk R S ea fun v H1 μ1 n1 R1 d1 w1 => tE.mk R1 (S.next R.free n1) eb fun u H2 μ2 n2 R2 d2 w2 => ⟨μ2, _, x, y, true, R2, d1.next R1.free n2, d2, e1, true, rfl, by
      rw [if_pos rfl]
      exact tE.mk R2 (S.next R.free (n1.trans n2)) ed fun w' H3 μ3 n3 R3 d3 w3 => ⟨μ3, _, y, z, t, R3, d2.next R2.free n3, d3, e2, (k.trans ((n1.trans n2).trans n3)).val R3 rfl⟩⟩
  · rename_i e1
    cases e
    exact tE.mk R S ea fun v H1 μ1 n1 R1 d1 w1 => tE.mk R1 (S.next R.free n1) eb fun u H2 μ2 n2 R2 d2 w2 => ⟨μ2, _, x, y, false, R2, d1.next R1.free n2, d2, e1, false, rfl, by
      rw [if_neg Bool.false_ne_true]
      exact (k.trans (n1.trans n2)).val R2 rfl⟩
  · cases e
/-- a value's reading, used for a test -/
theorem to_tE {X : Cx} {e : E} {σ : St} {H : Hp} {Q : Bool → Hp → Prop} (ht : tT (gx X) (fun ρ h => asB (ev cl e ρ h)) σ H Q) : tE (gx X) (ev cl e) σ H fun v H1 => ∃ k, v = .bl k ∧ Q k H1 := by
  obtain ⟨μ, ρ, h, z, h', R, S, e0, k⟩ := ht
  simp only [asB] at e0
  split at e0
  · rename_i ez
    cases e0
    exact tE.mk R S ez fun v H1 μ1 n1 R1 d1 w1 => ⟨z, d1, k H1 μ1 n1 R1⟩
  · cases e0
theorem w_isN {X : Cx} {a : E} {σ : St} {H : Hp} {Q : VK} (ht : tE (gx X) (ev cl (.isN a)) σ H Q) : tIsN (tE (gx X) (ev cl a)) σ H Q := by
  obtain ⟨μ, ρ, h, r', h', R, S, e, k⟩ := ht
  simp only [ev] at e
  split at e
  · rename_i h1 ea
    cases e
    exact tE.mk R S ea fun v H1 μ1 n1 R1 d1 w1 => by rw [isnone d1]; exact (k.trans n1).val R1 rfl
  · rename_i x h1 hn ea
    cases e
    exact tE.mk R S ea fun v H1 μ1 n1 R1 d1 w1 => by
      rw [isnone d1]
      split
      · exfalso; simp_all
      · exact (k.trans n1).val R1 rfl
  · cases e
theorem w_notN {X : Cx} {a : E} {σ : St} {H : Hp} {Q : VK} (ht : tE (gx X) (ev cl (.notN a)) σ H Q) : tNotN (tE (gx X) (ev cl a)) σ H Q := by
  obtain ⟨μ, ρ, h, r', h', R, S, e, k⟩ := ht
  simp only [ev] at e
  split at e
  · rename_i h1 ea
    cases e
    exact tE.mk R S ea fun v H1 μ1 n1 R1 d1 w1 => by show Q (.bl (!decide (v = .non))) H1; rw [isnone d1]; exact (k.trans n1).val R1 rfl
  · rename_i x h1 hn ea
    cases e
    exact tE.mk R S ea fun v H1 μ1 n1 R1 d1 w1 => by
      show Q (.bl (!decide (v = .non))) H1
      rw [isnone d1]
      split
      · exfalso; simp_all
      · exact (k.trans n1).val R1 rfl
  · cases e
end
end Co

set_option linter.all false
set_option maxRecDepth 100000
set_option autoImplicit false
/-! Core21: every expression of the text. -/
namespace Co
open PySem L2

section
variable {cl : Call}
/-- all of a written list -/
structure All (X : Cx) (cl : Call) (es : List E) (xs : List Expr) : Prop where
  a : PA X xs (tA (gx X) (evs cl es))
  r : PA X xs (tRs (gx X) (evRs cl es))
  m : ∀ (e : E) (x : Expr) (i : Nat), es[i]? = some e → xs[i]? = some x → PE X x (tE (gx X) (ev cl e))
/-- range(..) as an argument -/
theorem p_rg {X : Cx} {c : CS} (C : Cok X c cl) {g : Expr} {es : List E} {xs : List Expr} {pos : Pos} (hg : gname c g "range" = true) (hes : chkEs c es xs = true) (A : All X cl es xs) : PRg X (.Call g xs [] pos) (tRg (gx X) (evRs cl es)) := by
  match es, xs, hes, A with
  | [e1], [x1], hes, A =>
    simp only [chkEs, Bool.and_eq_true] at hes
    exact p_rg1 C hg hes.1.2 (A.m e1 x1 0 rfl rfl)
  | [e1, e2], [x1, x2], hes, A =>
    simp only [chkEs, Bool.and_eq_true] at hes
    exact p_rg2 C hg hes.1.2 hes.2.1.2 (A.m e1 x1 0 rfl rfl) (A.m e2 x2 1 rfl rfl)
  | [], _, hes, A => exact p_rg0 (by simp)
  | [_], [], hes, _ => simp [chkEs] at hes
  | [_], _ :: _ :: _, hes, _ => simp [chkEs] at hes
  | [_, _], [], hes, _ => simp [chkEs] at hes
  | [_, _], [_], hes, _ => simp [chkEs] at hes
  | [_, _], _ :: _ :: _ :: _, hes, _ => simp [chkEs] at hes
  | e1 :: e2 :: e3 :: es, _, hes, _ => exact p_rg0 (by simp)

mutual
theorem e_ok : ∀ (e : E) {X : Cx} {c : CS} (C : Cok X c cl) (x : Expr), chkE c e x = true → Both X cl e x
  | .var i, X, c, C, x, hc => by
    cases x <;> try (simp [chkE] at hc; done)
    simp only [chkE, Bool.and_eq_true, decide_eq_true_eq, Bool.not_eq_true'] at hc
    exact both (e_var C hc.1.1.1 hc.1.1.2 hc.1.2 hc.2) fun _ => rfl
  | .non, X, c, C, x, hc => by
    simp only [chkE] at hc
    split at hc
    · exact both (e_con (d := .non) pe_non (fun _ _ => rfl) fun _ _ => rfl) fun _ => rfl
    · cases hc
  | .bl b, X, c, C, x, hc => by
    simp only [chkE] at hc
    split at hc
    · have := of_decide_eq_true hc
      subst this
      exact both (e_con (d := .bl _) pe_bl (fun _ _ => rfl) fun _ _ => rfl) fun _ => rfl
    · cases hc
  | .int b, X, c, C, x, hc => by
    simp only [chkE] at hc
    split at hc
    · have := of_decide_eq_true hc
      subst this
      exact both (e_con (d := .int _) pe_int (fun _ _ => rfl) fun _ _ => rfl) fun _ => rfl
    · cases hc
  | .str b, X, c, C, x, hc => by
    simp only [chkE] at hc
    split at hc
    · have := of_decide_eq_true hc
      subst this
      exact both (e_con (d := .str _) pe_str (fun _ _ => rfl) fun _ _ => rfl) fun _ => rfl
    · cases hc
  | .bin o a b, X, c, C, x, hc => by
    simp only [chkE] at hc
    split at hc
    · simp only [Bool.and_eq_true] at hc
      rw [opOf_of hc.1.1]
      exact both (e_bin (e_ok a C _ hc.1.2).1 (e_ok b C _ hc.2).1) fun _ => rfl
    · cases hc
  | .neg a, X, c, C, x, hc => by
    simp only [chkE] at hc
    split at hc
    · exact both (e_neg (e_ok a C _ hc).1) fun _ => rfl
    · cases hc
  | .not a, X, c, C, x, hc => by
    simp only [chkE] at hc
    split at hc
    · exact ⟨e_not (e_ok a C _ hc).1, t_not (e_ok a C _ hc).2⟩
    · cases hc
  | .and a b, X, c, C, x, hc => by
    simp only [chkE] at hc
    split at hc
    · simp only [Bool.and_eq_true] at hc
      have h1 := e_ok a C _ hc.1
      have h2 := e_ok b C _ hc.2
      exact ⟨e_and h1.1 (pe_one h2.1), pt_of (t_and2 h1.2 (pw_and1 h2.2))⟩
    · simp only [Bool.and_eq_true] at hc
      have h1 := e_ok a C _ hc.1
      have h2 := e_ok b C _ hc.2
      exact ⟨e_and h1.1 h2.1, pt_of (t_and2 h1.2 (pw_of h2.2))⟩
    · cases hc
  | .or a b, X, c, C, x, hc => by
    simp only [chkE] at hc
    split at hc
    · simp only [Bool.and_eq_true] at hc
      have h1 := e_ok a C _ hc.1
      have h2 := e_ok b C _ hc.2
      exact ⟨e_or h1.1 (pe_one h2.1), pt_of (t_or2 h1.2 (pw_or1 h2.2))⟩
    · simp only [Bool.and_eq_true] at hc
      have h1 := e_ok a C _ hc.1
      have h2 := e_ok b C _ hc.2
      exact ⟨e_or h1.1 h2.1, pt_of (t_or2 h1.2 (pw_of h2.2))⟩
    · cases hc
  | .cmp o a b, X, c, C, x, hc => by
    simp only [chkE] at hc
    split at hc
    · simp only [Bool.and_eq_true, Bool.not_eq_true'] at hc
      have hu : X.A.units + 65 < cLine := by have := C.un; omega
      have eo := copOf_of hc.1.1.1
      subst eo
      have h1 := (e_ok a C _ hc.1.1.2).1
      have h2 := (e_ok b C _ hc.1.2).1
      exact ⟨e_cmp C h1 h2 hc.2, t_cmp (cmp_ok hu o) h1 h2 hc.2 fun σ H Q => w_cmp⟩
    · cases hc
  | .chn o p a b d, X, c, C, x, hc => by
    simp only [chkE] at hc
    split at hc
    · simp only [Bool.and_eq_true, Bool.not_eq_true'] at hc
      have hu : X.A.units + 65 < cLine := by have := C.un; omega
      obtain ⟨⟨⟨⟨⟨⟨k1, k2⟩, k3⟩, k4⟩, k5⟩, k6⟩, k7⟩ := hc
      have eo := copOf_of k1
      have eo2 := copOf_of k2
      subst eo eo2
      have h1 := (e_ok a C _ k3).1
      have h2 := (e_ok b C _ k4).1
      have h3 := (e_ok d C _ k5).1
      have hm : ∀ q r, behindInMarks (copOf p) r = false → lastMarks [copOf o, copOf p] [q, r] = false := fun q r h => h
      exact ⟨e_chn C h1 h2 h3 (hm _ _ k7), (pt_chain (cmp_ok hu o) (cmp_ok hu p) h1 h2 h3 (hm _ _ k7)).weak fun σ H Q ht => w_chn (to_tE ht)⟩
    · cases hc
  | .isN a, X, c, C, x, hc => by
    simp only [chkE] at hc
    split at hc
    · have h1 := (e_ok a C _ hc).1
      exact ⟨e_isN h1, (pt_cmp (pc_isN h1) rfl).weak fun σ H Q ht => w_isN (to_tE ht)⟩
    · cases hc
  | .notN a, X, c, C, x, hc => by
    simp only [chkE] at hc
    split at hc
    · have h1 := (e_ok a C _ hc).1
      exact ⟨e_notN h1, (pt_cmp (pc_notN h1) rfl).weak fun σ H Q ht => w_notN (to_tE ht)⟩
    · cases hc
  | .ite t a b, X, c, C, x, hc => by
    simp only [chkE] at hc
    split at hc
    · simp only [Bool.and_eq_true] at hc
      have h1 := e_ok t C _ hc.1.1
      have h2 := e_ok a C _ hc.1.2
      have h3 := e_ok b C _ hc.2
      exact ⟨e_ite h1.2 h2.1 h3.1, t_ite h1.2 h2.2 h3.2⟩
    · cases hc
  | .ix a b, X, c, C, x, hc => by
    simp only [chkE] at hc
    split at hc
    · simp only [Bool.and_eq_true] at hc
      exact both (e_ix C (e_ok a C _ hc.1.1).1 (e_ok b C _ hc.1.2).1 hc.2) fun _ => rfl
    · cases hc
  | .sl a lo hi, X, c, C, x, hc => by
    simp only [chkE] at hc
    split at hc
    · simp only [Bool.and_eq_true] at hc
      exact both (e_sl (e_ok a C _ hc.1.1).1 (o_ok lo C _ hc.1.2) (o_ok hi C _ hc.2)) fun _ => rfl
    · cases hc
  | .rev a, X, c, C, x, hc => by
    simp only [chkE] at hc
    split at hc
    · exact both (e_rev (e_ok a C _ hc).1) fun _ => rfl
    · cases hc
  | .tup es, X, c, C, x, hc => by
    simp only [chkE] at hc
    split at hc
    · exact both (e_tup (es_ok es C _ hc).a) fun _ => rfl
    · cases hc
  | .tupS _ _, X, c, C, x, hc => by simp [chkE] at hc
  | .lst es, X, c, C, x, hc => by
    simp only [chkE] at hc
    split at hc
    · exact both (e_lst (es_ok es C _ hc).a) fun _ => rfl
    · cases hc
  | .dnew, X, c, C, x, hc => by
    simp only [chkE] at hc
    split at hc
    · exact both e_dnew fun _ => rfl
    · cases hc
  | .dlit es, X, c, C, x, hc => by
    simp only [chkE] at hc
    split at hc
    · rename_i ks vs pos
      simp only [Bool.and_eq_true, decide_eq_true_eq] at hc
      obtain ⟨⟨⟨k1, k2⟩, k3⟩, k4⟩ := hc
      exact both (e_dlit (ps_ok es C _ _ k4 pos).1 (ps_ok es C _ _ k4 pos).2 k3 (fun z => by rw [z] at k1; simp at k1) k2) fun _ => rfl
    · cases hc
  | .lc tg it t e own, X, c, C, x, hc => by
    simp only [chkE] at hc
    split at hc
    · simp only [Bool.and_eq_true, decide_eq_true_eq] at hc
      obtain ⟨⟨⟨⟨⟨⟨⟨k0, k1⟩, k2⟩, k3⟩, k4⟩, k5⟩, k6⟩, k7⟩ := hc
      subst k0
      have hw := w_ok it C _ _ k2 tg ⟨_, k3⟩
      exact both (e_lc C k1 k7 hw.1 hw.2 k3 (fun s H cc cells fp => i_ok t (C.blk k1 s H cc cells fp) _ k4) (fun s H cc cells fp => (e_ok e (C.blk k1 s H cc cells fp) _ k5).1)) fun _ => rfl
    · cases hc
  | .call f es, X, c, C, x, hc => by
    simp only [chkE] at hc
    split at hc
    · simp only [Bool.and_eq_true, decide_eq_true_eq, Bool.not_eq_true'] at hc
      exact both (e_call C hc.1.1.1 hc.1.1.2 hc.2 hc.1.2 (es_ok es C _ hc.1.2).a) fun _ => rfl
    · cases hc
  | .bi o es, X, c, C, x, hc => by
    simp only [chkE] at hc
    split at hc
    · simp only [Bool.and_eq_true, Bool.not_eq_true'] at hc
      exact both (e_bi C hc.1.1 hc.1.2 hc.2 (es_ok es C _ hc.1.2).r) fun _ => rfl
    · cases hc
  | .isi t e, X, c, C, x, hc => by
    simp only [chkE] at hc
    split at hc
    · simp only [Bool.and_eq_true] at hc
      exact both (e_isi C hc.1.1.1 hc.1.2 hc.2 (e_ok e C _ hc.1.1.2).1) fun _ => rfl
    · cases hc
  | .me m o es, X, c, C, x, hc => by
    simp only [chkE] at hc
    split at hc
    · simp only [Bool.and_eq_true, decide_eq_true_eq] at hc
      obtain ⟨⟨⟨⟨⟨k1, k2⟩, k3⟩, k4⟩, k5⟩, k6⟩ := hc
      subst k1
      exact both (e_me C k3 k5 k4 (base_of k6) (e_ok o C _ k2).1 (es_ok es C _ k3).r) fun _ => rfl
    · cases hc
  | .lstR es, X, c, C, x, hc => by
    simp only [chkE] at hc
    split at hc
    · simp only [Bool.and_eq_true] at hc
      exact both (e_lstR C hc.1.1 (p_rg C hc.1.2 hc.2 (es_ok es C _ hc.2))) fun _ => rfl
    · cases hc
  | .tupR es, X, c, C, x, hc => by
    simp only [chkE] at hc
    split at hc
    · simp only [Bool.and_eq_true] at hc
      exact both (e_tupR C hc.1.1 (p_rg C hc.1.2 hc.2 (es_ok es C _ hc.2))) fun _ => rfl
    · cases hc
theorem es_ok : ∀ (es : List E) {X : Cx} {c : CS} (C : Cok X c cl) (xs : List Expr), chkEs c es xs = true → All X cl es xs
  | [], X, c, C, xs, hc => by
    simp only [chkEs] at hc
    cases xs with
    | cons _ _ => cases hc
    | nil => exact ⟨a_nil, r_nil, fun e x i h => by simp at h⟩
  | e :: es, X, c, C, xs, hc => by
    cases xs with
    | nil => simp [chkEs] at hc
    | cons x xs =>
      simp only [chkEs, Bool.and_eq_true] at hc
      have h1 := (e_ok e C x hc.1.1).1
      have h2 := es_ok es C xs hc.2
      refine ⟨a_cons hc.1.2 h1 h2.a, r_cons hc.1.2 h1 h2.r, fun e' x' i he hx => ?_⟩
      cases i with
      | zero => simp at he hx; subst he hx; exact h1
      | succ i => exact h2.m e' x' i (by simpa using he) (by simpa using hx)
theorem o_ok : ∀ (o : Option E) {X : Cx} {c : CS} (C : Cok X c cl) (x : Option Expr), chkO c o x = true → PO X x (tOo (gx X) (evO cl o))
  | none, X, c, C, x, hc => by
    simp only [chkO] at hc
    cases x with
    | none => exact o_none
    | some _ => cases hc
  | some e, X, c, C, x, hc => by
    cases x with
    | none => simp [chkO] at hc
    | some p =>
      simp only [chkO] at hc
      exact o_some (e_ok e C p hc).1
theorem i_ok : ∀ (o : Option E) {X : Cx} {c : CS} (C : Cok X c cl) (xs : List Expr), chkI c o xs = true → PTs X xs (tT (gx X) fun ρ h => evT cl o ρ h)
  | none, X, c, C, xs, hc => by
    simp only [chkI] at hc
    cases xs with
    | cons _ _ => cases hc
    | nil =>
      refine ⟨fun pins s σ H Q I ht => pts_nil.run pins s σ H Q I ?_⟩
      obtain ⟨μ, ρ, h, b, h', R, S, e, k⟩ := ht
      cases e
      exact k H μ .refl R
  | some e, X, c, C, xs, hc => by
    simp only [chkI] at hc
    split at hc
    · exact pts_one (e_ok e C _ hc).2
    · cases hc
theorem w_ok : ∀ (w : W) {X : Cx} {c : CS} (C : Cok X c cl) (tx x : Expr), chkW c w tx x = true → ∀ tg : Tg, (∃ cc, chkT cc tg tx = true) → (∀ y, foldedSetIterable x X.env y = pure y) ∧ PI X tx x (tW (gx X) tg (evW cl w))
  | .of e, X, c, C, tx, x, hc, tg, _ => by
    simp only [chkW, Bool.and_eq_true] at hc
    exact ⟨fold_of hc.2, w_of (e_ok e C x hc.1).1⟩
  | .range es, X, c, C, tx, x, hc, tg, _ => by
    simp only [chkW] at hc
    split at hc
    · simp only [Bool.and_eq_true] at hc
      exact ⟨fun _ => rfl, w_rng C hc.1 hc.2 (es_ok es C _ hc.2).r⟩
    · cases hc
  | .enum e, X, c, C, tx, x, hc, tg, ht => by
    simp only [chkW] at hc
    split at hc
    · simp only [Bool.and_eq_true] at hc
      obtain ⟨cc, ht⟩ := ht
      cases tg with
      | nm i => simp [chkT] at ht
      | tp ts => exact ⟨fun _ => rfl, w_enum C hc.1.1 hc.2 (e_ok e C _ hc.1.2).1⟩
    · cases hc
  | .zip a b, X, c, C, tx, x, hc, tg, _ => by simp [chkW] at hc
  | .zipS a b, X, c, C, tx, x, hc, tg, _ => by simp [chkW] at hc
theorem ps_ok : ∀ (es : List E) {X : Cx} {c : CS} (C : Cok X c cl) (ks : List (Option Expr)) (vs : List Expr), chkPs c es ks vs = true → ∀ pos : Pos, PPs X pos ks vs (trs cl (gx X) es) ∧ ks.all (·.isSome) = true
  | [], X, c, C, ks, vs, hc, pos => by
    simp only [chkPs, Bool.and_eq_true] at hc
    cases ks with
    | cons _ _ => cases hc.1
    | nil =>
      cases vs with
      | cons _ _ => cases hc.2
      | nil => exact ⟨pps_nil, rfl⟩
  | [_], X, c, C, ks, vs, hc, pos => by simp [chkPs] at hc
  | k :: v :: es, X, c, C, ks, vs, hc, pos => by
    simp only [chkPs] at hc
    split at hc
    · simp only [Bool.and_eq_true] at hc
      have h3 := ps_ok es C _ _ hc.2 pos
      exact ⟨pps_cons (e_ok k C _ hc.1.1).1 (e_ok v C _ hc.1.2).1 h3.1, by simp [h3.2]⟩
    · cases hc
end
end
end Co

set_option linter.all false
set_option maxRecDepth 100000
set_option autoImplicit false
/-! Core22: statements. -/
namespace Co
open PySem L2

section
variable {X : Cx} {c : CS} {cl : Call} {G : Ctx} {μ μ1 : List Addr} {H H1 : Hp} {h h' : Hh} {ρ : Rho} {σ : St} {D : Ends} {pos : Pos}

def OutK (G : Ctx) (μ : List Addr) (H : Hp) (D : Ends) : Out → Prop
  | .nx ρ' h' => ∀ σ' H' μ', Nxt μ H μ' H' → Rl G μ' H' h' → Rs G.K μ' H' ρ' σ' → D.nx σ' H'
  | .rt d h' => ∀ v H' μ', Nxt μ H μ' H' → Rl G μ' H' h' → Dat G.K μ' H' d v → D.rt v H'
  | .bk ρ' h' => ∀ σ' H' μ', Nxt μ H μ' H' → Rl G μ' H' h' → Rs G.K μ' H' ρ' σ' → D.bk σ' H'
  | .ct ρ' h' => ∀ σ' H' μ', Nxt μ H μ' H' → Rl G μ' H' h' → Rs G.K μ' H' ρ' σ' → D.ct σ' H'
theorem OutK.trans {o : Out} (k : OutK G μ H D o) (n : Nxt μ H μ1 H1) : OutK G μ1 H1 D o := by
  cases o <;> exact fun s H' μ' n' => k s H' μ' (n.trans n')
def tS (G : Ctx) (f : Rho → Hh → Option Out) : TS := fun D σ H => ∃ μ ρ h o, Rl G μ H h ∧ Rs G.K μ H ρ σ ∧ f ρ h = some o ∧ OutK G μ H D o
theorem PS.weak {x : Stmt} {t t' : TS} (a : PS X x t) (i : ∀ D σ H, t' D σ H → t D σ H) : PS X x t' := ⟨fun pins s σ H D I hw => a.run pins s σ H D I (i D σ H hw)⟩
theorem PSs.weak {x : List Stmt} {t t' : TS} (a : PSs X x t) (i : ∀ D σ H, t' D σ H → t D σ H) : PSs X x t' := ⟨fun pins s σ H D I hw => a.run pins s σ H D I (i D σ H hw)⟩

/-! ### stores -/
theorem w_asg {tg : Tg} {e : E} (ht : tS (gx X) (ex cl (.asg tg e)) D σ H) : tAsg (tE (gx X) (ev cl e)) (tG (gx X) tg) D σ H := by
  obtain ⟨μ, ρ, h, o, R, S, eo, k⟩ := ht
  simp only [ex] at eo
  split at eo
  case h_2 => cases eo
  rename_i r h1 ee
  unfold bindR at eo
  cases hb : bindT tg (adopt r h1).1 ρ with
  | none => rw [hb] at eo; cases eo
  | some ρ1 =>
  rw [hb] at eo
  cases eo
  refine tE.mk R S ee fun v H1 μ1 n1 R1 d1 w1 => ?_
  obtain ⟨μ2, n2, R2, d2⟩ := adopt_ok n1 R1 d1 w1
  exact ⟨μ2, _, ρ, _, ρ1, R2, S.next R.free n2, DatT.of d2 ⟨_, _, hb⟩, hb, fun σ' S' _ _ => k σ' H1 μ2 n2 R2 S'⟩
theorem s_asg (C : Cok X c cl) {tg : Tg} {e : E} {t v : Expr} (ht : chkT c tg t = true) (he : chkE c e v = true) (hs : swapsWithSole [t] v pos.line X.env = pure false) (hw : swappedStores [t] v X.env = pure none) : PS X (.Assign [t] v pos) (tS (gx X) (ex cl (.asg tg e))) := by
  refine PS.weak (ps_asg (e_ok e C v he).1 (g_ok C tg t ht) hs hw (by rw [tgt_asg ht]; rfl)) fun D σ H => w_asg
theorem s_lc (C : Cok X c cl) {i : Nat} {tg : Tg} {it : W} {t : Option E} {e : E} {own : List (Str × Nat)} {n : Str} {np p : Pos} {elt : Expr} {gens : List Comprehension} {scope : Scope} (ht : chkT c (.nm i) (.Name n np) = true) (he : chkE c (.lc tg it t e own) (.ListComp elt gens scope p) = true)
    (hy : X.env.scope.names.lookup n = some .local) (hsw : swapsWith (.ListComp elt gens scope p) (some (.Name n np)) pos.line X.env = pure true) : PS X (.Assign [.Name n np] (.ListComp elt gens scope p) pos) (tS (gx X) (ex cl (.asg (.nm i) (.lc tg it t e own)))) := by
  simp only [chkT, Bool.and_eq_true, decide_eq_true_eq] at ht
  simp only [chkE] at he
  split at he
  case h_2 => cases he
  rename_i he0
  cases he0
  simp only [Bool.and_eq_true, decide_eq_true_eq] at he
  obtain ⟨⟨⟨⟨⟨⟨⟨k0, k1⟩, k2⟩, k3⟩, k4⟩, k5⟩, k6⟩, k7⟩ := he
  subst k0
  have hw := w_ok it C _ _ k2 tg ⟨_, k3⟩
  refine PS.weak (ps_setLc (i := i) (g := tG (gx X) tg) (tt := tT (gx X) fun ρ h => evT cl t ρ h) (te := tE (gx X) (ev cl e)) C.calm C.nd (by rw [C.N]; exact ht.1) hy hsw hw.2 (C.blkOk k1) (fun s H cc cells fp => g_ok (C.blk k1 s H cc cells fp) tg _ k3) (fun s H cc cells fp => i_ok t (C.blk k1 s H cc cells fp) _ k4)
    (fun s H cc cells fp => (e_ok e (C.blk k1 s H cc cells fp) _ k5).1) hw.1) fun D σ H ht2 => ?_
  have h1 := w_asg ht2
  refine w_lc k7 ?_
  obtain ⟨μ, ρ, h, r, h', R, S, e1, k⟩ := h1
  refine ⟨μ, ρ, h, r, h', R, S, e1, fun v H1 μ1 n1 R1 d1 w1 => ?_⟩
  obtain ⟨μ2, h2, ρ2, d, ρ', R2, S2, dt, hb, kk⟩ := k v H1 μ1 n1 R1 d1 w1
  simp only [bindT] at hb
  split at hb
  · cases hb
    exact kk _ (S2.set dt) (by simp) fun j hj => List.getElem?_set_ne (fun z => hj (by simp [slotsT, z]))
  · cases hb
theorem s_set (C : Cok X c cl) (hk : X.env.blockKind = .function) {tg : Tg} {e : E} {t v : Expr} (ht : chkT c tg t = true) (he : chkE c e v = true) (hp : plainX v = true) (hn : noTT t v = true) : PS X (.Assign [t] v pos) (tS (gx X) (ex cl (.asg tg e))) := by
  cases tg with
  | nm i =>
    cases t <;> try (simp [chkT] at ht; done)
    rename_i n np
    by_cases hv : ∃ elt gens scope p, v = .ListComp elt gens scope p
    · obtain ⟨elt, gens, scope, p, rfl⟩ := hv
      have hsw : swapsWith (.ListComp elt gens scope p) (some (.Name n np)) pos.line X.env = pure (X.env.blockKind == .function && X.env.kindOf n == some .local && np.line == p.line && !(scope.names.any fun (m, k) => m == n && (k == .local || k == .cell))) := rfl
      cases hb : (X.env.blockKind == .function && X.env.kindOf n == some .local && np.line == p.line && !(scope.names.any fun (m, k) => m == n && (k == .local || k == .cell))) with
      | false =>
        rw [hb] at hsw
        exact s_asg C ht he hsw rfl
      | true =>
        rw [hb] at hsw
        simp only [Bool.and_eq_true, beq_iff_eq] at hb
        have hy : X.env.scope.names.lookup n = some .local := hb.1.1.2
        cases e <;> try (simp [chkE] at he; done)
        exact s_lc C ht he hy hsw
    · refine s_asg C ht he ?_ rfl
      cases v <;> first | rfl | (exact absurd ⟨_, _, _, _, rfl⟩ hv) | (simp [plainX] at hp)
  | tp ts =>
    cases t <;> try (simp [chkT] at ht; done)
    refine s_asg C ht he ?_ ?_
    · cases v <;> first | rfl | (simp [plainX] at hp)
    · cases v <;> first | rfl | (simp [noTT] at hn)

/-! ### a, b = x, y -/
theorem par_bind : ∀ {is : List Nat} {ds : List Co.D} {ρ : Rho}, bindPar is ds ρ = bindTs (is.map .nm) ds ρ
  | [], [], ρ => rfl
  | [], _ :: _, ρ => rfl
  | _ :: _, [], ρ => rfl
  | i :: is, d :: ds, ρ => by
    simp only [bindPar, List.map_cons, bindTs, bindT]
    split
    · exact par_bind
    · rfl
end
end Co

set_option linter.all false
set_option maxRecDepth 100000
set_option autoImplicit false
/-! Core23: every statement of the text. -/
namespace Co
open PySem L2

section
variable {X : Cx} {c : CS} {cl : Call} {G : Ctx} {μ μ1 : List Addr} {H H1 : Hp} {h h' : Hh} {ρ : Rho} {σ : St} {D : Ends} {pos : Pos}

theorem swap_eq (hk : X.env.blockKind = .function) {ts vs : List Expr} {k k2 : Nat} {p p2 : Pos} {o : Option (List Str)} (h : parMode ts vs X.env.scope = some o) : swappedStores [.Tuple ts k p] (.Tuple vs k2 p2) X.env = pure o := by
  have hb : (X.env.blockKind != .function) = false := by rw [hk]; decide
  unfold parMode at h
  unfold swappedStores
  simp only [hb, Bool.or_false]
  split at h
  · rename_i c1
    cases h
    exact if_pos c1
  rename_i c1
  refine (if_neg c1).trans ?_
  split at h
  · rename_i c2
    cases h
    exact if_pos c2
  rename_i c2
  refine (if_neg c2).trans ?_
  dsimp only at h
  split at h
  · rename_i c3
    cases h
    exact if_pos c3
  rename_i c3
  refine (if_neg c3).trans ?_
  split at h
  · rename_i c4
    cases h
    exact if_pos c4
  rename_i c4
  refine (if_neg c4).trans ?_
  split at h
  · cases h
  · rename_i c5
    cases h
    exact if_neg c5
theorem fm_names {sc : Scope} (f : Expr → Option Str) (hf : ∀ x n, f x = some n → ∃ p, x = .Name n p ∧ sc.names.lookup n = some .local) : ∀ ts : List Expr, (ts.filterMap f).length = ts.length → ∀ (j : Nat) (t : Expr), ts[j]? = some t →
    ∃ n p, t = .Name n p ∧ sc.names.lookup n = some .local ∧ (ts.filterMap f)[j]? = some n
  | [], _, j, t, h => by simp at h
  | a :: ts, hl, j, t, hj => by
    have le : (ts.filterMap f).length ≤ ts.length := List.length_filterMap_le _ _
    cases ha : f a with
    | none =>
      rw [List.filterMap_cons_none ha] at hl
      simp only [List.length_cons] at hl
      omega
    | some n =>
      rw [List.filterMap_cons_some ha] at hl ⊢
      simp only [List.length_cons, Nat.add_right_cancel_iff] at hl
      cases j with
      | zero =>
        simp at hj
        subst hj
        obtain ⟨p, rfl, h2⟩ := hf _ _ ha
        exact ⟨n, p, rfl, h2, rfl⟩
      | succ j => simpa using fm_names f hf ts hl j t (by simpa using hj)
/-- what is stored by itself: two or three plain names -/
theorem par_names {ts vs : List Expr} {sc : Scope} {ns : List Str} (h : parMode ts vs sc = some (some ns)) :
    (ts.length = 2 ∨ ts.length = 3) ∧ vs.length = ts.length ∧ ∀ (j : Nat) (t : Expr), ts[j]? = some t → ∃ n p, t = .Name n p ∧ sc.names.lookup n = some .local ∧ ns[j]? = some n := by
  unfold parMode at h
  split at h
  · cases h
  rename_i c1
  split at h
  · cases h
  dsimp only at h
  split at h
  · cases h
  rename_i c3
  split at h
  · cases h
  split at h
  · cases h
  cases h
  simp only [Bool.or_eq_true, Bool.not_eq_true', not_or, bne_iff_ne, ne_eq, Decidable.not_not, Bool.or_eq_false_iff, beq_eq_false_iff_ne, not_and] at c1 c3
  refine ⟨by omega, c1.2, ?_⟩
  refine fm_names _ (fun x n hx => ?_) ts c3.1
  split at hx
  · split at hx
    · rename_i hc
      cases hx
      simp only [Bool.and_eq_true, beq_iff_eq] at hc
      exact ⟨_, rfl, hc.1⟩
    · cases hx
  · cases hx
end
end Co

set_option linter.all false
set_option maxRecDepth 100000
set_option autoImplicit false
/-! Core24: every statement of the text. -/
namespace Co
open PySem L2

section
variable {X : Cx} {c : CS} {cl : Call} {G : Ctx} {μ μ1 : List Addr} {H H1 : Hp} {h h' : Hh} {ρ : Rho} {σ : St} {D : Ends} {pos : Pos}

/-! ### a, b = x, y -/
theorem chkNs_at : ∀ {is : List Nat} {ts : List Expr}, chkNs c is ts = true → is.length = ts.length ∧ ∀ (j : Nat) (i : Nat), is[j]? = some i → ∃ n p, ts[j]? = some (.Name n p) ∧ c.N[i]? = some n ∧ isLoc c.sc n = true
  | [], ts, h => by
    simp only [chkNs] at h
    cases ts with
    | nil => exact ⟨rfl, fun j i h => by simp at h⟩
    | cons _ _ => cases h
  | i :: is, ts, h => by
    simp only [chkNs] at h
    split at h
    · simp only [Bool.and_eq_true, decide_eq_true_eq] at h
      obtain ⟨h1, h2⟩ := chkNs_at h.2
      refine ⟨by simp [h1], fun j k hj => ?_⟩
      cases j with
      | zero => simp at hj; subst hj; exact ⟨_, _, rfl, h.1.1, h.1.2⟩
      | succ j => simpa using h2 j k (by simpa using hj)
    · cases h
theorem chkNs_tg : ∀ {is : List Nat} {ts : List Expr}, chkNs c is ts = true → chkTs c (is.map .nm) ts = true
  | [], ts, h => by simpa [chkNs, chkTs] using h
  | i :: is, ts, h => by
    simp only [chkNs] at h
    split at h
    · simp only [Bool.and_eq_true, decide_eq_true_eq] at h
      simp only [List.map_cons, chkTs, Bool.and_eq_true, chkT, decide_eq_true_eq]
      exact ⟨⟨h.1.1, h.1.2⟩, chkNs_tg h.2⟩
    · cases h
theorem bindPar_len : ∀ {is : List Nat} {ds : List Co.D} {ρ ρ' : Rho}, bindPar is ds ρ = some ρ' → ds.length = is.length
  | [], [], _, _, _ => rfl
  | [], _ :: _, _, _, h => by simp [bindPar] at h
  | _ :: _, [], _, _, h => by simp [bindPar] at h
  | i :: is, d :: ds, ρ, ρ', h => by
    simp only [bindPar] at h
    split at h
    · simp [bindPar_len h]
    · cases h
theorem s_par (C : Cok X c cl) (hk : X.env.blockKind = .function) (hsc : X.env.scope = c.sc) {is : List Nat} {es : List E} {ts vs : List Expr} {k k2 : Nat} {p p2 : Pos} (hn : chkNs c is ts = true) (he : chkEs c es vs = true) (hm : (parMode ts vs c.sc).isSome = true) (hd : is.Nodup) (hl : is.length < 1000) :
    PS X (.Assign [.Tuple ts k p] (.Tuple vs k2 p2) pos) (tS (gx X) (ex cl (.par is es))) := by
  have A := es_ok es C vs he
  obtain ⟨hl1, hat⟩ := chkNs_at hn
  cases ho : parMode ts vs c.sc with
  | none => rw [ho] at hm; cases hm
  | some o =>
  have hsw : ∀ {k k2 : Nat} {p p2 : Pos}, swappedStores [.Tuple ts k p] (.Tuple vs k2 p2) X.env = pure o := fun {_ _ _ _} => swap_eq hk (by rw [hsc]; exact ho)
  cases o with
  | none =>
    have hg := g_ok C (.tp (is.map .nm)) (.Tuple ts k p) (by simp only [chkT]; exact chkNs_tg hn)
    refine PS.weak (ps_asg (e_tup (j := k2) (pos := p2) A.a) hg rfl hsw rfl) fun D σ H ht => ?_
    obtain ⟨μ, ρ, h, o, R, S, eo, kk⟩ := ht
    simp only [ex] at eo
    split at eo
    case h_2 => cases eo
    rename_i ds h1 ee
    split at eo
    case h_2 => cases eo
    rename_i ρ1 hb
    cases eo
    have hsm : small ds.length = true := by
      have := bindPar_len hb
      unfold small
      exact decide_eq_true (by omega)
    refine tE.mk (r := .v (.tup ds)) (h' := h1) R S (by simp only [ev, ee, hsm, if_true]) fun v H1 μ1 n1 R1 d1 w1 => ?_
    have hb2 : bindT (.tp (is.map .nm)) (.tup ds) ρ = some ρ1 := by simp only [bindT]; rw [← par_bind]; exact hb
    exact ⟨μ1, h1, ρ, .tup ds, ρ1, R1, S.next R.free n1, DatT.of d1 ⟨_, _, hb2⟩, hb2, fun σ' S' _ _ => kk σ' H1 μ1 n1 R1 S'⟩
  | some ns =>
    obtain ⟨hlen, hvl, hnm⟩ := par_names ho
    have hNat : ∀ {j i : Nat} {t : Expr}, is[j]? = some i → ts[j]? = some t → ∃ n p, t = .Name n p ∧ X.N[i]? = some n ∧ X.env.scope.names.lookup n = some .local ∧ ns[j]? = some n := fun {j i t} h1 h2 => by
      obtain ⟨n, p, e1, e2, e3⟩ := hat j i h1
      obtain ⟨n', p', rfl, e5, e6⟩ := hnm j t h2
      rw [h2] at e1
      cases e1
      exact ⟨n, p, rfl, by rw [C.N]; exact e2, by rw [hsc]; exact e5, e6⟩
    have hnl : ns.length = ts.length := by
      have hn0 : parMode ts vs c.sc = some (some ns) := ho
      unfold parMode at hn0
      split at hn0
      · cases hn0
      split at hn0
      · cases hn0
      dsimp only at hn0
      split at hn0
      · cases hn0
      rename_i c3
      split at hn0
      · cases hn0
      split at hn0
      · cases hn0
      cases hn0
      simp only [Bool.or_eq_true, not_or, bne_iff_ne, ne_eq, Decidable.not_not] at c3
      exact c3.1
    match is, ts, vs, hlen, hl1, hvl, hd, A with
    | [i, j], [t1, t2], [v1, v2], _, _, _, hd, A =>
      obtain ⟨x, px, rfl, hx1, hx2, hx3⟩ := hNat (j := 0) rfl rfl
      obtain ⟨y, py, rfl, hy1, hy2, hy3⟩ := hNat (j := 1) rfl rfl
      have hns : ns = [x, y] := by
        match ns, hnl with
        | [a, b], _ => simp at hx3 hy3; rw [hx3, hy3]
      subst hns
      have hij : i ≠ j := by simp at hd; exact hd
      refine PS.weak (ps_par C.calm C.nd hx1 hy1 hij hx2 hy2 A.a hsw rfl) fun D σ H ht => ?_
      obtain ⟨μ, ρ, h, o, R, S, eo, kk⟩ := ht
      simp only [ex] at eo
      split at eo
      case h_2 => cases eo
      rename_i ds h1 ee
      split at eo
      case h_2 => cases eo
      rename_i ρ1 hb
      cases eo
      refine ⟨μ, ρ, h, ds, h1, R, S, ee, fun us H1 μ1 n1 R1 d1 => ?_⟩
      have hdl := bindPar_len hb
      match ds, hdl, d1, hb with
      | [d1', d2'], _, d1, hb =>
        obtain ⟨u1, _, rfl, q1, u2, _, rfl, q2, q3⟩ := d1
        rw [show _ = [] from q3]
        refine ⟨u1, u2, rfl, ?_⟩
        simp only [bindPar] at hb
        split at hb
        · split at hb
          · cases hb
            exact kk _ H1 μ1 n1 R1 (((S.next R.free n1).set q1).set q2)
          · cases hb
        · cases hb
    | [i, j, l], [t1, t2, t3], [v1, v2, v3], _, _, _, hd, A =>
      obtain ⟨x, px, rfl, hx1, hx2, hx3⟩ := hNat (j := 0) rfl rfl
      obtain ⟨y, py, rfl, hy1, hy2, hy3⟩ := hNat (j := 1) rfl rfl
      obtain ⟨z, pz, rfl, hz1, hz2, hz3⟩ := hNat (j := 2) rfl rfl
      have hns : ns = [x, y, z] := by
        match ns, hnl with
        | [a, b, c], _ => simp at hx3 hy3 hz3; rw [hx3, hy3, hz3]
      subst hns
      simp at hd
      refine PS.weak (ps_par3 C.calm C.nd hx1 hy1 hz1 hd.1.1 hd.1.2 hd.2 hx2 hy2 hz2 A.a hsw rfl) fun D σ H ht => ?_
      obtain ⟨μ, ρ, h, o, R, S, eo, kk⟩ := ht
      simp only [ex] at eo
      split at eo
      case h_2 => cases eo
      rename_i ds h1 ee
      split at eo
      case h_2 => cases eo
      rename_i ρ1 hb
      cases eo
      refine ⟨μ, ρ, h, ds, h1, R, S, ee, fun us H1 μ1 n1 R1 d1 => ?_⟩
      have hdl := bindPar_len hb
      match ds, hdl, d1, hb with
      | [d1', d2', d3'], _, d1, hb =>
        obtain ⟨u1, _, rfl, q1, u2, _, rfl, q2, u3, _, rfl, q3, q4⟩ := d1
        rw [show _ = [] from q4]
        refine ⟨u1, u2, u3, rfl, ?_⟩
        simp only [bindPar] at hb
        split at hb
        · split at hb
          · split at hb
            · cases hb
              exact kk _ H1 μ1 n1 R1 ((((S.next R.free n1).set q1).set q2).set q3)
            · cases hb
          · cases hb
        · cases hb
    | [], [], _, h, _, _, _, _ => exact absurd h (by simp)
    | [_], [_], _, h, _, _, _, _ => exact absurd h (by simp)
    | _ :: _ :: _ :: _ :: _, _ :: _ :: _ :: _ :: _, _, h, _, _, _, _ => exact absurd h (by simp)

/-! ### a[i] = e, x += e, a[i] += e -/
theorem s_six (C : Cok X c cl) {a i e : E} {pa pi pe : Expr} {p : Pos} (hp : plainX pi = true) (ha : PE X pa (tE (gx X) (ev cl a))) (hi : PE X pi (tE (gx X) (ev cl i))) (he : PE X pe (tE (gx X) (ev cl e))) (hs : swapsWithSole [.Subscript pa pi p] pe pos.line X.env = pure false) :
    PS X (.Assign [.Subscript pa pi p] pe pos) (tS (gx X) (ex cl (.six a i e))) := by
  have hu : X.A.units + 65 < cLine := by have := C.un; omega
  refine PS.weak (ps_asg he (pg_sub ha hi (set_ok hu) (by intros; cases pi <;> first | rfl | (simp [plainX] at hp))) hs rfl rfl) fun D σ H ht => ?_
  obtain ⟨μ, ρ, h, o, R, S, eo, k⟩ := ht
  simp only [ex, asD] at eo
  cases ee : ev cl e ρ h with
  | none => rw [ee] at eo; cases eo
  | some y =>
  obtain ⟨r0, h1⟩ := y
  rw [ee] at eo
  simp only at eo
  split at eo
  case h_2 => cases eo
  rename_i x h2 ea
  split at eo
  case h_2 => cases eo
  rename_i y h3 ei
  split at eo
  case h_2 => cases eo
  rename_i h4 es
  cases eo
  refine tE.mk R S ee fun v H1 μ1 n1 R1 d1 w1 => ?_
  obtain ⟨μ2, n2, R2, d2⟩ := adopt_ok n1 R1 d1 w1
  refine tE.mk R2 (S.next R.free n2) ea fun u H2 μ3 n3 R3 d3 w3 => ?_
  refine tE.mk R3 (S.next R.free (n2.trans n3)) ei fun t H3 μ4 n4 R4 d4 w4 => ?_
  exact ⟨μ4, h3, x, y, _, h4, R4, DatX.next (r := .v x) R3.free n4 d3, d4, (d2.next R2.free n3).next R3.free n4, es, fun H4 n5 R5 => k σ H4 μ4 (((n2.trans n3).trans n4).trans n5) R5 ((S.next R.free ((n2.trans n3).trans n4)).next R4.free n5)⟩
/-- x op= y of ints -/
def ipf : Bop → Int → Int → Int
  | .sub => fun i j => i - j
  | _ => fun i j => i + j
theorem ip_ok {o : Bop} (h : o = .add ∨ o = .sub) : PIp X (opOf o) (ipI (ipf o)) := by
  rcases h with rfl | rfl
  · exact ip_add
  · exact ip_sub
theorem bin_ip {o : Bop} (h : o = .add ∨ o = .sub) {hh : Hh} {i j : Int} {z : Co.D} (e : binop o hh (.v (.int i)) (.v (.int j)) = some (.v z)) : z = .int (ipf o i j) := by
  rcases h with rfl | rfl <;> (simp only [binop] at e; cases e; rfl)
theorem s_aug (C : Cok X c cl) {i : Nat} {n : Str} {np : Pos} {o : Bop} {e : E} {pe : Expr} (hN : c.N[i]? = some n) (hl : isLoc c.sc n = true) (ho : o = .add ∨ o = .sub) (he : PE X pe (tE (gx X) (ev cl e))) : PS X (.AugAssign (.Name n np) (opOf o) pe pos) (tS (gx X) (ex cl (.aug i o e))) := by
  obtain ⟨hx, hf⟩ := C.loc n hl
  refine PS.weak (ps_aug C.nd (by rw [C.N]; exact hN) hx he (ip_ok ho) hf) fun D σ H ht => ?_
  obtain ⟨μ, ρ, h, oo, R, S, eo, k⟩ := ht
  simp only [ex] at eo
  split at eo
  case h_2 => cases eo
  rename_i x hx'
  split at eo
  case h_2 => cases eo
  rename_i y h1 ee
  split at eo
  case h_2 => cases eo
  rename_i z hz
  cases eo
  obtain ⟨v, e1, e2⟩ := S.ok i _ hx'
  refine ⟨v, e1, tE.mk R S ee fun u H1 μ1 n1 R1 d1 w1 => ⟨x, y, e2, d1, ?_⟩⟩
  have := bin_ip ho hz
  subst this
  exact k _ H1 μ1 n1 R1 ((S.next R.free n1).set rfl)
theorem s_aix (C : Cok X c cl) {a i e : E} {o : Bop} {pa pi pe : Expr} {p : Pos} (ho : o = .add ∨ o = .sub) (hp : plainX pi = true) (ha : PE X pa (tE (gx X) (ev cl a))) (hi : PE X pi (tE (gx X) (ev cl i))) (he : PE X pe (tE (gx X) (ev cl e))) :
    PS X (.AugAssign (.Subscript pa pi p) (opOf o) pe pos) (tS (gx X) (ex cl (.aix a i o e))) := by
  have hu : X.A.units + 65 < cLine := by have := C.un; omega
  refine PS.weak (ps_augS ha hi (get_ok hu) he (ip_ok ho) (set_ok hu) ?_) fun D σ H ht => ?_
  · intro ov iv new
    cases pi <;> first | rfl | (simp [plainX] at hp)
  obtain ⟨μ, ρ, h, oo, R, S, eo, k⟩ := ht
  simp only [ex] at eo
  split at eo
  case h_2 => cases eo
  rename_i x h1 ea
  split at eo
  case h_2 => cases eo
  rename_i y h2 ei
  split at eo
  case h_2 => cases eo
  rename_i x0 hit
  split at eo
  case h_2 => cases eo
  rename_i y0 h3 ee
  split at eo
  case h_2 => cases eo
  rename_i z hz
  split at eo
  case h_2 => cases eo
  rename_i h4 es
  cases eo
  have := bin_ip ho hz
  subst this
  have hnt : ∀ ys, Res.v x ≠ .v (.tup ys) := fun ys e0 => by
    cases e0
    simp [setItem?] at es
  refine tE.mk R S ea fun v H1 μ1 n1 R1 d1 w1 => tE.mk R1 (S.next R.free n1) ei fun u H2 μ2 n2 R2 d2 w2 => ?_
  have d1' : DatX X.K μ2 H2 (.v x) v := d1.next R1.free n2
  refine ⟨μ2, h2, .v x, .v y, _, R2, d1', d2, hit, hnt, fun t dt => ?_⟩
  refine tE.mk R2 (S.next R.free (n1.trans n2)) ee fun w' H3 μ3 n3 R3 d3 w3 => ⟨x0, y0, dt, d3, ?_⟩
  exact ⟨μ3, h3, x, y, .int (ipf o x0 y0), h4, R3, DatX.next (r := .v x) R2.free n3 d1', DatX.next (r := .v y) R2.free n3 d2, rfl, es, fun H4 n5 R5 => k σ H4 μ3 (((n1.trans n2).trans n3).trans n5) R5 ((S.next R.free ((n1.trans n2).trans n3)).next R3.free n5)⟩
end
end Co

set_option linter.all false
set_option maxRecDepth 100000
set_option autoImplicit false
/-! Core25: loops; every statement of the text. -/
namespace Co
open PySem L2

section
variable {cl : Call}
theorem forL_cons {body : Rho → Hh → Option Out} {tg : Tg} {w : Walk} {d : Co.D} {ds : List Co.D} {ρ : Rho} {h : Hh} {o : Out} (e : forL body tg w (d :: ds) ρ h = some o) : w.ok h = true ∧ ∃ ρ1 o1, bindT tg d ρ = some ρ1 ∧ body ρ1 h = some o1 ∧ (match o1 with
    | .nx ρ2 h2 => forL body tg w ds ρ2 h2 = some o
    | .ct ρ2 h2 => forL body tg w ds ρ2 h2 = some o
    | .bk ρ2 h2 => o = .nx ρ2 h2
    | .rt d h2 => o = .rt d h2) := by
  simp only [forL] at e
  split at e
  case isFalse => cases e
  rename_i hok
  split at e
  case h_1 => cases e
  rename_i ρ1 hb
  refine ⟨hok, ρ1, ?_⟩
  split at e
  · rename_i q; exact ⟨_, hb, q, e⟩
  · rename_i q; exact ⟨_, hb, q, e⟩
  · rename_i q; cases e; exact ⟨_, hb, q, rfl⟩
  · rename_i q; cases e; exact ⟨_, hb, q, rfl⟩
  · cases e
theorem whlL_succ {test : Rho → Hh → Option (Bool × Hh)} {body : Rho → Hh → Option Out} {n : Nat} {ρ : Rho} {h : Hh} {o : Out} (e : whlL test body (n + 1) ρ h = some o) : ∃ b h1, test ρ h = some (b, h1) ∧ (b = false → o = .nx ρ h1) ∧ (b = true → ∃ o1, body ρ h1 = some o1 ∧ (match o1 with
    | .nx ρ2 h2 => whlL test body n ρ2 h2 = some o
    | .ct ρ2 h2 => whlL test body n ρ2 h2 = some o
    | .bk ρ2 h2 => o = .nx ρ2 h2
    | .rt d h2 => o = .rt d h2)) := by
  simp only [whlL] at e
  split at e
  · rename_i h1 q
    cases e
    exact ⟨false, h1, q, fun _ => rfl, (fun z => by cases z)⟩
  · rename_i h1 q
    refine ⟨true, h1, q, (fun z => by cases z), fun _ => ?_⟩
    split at e
    · rename_i q; exact ⟨_, q, e⟩
    · rename_i q; exact ⟨_, q, e⟩
    · rename_i q; cases e; exact ⟨_, q, rfl⟩
    · rename_i q; cases e; exact ⟨_, q, rfl⟩
    · cases e
  · cases e

variable {X : Cx} {c : CS}
theorem s_for (C : Cok X c cl) (hp : PassesOwn (model X.prog X.w) X.A X.env X.xe) {tg : Tg} {it : W} {b : List S} {tgt iter : Expr} {bs : List Stmt} {pos : Pos} (hg : PG X tgt (tG (gx X) tg)) (hw : (∀ y, foldedSetIterable iter X.env y = pure y) ∧ PI X tgt iter (tW (gx X) tg (evW cl it)))
    (hb : PSs X bs (tS (gx X) fun ρ h => exs cl b ρ h)) : PS X (.For tgt iter bs [] pos) (tS (gx X) (ex cl (.for tg it b))) := by
  refine PS.weak (ps_for hp C.calm hw.2 hg hb hw.1) fun D σ H ht => ?_
  obtain ⟨μ, ρ, h, o, R, S, eo, k⟩ := ht
  simp only [ex] at eo
  split at eo
  case h_2 => cases eo
  rename_i w h1 ew
  refine ⟨μ, ρ, h, w, h1, R, S, ew, fun J H1 μ1 n1 R1 hwk => ?_⟩
  refine ⟨fun i m σ H2 => ∃ μ2 ρ2 h2, Nxt μ1 H1 μ2 H2 ∧ Rl (gx X) μ2 H2 h2 ∧ Rs X.K μ2 H2 ρ2 σ ∧ i ≤ w.ds.length ∧ m = w.ds.length - i ∧ forL (fun ρ h => exs cl b ρ h) tg w (w.ds.drop i) ρ2 h2 = some o ∧ OutK (gx X) μ2 H2 D o,
    ⟨w.ds.length, μ1, ρ, h1, .refl, R1, S.next R.free n1, Nat.zero_le _, by simp, by simpa using eo, k.trans n1⟩, ?_⟩
  rintro i m σ2 H2 ⟨μ2, ρ2, h2, n2, R2, S2, hil, rfl, el, k2⟩
  by_cases hi : i < w.ds.length
  · right
    rw [List.drop_eq_getElem_cons hi] at el
    obtain ⟨hok, ρ3, o3, hb3, e3, hm⟩ := forL_cons el
    obtain ⟨go, hy⟩ := (hwk i μ2 H2 h2 n2 R2 hok).2 _ (List.getElem?_eq_getElem hi) ⟨_, _, hb3⟩
    refine ⟨go, fun σ' H' => ∃ μ4 ρ4 h4, Nxt μ1 H1 μ4 H' ∧ Rl (gx X) μ4 H' h4 ∧ Rs X.K μ4 H' ρ4 σ' ∧ forL (fun ρ h => exs cl b ρ h) tg w (w.ds.drop (i + 1)) ρ4 h4 = some o ∧ OutK (gx X) μ4 H' D o,
      fun σ' H' ⟨μ4, ρ4, h4, a1, a2, a3, a4, a5⟩ => ⟨w.ds.length - (i + 1), by omega, μ4, ρ4, h4, a1, a2, a3, by omega, rfl, a4, a5⟩, fun x H3 hyl => ?_⟩
    obtain ⟨n3, R3, dt⟩ := hy x H3 hyl
    refine ⟨μ2, h2, ρ2, _, ρ3, R3, S2.next R2.free n3, dt, hb3, fun σ' S' _ _ => ?_⟩
    refine ⟨μ2, ρ3, h2, o3, R3, S', e3, ?_⟩
    cases o3 with
    | nx ρ5 h5 => exact fun σ5 H5 μ5 n5 R5 S5 => ⟨μ5, ρ5, h5, (n2.trans n3).trans n5, R5, S5, hm, k2.trans (n3.trans n5)⟩
    | ct ρ5 h5 => exact fun σ5 H5 μ5 n5 R5 S5 => ⟨μ5, ρ5, h5, (n2.trans n3).trans n5, R5, S5, hm, k2.trans (n3.trans n5)⟩
    | bk ρ5 h5 =>
      have hm' : o = .nx ρ5 h5 := hm
      subst hm'
      exact fun σ5 H5 μ5 n5 R5 S5 => k2 σ5 H5 μ5 (n3.trans n5) R5 S5
    | rt d h5 =>
      have hm' : o = .rt d h5 := hm
      subst hm'
      exact fun v5 H5 μ5 n5 R5 S5 => k2 v5 H5 μ5 (n3.trans n5) R5 S5
  · left
    have hi' : i = w.ds.length := by omega
    subst hi'
    simp only [List.drop_length, forL] at el
    split at el
    case isFalse => cases el
    rename_i hok
    cases el
    exact ⟨(hwk _ μ2 H2 h2 n2 R2 hok).1 (Nat.le_refl _), k2 σ2 H2 μ2 .refl R2 S2⟩
theorem s_whl (C : Cok X c cl) (hp : PassesOwn (model X.prog X.w) X.A X.env X.xe) {t : E} {b : List S} {tx : Expr} {bs : List Stmt} {pos : Pos} (ht : PT X tx (tT (gx X) fun ρ h => asB (ev cl t ρ h)))
    (hb : PSs X bs (tS (gx X) fun ρ h => exs cl b ρ h)) : PS X (.While tx bs [] pos) (tS (gx X) (ex cl (.whl t b))) := by
  refine PS.weak (ps_while hp ht hb) fun D σ H ht => ?_
  obtain ⟨μ, ρ, h, o, R, S, eo, k⟩ := ht
  simp only [ex] at eo
  refine ⟨fun m σ H2 => ∃ μ2 ρ2 h2, Rl (gx X) μ2 H2 h2 ∧ Rs X.K μ2 H2 ρ2 σ ∧ whlL (fun ρ h => asB (ev cl t ρ h)) (fun ρ h => exs cl b ρ h) m ρ2 h2 = some o ∧ OutK (gx X) μ2 H2 D o, ⟨fuel, μ, ρ, h, R, S, eo, k⟩, ?_⟩
  rintro m σ2 H2 ⟨μ2, ρ2, h2, R2, S2, el, k2⟩
  cases m with
  | zero => simp [whlL] at el
  | succ m =>
    obtain ⟨bb, h3, et, hf, htt⟩ := whlL_succ el
    refine ⟨μ2, ρ2, h2, bb, h3, R2, S2, et, fun H3 μ3 n3 R3 => ?_⟩
    cases bb with
    | false =>
      have := hf rfl
      subst this
      rw [if_neg Bool.false_ne_true]
      exact k2 σ2 H3 μ3 n3 R3 (S2.next R2.free n3)
    | true =>
      rw [if_pos rfl]
      obtain ⟨o3, e3, hm⟩ := htt rfl
      refine ⟨fun σ' H' => ∃ μ4 ρ4 h4, Rl (gx X) μ4 H' h4 ∧ Rs X.K μ4 H' ρ4 σ' ∧ whlL (fun ρ h => asB (ev cl t ρ h)) (fun ρ h => exs cl b ρ h) m ρ4 h4 = some o ∧ OutK (gx X) μ4 H' D o,
        fun σ' H' ⟨μ4, ρ4, h4, a1, a2, a3, a4⟩ => ⟨m, by omega, μ4, ρ4, h4, a1, a2, a3, a4⟩, ?_⟩
      refine ⟨μ3, ρ2, h3, o3, R3, S2.next R2.free n3, e3, ?_⟩
      cases o3 with
      | nx ρ5 h5 => exact fun σ5 H5 μ5 n5 R5 S5 => ⟨μ5, ρ5, h5, R5, S5, hm, k2.trans (n3.trans n5)⟩
      | ct ρ5 h5 => exact fun σ5 H5 μ5 n5 R5 S5 => ⟨μ5, ρ5, h5, R5, S5, hm, k2.trans (n3.trans n5)⟩
      | bk ρ5 h5 =>
        have hm' : o = .nx ρ5 h5 := hm
        subst hm'
        exact fun σ5 H5 μ5 n5 R5 S5 => k2 σ5 H5 μ5 (n3.trans n5) R5 S5
      | rt d h5 =>
        have hm' : o = .rt d h5 := hm
        subst hm'
        exact fun v5 H5 μ5 n5 R5 S5 => k2 v5 H5 μ5 (n3.trans n5) R5 S5

/-- a body's context, for statements -/
structure Sok (X : Cx) (c : CS) (cl : Call) : Prop where
  C : Cok X c cl
  hp : PassesOwn (model X.prog X.w) X.A X.env X.xe
  sc : X.env.scope = c.sc
  bk : X.env.blockKind = .function
mutual
theorem s_ok : ∀ (s : S) {X : Cx} {c : CS} (K : Sok X c cl) (x : Stmt), chkS c s x = true → PS X x (tS (gx X) (ex cl s))
  | .asg tg e, X, c, K, x, hc => by
    simp only [chkS] at hc
    split at hc
    · simp only [Bool.and_eq_true] at hc
      exact s_set K.C K.bk hc.1.1.1 hc.1.1.2 hc.1.2 hc.2
    · cases hc
  | .par is es, X, c, K, x, hc => by
    simp only [chkS] at hc
    split at hc
    · simp only [Bool.and_eq_true, decide_eq_true_eq] at hc
      exact s_par K.C K.bk K.sc hc.1.1.1.1 hc.1.1.1.2 hc.1.1.2 hc.1.2 hc.2
    · cases hc
  | .six a i e, X, c, K, x, hc => by
    simp only [chkS] at hc
    split at hc
    · simp only [Bool.and_eq_true] at hc
      obtain ⟨⟨⟨⟨⟨k1, k2⟩, k3⟩, k4⟩, k5⟩, k6⟩ := hc
      refine s_six K.C k4 (e_ok a K.C _ k1).1 (e_ok i K.C _ k2).1 (e_ok e K.C _ k3).1 ?_
      rename_i v _
      cases v <;> first | rfl | (simp [plainX] at k5)
    · cases hc
  | .aug i o e, X, c, K, x, hc => by
    simp only [chkS] at hc
    split at hc
    · simp only [Bool.and_eq_true, Bool.or_eq_true, decide_eq_true_eq] at hc
      obtain ⟨⟨⟨⟨k1, k2⟩, k3⟩, k4⟩, k5⟩ := hc
      rw [opOf_of k3]
      exact s_aug K.C k1 k2 k4 (e_ok e K.C _ k5).1
    · cases hc
  | .aix a i o e, X, c, K, x, hc => by
    simp only [chkS] at hc
    split at hc
    · simp only [Bool.and_eq_true, Bool.or_eq_true, decide_eq_true_eq] at hc
      obtain ⟨⟨⟨⟨⟨k1, k2⟩, k3⟩, k4⟩, k5⟩, k6⟩ := hc
      rw [opOf_of k3]
      exact s_aix K.C k4 k6 (e_ok a K.C _ k1).1 (e_ok i K.C _ k2).1 (e_ok e K.C _ k5).1
    · cases hc
  | .ex e, X, c, K, x, hc => by
    simp only [chkS] at hc
    split at hc
    · rename_i v _
      simp only [Bool.and_eq_true] at hc
      obtain ⟨⟨⟨k1, k2⟩, k3⟩, k4⟩ := hc
      refine PS.weak (ps_expr (e_ok e K.C _ k1).1 ?_) fun D σ H ht => ?_
      · cases v <;> first | rfl | (simp [noSwap] at k3; done) | (simp [plainX] at k2; done)
      · obtain ⟨μ, ρ, h, o, R, S, eo, k⟩ := ht
        simp only [ex] at eo
        split at eo
        case h_2 => cases eo
        rename_i r h1 ee
        cases eo
        exact tE.mk R S ee fun v H1 μ1 n1 R1 d1 w1 => k σ H1 μ1 n1 R1 (S.next R.free n1)
    · cases hc
  | .ret e, X, c, K, x, hc => by
    simp only [chkS] at hc
    split at hc
    · refine PS.weak (ps_ret (e_ok e K.C _ hc).1) fun D σ H ht => ?_
      obtain ⟨μ, ρ, h, o, R, S, eo, k⟩ := ht
      simp only [ex, asD] at eo
      cases ee : ev cl e ρ h with
      | none => rw [ee] at eo; cases eo
      | some y =>
      obtain ⟨r0, h1⟩ := y
      rw [ee] at eo
      cases eo
      refine tE.mk R S ee fun v H1 μ1 n1 R1 d1 w1 => ?_
      obtain ⟨μ2, n2, R2, d2⟩ := adopt_ok n1 R1 d1 w1
      exact k v H1 μ2 n2 R2 d2
    · cases hc
  | .retN, X, c, K, x, hc => by
    simp only [chkS] at hc
    split at hc
    · refine PS.weak ps_retN fun D σ H ht => ?_
      obtain ⟨μ, ρ, h, o, R, S, eo, k⟩ := ht
      simp only [ex] at eo
      cases eo
      exact k .non H μ .refl R rfl
    · cases hc
  | .ite t a b, X, c, K, x, hc => by
    simp only [chkS] at hc
    split at hc
    · simp only [Bool.and_eq_true] at hc
      refine PS.weak (ps_if (e_ok t K.C _ hc.1.1).2 (ss_ok a K _ hc.1.2) (ss_ok b K _ hc.2)) fun D σ H ht => ?_
      obtain ⟨μ, ρ, h, o, R, S, eo, k⟩ := ht
      simp only [ex] at eo
      split at eo
      · rename_i h1 ea
        exact ⟨μ, ρ, h, true, h1, R, S, by simp only [ea, asB], fun H1 μ1 n1 R1 => by dsimp only; rw [if_pos rfl]; exact ⟨μ1, ρ, h1, o, R1, S.next R.free n1, eo, k.trans n1⟩⟩
      · rename_i h1 ea
        exact ⟨μ, ρ, h, false, h1, R, S, by simp only [ea, asB], fun H1 μ1 n1 R1 => by dsimp only; rw [if_neg Bool.false_ne_true]; exact ⟨μ1, ρ, h1, o, R1, S.next R.free n1, eo, k.trans n1⟩⟩
      · cases eo
    · cases hc
  | .for tg it b, X, c, K, x, hc => by
    simp only [chkS] at hc
    split at hc
    · simp only [Bool.and_eq_true] at hc
      exact s_for K.C K.hp (g_ok K.C tg _ hc.1.1) (w_ok it K.C _ _ hc.1.2 tg ⟨_, hc.1.1⟩) (ss_ok b K _ hc.2)
    · cases hc
  | .whl t b, X, c, K, x, hc => by
    simp only [chkS] at hc
    split at hc
    · simp only [Bool.and_eq_true] at hc
      exact s_whl K.C K.hp (e_ok t K.C _ hc.1).2 (ss_ok b K _ hc.2)
    · cases hc
  | .pass, X, c, K, x, hc => by
    simp only [chkS] at hc
    split at hc
    · refine PS.weak ps_pass fun D σ H ht => ?_
      obtain ⟨μ, ρ, h, o, R, S, eo, k⟩ := ht
      simp only [ex] at eo
      cases eo
      exact k σ H μ .refl R S
    · cases hc
  | .brk, X, c, K, x, hc => by
    simp only [chkS] at hc
    split at hc
    · refine PS.weak ps_break fun D σ H ht => ?_
      obtain ⟨μ, ρ, h, o, R, S, eo, k⟩ := ht
      simp only [ex] at eo
      cases eo
      exact k σ H μ .refl R S
    · cases hc
  | .cont, X, c, K, x, hc => by
    simp only [chkS] at hc
    split at hc
    · refine PS.weak ps_continue fun D σ H ht => ?_
      obtain ⟨μ, ρ, h, o, R, S, eo, k⟩ := ht
      simp only [ex] at eo
      cases eo
      exact k σ H μ .refl R S
    · cases hc
  | .never, X, c, K, x, hc => by
    refine PS.weak ps_never fun D σ H ht => ?_
    obtain ⟨μ, ρ, h, o, R, S, eo, k⟩ := ht
    simp only [ex] at eo
    cases eo
theorem ss_ok : ∀ (ss : List S) {X : Cx} {c : CS} (K : Sok X c cl) (xs : List Stmt), chkSs c ss xs = true → PSs X xs (tS (gx X) fun ρ h => exs cl ss ρ h)
  | [], X, c, K, xs, hc => by
    simp only [chkSs] at hc
    cases xs with
    | cons _ _ => cases hc
    | nil =>
      refine PSs.weak pss_nil fun D σ H ht => ?_
      obtain ⟨μ, ρ, h, o, R, S, eo, k⟩ := ht
      simp only [exs] at eo
      cases eo
      exact k σ H μ .refl R S
  | s :: ss, X, c, K, xs, hc => by
    cases xs with
    | nil => simp [chkSs] at hc
    | cons x xs =>
      simp only [chkSs, Bool.and_eq_true] at hc
      refine PSs.weak (pss_cons (s_ok s K x hc.1) (ss_ok ss K xs hc.2)) fun D σ H ht => ?_
      obtain ⟨μ, ρ, h, o, R, S, eo, k⟩ := ht
      simp only [exs] at eo
      cases es : ex cl s ρ h with
      | none => rw [es] at eo; cases eo
      | some o1 =>
        rw [es] at eo
        refine ⟨μ, ρ, h, o1, R, S, es, ?_⟩
        cases o1 with
        | nx ρ1 h1 => exact fun σ1 H1 μ1 n1 R1 S1 => ⟨μ1, ρ1, h1, o, R1, S1, eo, k.trans n1⟩
        | rt d h1 => cases eo; exact k
        | bk ρ1 h1 => cases eo; exact k
        | ct ρ1 h1 => cases eo; exact k
end
end
end Co

set_option linter.all false
set_option maxRecDepth 100000
set_option autoImplicit false
/-! Core26: the defs of the text. -/
namespace Co
open PySem L2

theorem E0_never : (E0 : XK) = fun _ _ _ => False := rfl
/-- how a def of the text binds its arguments -/
def BndOk (st : Stmt) (x : Str) (ps : List Str) : Prop := ∀ (kV doc pm : Value) (an : Option Addr) (cdv ct : Value) (us : List Value), us.length = ps.length →
  bindArgs (PySem.W.fnOf x x (defArgs st) (defBody st) (defScope st) .none kV doc pm an cdv ct) ⟨us, []⟩ = pure (ps.zip us)

section
variable {P : Program} {w : World} {K : PySem.W.Frag} {mg : Str → Option Value} {base : Heap}
/-- a def by its body -/
theorem fnG_of {k : Nat} {x qual : Str} {st : Stmt} {a : Addr} {fd : FuncData} {N ps : List Str} {sp : List V → Hp → VK → Prop} (F : L2.Fun K x qual st a fd) (Sc : FnScope N ps (defScope st)) (len : ∀ vs H Q, sp vs H Q → vs.length = ps.length)
    (body : ∀ (cdv : Value) (A : Around) (outer : List Env) (s : Shared) (H : Hp) (vs : List V) (Q : VK), A.guards = some [] → Room k (A.deeper (PyProof.Rows.envOfC qual (defScope st) s.heap.objs.size a cdv)) → sp vs H Q →
      ∃ t, PSs (cxOf CX0 P w K mg base N qual (defScope st) a cdv A outer s H E0).nox (defBody st) t ∧ t { nx := fun _ H' => Q .non H', rt := Q } (L2.start N vs) H) : FnG P w K mg base (k + 1) a fd ps sp where
  len := len
  run := fun A outer s H args us vs Q hgd hroom env hbind hvals hsp => by
    obtain ⟨oc, od, kV, doc, pm, an, cdv, ct, osl, rfl, lk, hcd⟩ := F.ex
    have kin : K.In s.heap := env.mod.kin.keeps fun b o e => (env.bs b o e).1
    have nolim : s.heap.NoLimit := env.mod.nolimit.keeps fun b o e => (env.bs b o e).1
    have kinds : ∀ y ∈ ps.zip us, (defScope st).names.lookup y.1 = some .local ∨ ((defScope st).names.lookup y.1 = some .cell ∧ ((cellsFrom (s.heap.objs.size + 1) (defScope st).names []).lookup y.1).isSome = true) := by
      rintro ⟨n, v⟩ hy
      refine (Sc.par n (List.of_mem_zip hy).1).imp id fun hcell => ⟨hcell, PySem.W.cellsFrom_some _ _ _ (.inl hcell)⟩
    obtain ⟨t, ht, hq⟩ := body cdv A outer s H vs Q hgd (hroom.deeper _) hsp
    refine codeAny_call_function hroom.depth (kin _ _ lk) rfl Sc.co Sc.gen rfl (PySem.W.codeRec_of kin hcd) (hbind _ _ _ _ (wpAny_newFunctionEnv_cells Sc.kind kinds fun e' he' s1 x1 => ?_))
    subst he'
    have inv := inv_start (CX := CX0) (E := E0) (mg := mg) (w := w) Sc hroom.hd env (len _ _ _ hsp) hvals x1
    refine ⟨nolim.keeps x1.toInCall.keep, codeAny_func (wpAny_mono (ht.nox.run [] s1 (L2.start N vs) H _ inv hq) (fun fl s' out => ?_) fun e s' out => out)⟩
    have done : ∀ {σ' : St} {H' : Hp} {v : V} {u : Value}, Inv (cxOf CX0 P w K mg base N qual (defScope st) a cdv A outer s H E0) [] σ' H' s' → RelV v u → Q v H' → CE outer P w H s Q u s' :=
      fun {_ H' v _} J rv hv => ⟨v, H', J.os, J.bare, J.base, J.hok, rv, hv⟩
    cases fl with
    | ret u => obtain ⟨v, σ', H', J, rv, hv⟩ := out; exact done J rv hv
    | next => obtain ⟨σ', H', J, hv⟩ := out; exact done (v := V.non) (u := Value.none) J rfl hv
    | brk => obtain ⟨_, _, _, no⟩ := out; exact no.elim
    | cont => obtain ⟨_, _, _, no⟩ := out; exact no.elim

/-- a def of the text, as the top has made it -/
structure DefIn (K : PySem.W.Frag) (mg : Str → Option Value) (fns : List Str) (fn : Fn) : Prop where
  ex : ∃ (st : Stmt) (a : Addr) (fd : FuncData), chkD fns fn st = true ∧ L2.Fun K fn.name fn.name st a fd ∧ mg fn.name = some (.ref a) ∧ BndOk st fn.name (fn.N.take fn.np)
structure Facts (K : PySem.W.Frag) (mg : Str → Option Value) (fns : List Fn) : Prop where
  defs : ∀ (i : Nat) (fn : Fn), fns[i]? = some fn → DefIn K mg (fns.map (·.name)) fn
  blt : ∀ x ∈ bnames, mg x = none
def AllG (P : Program) (w : World) (K : PySem.W.Frag) (mg : Str → Option Value) (base : Heap) (fns : List Fn) (k : Nat) : Prop := ∀ (i : Nat) (fn : Fn), fns[i]? = some fn → ∃ (a : Addr) (fd : FuncData) (ps : List Str),
  mg fn.name = some (.ref a) ∧ PySem.W.keepIn K (.ref a) = true ∧ ps = fn.N.take fn.np ∧ Binds K fd ps [] ∧ FnG P w K mg base k a fd ps (rCall ⟨P, w, K⟩ (callN fns k) i)
theorem chkD_is {fns : List Str} {fn : Fn} {st : Stmt} (h : chkD fns fn st = true) : argNames (defArgs st) = some (fn.N.take fn.np) ∧ fn.np ≤ fn.N.length ∧ FnScope fn.N (fn.N.take fn.np) (defScope st) ∧ chkSs ⟨fn.N, defScope st, fns⟩ fn.body (defBody st) = true := by
  unfold chkD at h
  split at h
  case h_2 => cases h
  rename_i n a b sc m p
  simp only [Bool.and_eq_true, decide_eq_true_eq, Bool.not_eq_true'] at h
  obtain ⟨⟨⟨⟨⟨⟨⟨⟨⟨⟨h1, h2⟩, h3⟩, h4⟩, h5⟩, h6⟩, h7⟩, h8⟩, h9⟩, h10⟩, h11⟩ := h
  refine ⟨h3, h4, ⟨?_, h6, h7, h8, ?_, fun x hx => ?_, fun y hy e => ?_⟩, h11⟩
  · show sc.kind = .function
    split at h5
    · assumption
    · cases h5
  · rw [List.length_take, Nat.min_eq_left h4]
  · have := List.all_eq_true.mp h9 x hx
    show sc.names.lookup x = some .local ∨ sc.names.lookup x = some .cell
    unfold isLoc at this
    split at this
    · exact .inl ‹_›
    · exact .inr ‹_›
    · cases this
  · have := List.all_eq_true.mp h10 y hy
    rw [e] at this
    cases this
theorem start_rs {K : PySem.W.Frag} {μ : List Addr} {H : Hp} {N : List Str} {ds : List Co.D} {vs : List V} (x : Dats K μ H ds vs) : Rs K μ H (ds.map some ++ List.replicate (N.length - ds.length) none) (L2.start N vs) := by
  have hl := x.length
  refine ⟨by simp [L2.start, hl], fun i d e => ?_⟩
  by_cases hi : i < ds.length
  · rw [List.getElem?_append_left (by simpa using hi), List.getElem?_map] at e
    cases q : ds[i]? with
    | none => rw [q] at e; cases e
    | some d' =>
      rw [q] at e
      cases e
      obtain ⟨v, e1, e2⟩ := x.get q
      exact ⟨v, by unfold L2.start; rw [List.getElem?_append_left (by simp; omega), List.getElem?_map, e1]; rfl, e2⟩
  · rw [List.getElem?_append_right (by simp; omega)] at e
    rw [List.getElem?_replicate] at e
    split at e <;> cases e
theorem fn_zero {fns : List Fn} {i : Nat} {fn : Fn} {a : Addr} {fd : FuncData} {ps : List Str} : FnG P w K mg base 0 a fd ps (rCall ⟨P, w, K⟩ (callN fns 0) i) := by
  refine ⟨fun vs H Q hs => ?_, fun A outer s H args us vs Q _ _ _ _ _ hs => ?_⟩
  · obtain ⟨μ, h, ds, d, h', R, dv, e, k⟩ := hs; simp [callN] at e
  · obtain ⟨μ, h, ds, d, h', R, dv, e, k⟩ := hs; simp [callN] at e
theorem fn_step {fns : List Fn} (F : Facts K mg fns) {k : Nat} (IH : AllG P w K mg base fns k) {i : Nat} {fn : Fn} (hfn : fns[i]? = some fn) {st : Stmt} {a : Addr} {fd : FuncData} (hc : chkD (fns.map (·.name)) fn st = true) (hF : L2.Fun K fn.name fn.name st a fd) :
    FnG P w K mg base (k + 1) a fd (fn.N.take fn.np) (rCall ⟨P, w, K⟩ (callN fns (k + 1)) i) := by
  obtain ⟨h1, h2, h3, h4⟩ := chkD_is hc
  refine fnG_of hF h3 (fun vs H Q hs => ?_) fun cdv A outer s H vs Q hgd hroom hs => ?_
  · obtain ⟨μ, h, ds, d, h', R, dv, e, kk⟩ := hs
    simp only [callN, hfn] at e
    split at e
    · rename_i hl; rw [dv.length, hl, List.length_take]; omega
    · cases e
  · have C : Cok (cxOf CX0 P w K mg base fn.N fn.name (defScope st) a cdv A outer s H E0).nox ⟨fn.N, defScope st, fns.map (·.name)⟩ (callN fns k) := {
      calm := rfl
      gd := hgd
      un := by have := hroom.un; show (A.deeper _).units + 70 < cLine; omega
      N := rfl
      nd := h3.nd
      vis := fun x hx => by
        show Vis (defScope st) x
        unfold isVis at hx
        unfold Vis
        split at hx
        · exact .inl ‹_›
        · exact .inr (.inl ‹_›)
        · exact .inr (.inr ‹_›)
        · cases hx
      loc := fun x hx => by
        refine ⟨?_, .inl rfl⟩
        show L2.Loc (defScope st) x
        unfold isLoc at hx
        unfold L2.Loc
        split at hx
        · exact .inl ‹_›
        · exact .inr ‹_›
        · cases hx
      gl := fun x hx => by
        show (defScope st).names.lookup x = some .globalImplicit
        unfold isGl at hx
        split at hx
        · assumption
        · cases hx
      fr := fun y hy => hy
      mgb := F.blt
      own := fun f n hf => by
        rw [List.getElem?_map] at hf
        cases q : fns[f]? with
        | none => rw [q] at hf; cases hf
        | some g =>
          rw [q] at hf
          cases hf
          obtain ⟨b, fd', ps', e1, e2, _, e4, e5⟩ := IH f g q
          exact ⟨b, k, fd', ps', e1, e2, hroom, e4, e5⟩
      kind := h3.kind }
    have S : Sok (cxOf CX0 P w K mg base fn.N fn.name (defScope st) a cdv A outer s H E0).nox ⟨fn.N, defScope st, fns.map (·.name)⟩ (callN fns k) := ⟨C, PassesOwn.never, rfl, by
      show Env.blockKind _ = _
      unfold Env.blockKind
      have hk : (cxOf CX0 P w K mg base fn.N fn.name (defScope st) a cdv A outer s H E0).nox.env.scope.kind = .function := h3.kind
      rw [hk]
      rfl⟩
    refine ⟨_, ss_ok fn.body S (defBody st) h4, ?_⟩
    obtain ⟨μ, h, ds, d, h', R, dv, e, kk⟩ := hs
    simp only [callN, hfn] at e
    split at e
    case isFalse => cases e
    split at e
    · rename_i ρ2 h2 eo
      cases e
      exact ⟨μ, _, h, _, R, start_rs dv, eo, fun σ' H' μ' n' R' S' => kk .non H' μ' n' R' rfl trivial⟩
    · rename_i d2 h2 eo
      cases e
      exact ⟨μ, _, h, _, R, start_rs dv, eo, fun v H' μ' n' R' d' => kk v H' μ' n' R' d' trivial⟩
    · cases e
theorem fn_at {fns : List Fn} (F : Facts K mg fns) {k : Nat} (all : ∀ j, j < k → AllG P w K mg base fns j) {i : Nat} {fn : Fn} (hfn : fns[i]? = some fn) {st : Stmt} {a : Addr} {fd : FuncData} (hc : chkD (fns.map (·.name)) fn st = true) (hF : L2.Fun K fn.name fn.name st a fd) :
    FnG P w K mg base k a fd (fn.N.take fn.np) (rCall ⟨P, w, K⟩ (callN fns k) i) := by
  cases k with
  | zero => exact fn_zero (fn := fn)
  | succ k => exact fn_step F (all k (Nat.lt_succ_self k)) hfn hc hF
theorem all_fns {fns : List Fn} (F : Facts K mg fns) (k : Nat) : AllG P w K mg base fns k := by
  induction k using Nat.strongRecOn with
  | _ k ih =>
    intro i fn hfn
    obtain ⟨st, a, fd, hc, hF, hm, hnp⟩ := (F.defs i fn hfn).ex
    exact ⟨a, fd, _, hm, hF.kp, rfl, hF.binds hnp, fn_at F ih hfn hc hF⟩
end
end Co

set_option linter.all false
set_option maxRecDepth 100000
set_option autoImplicit false
/-! Core27: the law's head. -/
namespace Co
open PySem L2 PyProof.Rows

section
variable {P : Program} {w : World} {K : PySem.W.Frag} {mg mb : Str → Option Value} {k : Nat} {fa a : Addr} {fd : FuncData} {x : Str} {sp : List V → Hp → VK → Prop} {s₁ : Shared} {vs : List Value} {ns : List Int}

/-- the script's object alone may be followed: H says how -/
theorem head_at {H : Hp} (inK : K.In s₁.heap) (globs : s₁.heap.Ns mainGlobals mg) (blts : s₁.heap.Ns builtinsNs mb) (boots : ∀ x : Str, x ≠ "__name__" → mb x = bootBuiltins x) (nolim : s₁.heap.NoLimit) (nogen : s₁.gens = #[])
    (obj : s₁.heap.get? a = some { cls := .type "list", data := .seq vs.toArray }) (room : Room k callerA) (F : ∀ base : Heap, K.In base → base.Ns mainGlobals mg → FnG P w K mg base k fa fd [x] sp) (bnd : ∀ (s : Shared) (u : Value), BindsTo s fd ⟨[u], []⟩ [(x, u)])
    (run : sp [.ref a] H (fun v _ => v = .bl true)) (only : Only H) (holds : HOk P w H s₁.heap) (alone : ∀ b, H b ≠ none → b = a) (apart : H a ≠ none → K.lookup a = none) :
    codeAny (model P w) callerA (.call (.ref fa) ⟨[.ref a], []⟩) (fun r s' => r = .ok (.ret (.bool true)) ∧ OldK s₁.heap s'.heap ∧ s'.os = s₁.os ∧ AllBare s'.gens) s₁ := by
  -- what is no list is not followed
  have out : ∀ {b : Addr} {o : Obj}, s₁.heap.get? b = some o → (b = a → False) → H b = none := fun {b o} _ nb => by
    by_cases q : H b = none
    · exact q
    · exact (nb (alone b q)).elim
  have isDict : ∀ {b : Addr} {o : Obj} {es : Array DictEntry} {ep : Nat}, s₁.heap.get? b = some o → o.data = .dict es ep → H b = none := fun {b o es ep} e hd => out e fun z => by
    subst z
    rw [obj] at e
    cases e
    exact nomatch (show Data.seq vs.toArray 0 = Data.dict es ep from hd)
  have names : ∀ {b : Addr} {m : Str → Option Value}, s₁.heap.Ns b m → (hidT s₁.heap H).Ns b m := by
    rintro b m ⟨o, es, ep, e, hd, rest⟩
    exact ⟨o, es, ep, hidT_get e (isDict e hd), hd, rest⟩
  have inB : K.In (hidT s₁.heap H) := fun b o e => by
    refine hidT_get (inK b o e) ?_
    by_cases q : H b = none
    · exact q
    · have z := alone b q
      subst z
      rw [apart q] at e
      exact nomatch e
  obtain ⟨mc, hm1, hm2⟩ := nolim
  have env : Env0 P w K mg (hidT s₁.heap H) callerA [] s₁ H := {
    frames := rfl
    mod := ⟨inB, names globs, ⟨mb, names blts, boots⟩, ⟨mc, names hm1, hm2⟩⟩
    bs := fun _ _ e => of_hidT e
    bsz := by rw [hidT_size]; exact Nat.le_refl _
    funs := trivial
    frf := fun b hb => by cases (show b ∈ ([] : List Addr) from hb)
    hok := holds
    bare := .of_eq nogen }
  refine codeAny_mono ((F _ inB (names globs)).run callerA [] s₁ H ⟨[.ref a], []⟩ [.ref a] [.ref a] _ rfl room env (bnd s₁ (.ref a)) (.cons rfl .nil) run) ?_
  intro r s' res
  cases r with
  | error e => exact False.elim res
  | ok fl =>
    cases fl with
    | ret u =>
      obtain ⟨v, H', os, bare, un, holds', rel, (ev : v = .bl true)⟩ := res
      subst ev
      cases (show u = Value.bool true from rel)
      refine ⟨rfl, PySem.OldK.of_keep fun b o e => ?_, os, bare⟩
      rcases only b with z | ⟨ob, xs, z⟩
      · exact un.keep b o e z (fun hb => by cases (show b ∈ ([] : List Addr) from hb)) (by simp)
      · have e1 := (holds b _ z).1
        have e2 := (holds' b _ (un.frzs b ob _ z)).1
        rw [e] at e1
        cases e1
        exact e2
    | _ => exact False.elim res
/-- the law is called at its script -/
theorem head_run (inK : K.In s₁.heap) (globs : s₁.heap.Ns mainGlobals mg) (blts : s₁.heap.Ns builtinsNs mb) (boots : ∀ x : Str, x ≠ "__name__" → mb x = bootBuiltins x) (nolim : s₁.heap.NoLimit) (nogen : s₁.gens = #[])
    (obj : s₁.heap.get? a = some { cls := .type "list", data := .seq vs.toArray }) (hin : IntsAre vs ns) (len : ns.length ≤ sizeLine) (room : Room k callerA) (F : ∀ base : Heap, K.In base → base.Ns mainGlobals mg → FnG P w K mg base k fa fd [x] sp)
    (bnd : ∀ (s : Shared) (u : Value), BindsTo s fd ⟨[u], []⟩ [(x, u)]) (run : ∀ H : Hp, FlAt K H a (ns.map V.int) → sp [.ref a] H (fun v _ => v = .bl true)) :
    codeAny (model P w) callerA (.call (.ref fa) ⟨[.ref a], []⟩) (fun r s' => r = .ok (.ret (.bool true)) ∧ OldK s₁.heap s'.heap ∧ s'.os = s₁.os ∧ AllBare s'.gens) s₁ := by
  have rel := vals_ints hin
  have lenV := hin.length
  by_cases hk : ∃ o, K.lookup a = some o
  · obtain ⟨o, hk⟩ := hk
    have e := inK a o hk
    rw [obj] at e
    cases e
    refine head_at (H := fun _ => none) inK globs blts boots nolim nogen obj room F bnd (run _ (.inr ⟨_, vs.toArray, _, hk, rfl, rfl, rfl, by rw [List.size_toArray, lenV]; exact len, by simpa using rel⟩)) (fun _ => .inl rfl) (fun b u z => by cases z) (fun b z => absurd rfl z) (fun z => absurd rfl z)
  · have hk' : K.lookup a = none := by
      cases q : K.lookup a with
      | none => rfl
      | some o => exact absurd ⟨o, q⟩ hk
    let ob : Obj := { cls := .type "list", data := .seq vs.toArray }
    refine head_at (H := fun b => if b = a then some (.frz ob (.lst (ns.map V.int))) else none) inK globs blts boots nolim nogen obj room F bnd (run _ (.inl ⟨ob, if_pos rfl⟩)) (fun b => ?_) (fun b u z => ?_) (fun b z => ?_) fun _ => hk'
    · by_cases q : b = a
      · exact .inr ⟨ob, _, if_pos q⟩
      · exact .inl (if_neg q)
    · by_cases q : b = a
      · subst q
        have z2 : some (HO.frz ob (.lst (ns.map V.int))) = some u := (if_pos rfl).symm.trans z
        cases z2
        exact ⟨obj, by rw [List.length_map]; exact len, vs, _, rel, obj⟩
      · have z2 : (none : Option HO) = some u := (if_neg q).symm.trans z
        cases z2
    · by_cases q : b = a
      · exact q
      · exact absurd (if_neg q) z
end

/-- the goal that k_head leaves, from what the interpreter says of every script -/
theorem walk_core {l : PySem.W.OpenLaw} {n k : Nat} {q : Program} {loose : List Str} {XP : (Str → Option Value) → Heap → Prop} {YP : World → Heap → Prop} {d : DefRec} {K : Params → PySem.W.Frag} {fns : List Fn} {i : Nat} {fn : Fn} {x : Str}
    (hn : l.most = some n) (hn2 : n ≤ sizeLine) (hdf : d.params.defaults = []) (hr : Room k callerA) (hY : ∀ (w : World) (h : Heap), YP w h → (K w.params).In h) (hfn : fns[i]? = some fn) (hname : d.name = fn.name) (hps : fn.N.take fn.np = [x])
    (hF : ∀ (w : World) (mg : Str → Option Value) (h : Heap), (K w.params).In h → h.Ns mainGlobals mg → Facts (K w.params) mg fns)
    (law : ∀ ns : List Int, ns.length ≤ n → ∃ h, callN fns k i [.fl (ns.map Co.D.int)] [] = some (.bl true, h)) : PySem.W.WalkO q loose XP YP l.row.toRowW d [] (fun f vs => PySem.call f vs) := by
  refine Att.attach_call hn hdf fun w s₀ s₁ mg mb fa o pm cd doc a vs ns G Y ho hd hcd hmg hobj hints hlen hg => ?_
  have KX := hY w _ Y
  have F := hF w mg _ KX G.T.g
  obtain ⟨st, fa', fd, hc, hFn, e1, hnp⟩ := (F.defs i fn hfn).ex
  have efa : fa' = fa := by rw [hname] at hmg; rw [hmg] at e1; cases e1; rfl
  subst efa
  have hb := hFn.binds hnp
  rw [hps] at hb
  refine head_run (sp := rCall ⟨l.prog, w, K w.params⟩ (callN fns k) i) (x := x) (fd := fd) KX G.T.g G.T.b G.T.builtins G.T.nolimit hg hobj hints (Nat.le_trans hlen hn2) hr (fun base _ _ => ?_) (fun s u => ?_) fun H hfl => ?_
  · have := fn_at (P := l.prog) (w := w) (base := base) (k := k) F (fun j _ => all_fns F j) hfn hc hFn
    rw [hps] at this
    exact this
  · obtain ⟨oc, od, kV, doc, pm', an, cdv, ct, osl, rfl, _, _⟩ := hFn.ex
    have e := hnp kV doc pm' an cdv ct [u] (by rw [hps]; rfl)
    rw [hps] at e
    exact .of_eq e
  · obtain ⟨hh, hrun⟩ := law ns hlen
    refine ⟨[], [], [.fl (ns.map Co.D.int)], .bl true, hh, ⟨rfl, List.nodup_nil, fun n c e => by simp at e⟩, ⟨_, [], rfl, ⟨a, ns.map V.int, rfl, hfl, ?_⟩, rfl⟩, hrun, fun v H' μ' _ _ dv _ => dv⟩
    exact Dats.map _ fun _ _ => rfl
/-- one def of the text -/
theorem def_in {K : PySem.W.Frag} {h : Heap} {mg : Str → Option Value} {fns : List Str} {fn : Fn} {st : Stmt} {f : Addr} {oc kV dc pm cd ct : Value} {od an : Option Addr} {sl : Array (Option Value)} (X : K.In h) (G : h.Ns mainGlobals mg)
    (a : PySem.W.nsIn K mainGlobals fn.name = some (some (.ref f))) (l : K.lookup f = some ⟨oc, od, .func (PySem.W.fnOf fn.name fn.name (defArgs st) (defBody st) (defScope st) .none kV dc pm an cd ct), sl⟩) (c : PySem.W.codeIn K cd fn.name = true) (k : PySem.W.keepIn K (.ref f) = true)
    (hc : chkD fns fn st = true) (hb : BndOk st fn.name (fn.N.take fn.np)) : DefIn K mg fns fn := ⟨st, f, _, hc, fun_mk l c k, PySem.W.mg_of X G a, hb⟩
theorem facts_nil {K : PySem.W.Frag} {mg : Str → Option Value} {names : List Str} : ∀ (i : Nat) (fn : Fn), ([] : List Fn)[i]? = some fn → DefIn K mg names fn := fun i fn h => by simp at h
theorem facts_cons {K : PySem.W.Frag} {mg : Str → Option Value} {names : List Str} {g : Fn} {gs : List Fn} (a : DefIn K mg names g) (b : ∀ (i : Nat) (fn : Fn), gs[i]? = some fn → DefIn K mg names fn) : ∀ (i : Nat) (fn : Fn), (g :: gs)[i]? = some fn → DefIn K mg names fn := fun i fn h => by
  cases i with
  | zero => simp at h; subst h; exact a
  | succ i => exact b i fn (by simpa using h)
theorem blt_nil {mg : Str → Option Value} : ∀ x ∈ ([] : List Str), mg x = none := fun x h => by simp at h
theorem blt_cons {K : PySem.W.Frag} {h : Heap} {mg : Str → Option Value} {x : Str} {xs : List Str} (X : K.In h) (G : h.Ns mainGlobals mg) (a : PySem.W.nsIn K mainGlobals x = some none) (b : ∀ y ∈ xs, mg y = none) : ∀ y ∈ x :: xs, mg y = none := fun y hy => by
  rcases List.mem_cons.mp hy with rfl | hy
  · exact PySem.W.mg_none_of X G a
  · exact b y hy
end Co

set_option linter.all false
set_option maxRecDepth 100000
set_option autoImplicit false
/-! Core28: running the interpreter in proofs: what is wanted of a value, a statement, a call. -/
namespace Co

section
variable {cl : Call}
def EQ (cl : Call) (e : E) (ρ : Rho) (h : Hh) (Q : Res → Hh → Prop) : Prop := ∃ r h', ev cl e ρ h = some (r, h') ∧ Q r h'
def EsQ (cl : Call) (es : List E) (ρ : Rho) (h : Hh) (Q : List D → Hh → Prop) : Prop := ∃ ds h', evs cl es ρ h = some (ds, h') ∧ Q ds h'
def RsQ (cl : Call) (es : List E) (ρ : Rho) (h : Hh) (Q : List Res → Hh → Prop) : Prop := ∃ rs h', evRs cl es ρ h = some (rs, h') ∧ Q rs h'
def OQ (cl : Call) (e : Option E) (ρ : Rho) (h : Hh) (Q : Option Int → Hh → Prop) : Prop := ∃ r h', evO cl e ρ h = some (r, h') ∧ Q r h'
def WQ (cl : Call) (w : W) (ρ : Rho) (h : Hh) (Q : Walk → Hh → Prop) : Prop := ∃ r h', evW cl w ρ h = some (r, h') ∧ Q r h'
def TQ (cl : Call) (e : Option E) (ρ : Rho) (h : Hh) (Q : Bool → Hh → Prop) : Prop := ∃ b h', evT cl e ρ h = some (b, h') ∧ Q b h'
def SQ (cl : Call) (s : S) (ρ : Rho) (h : Hh) (Q : Out → Prop) : Prop := ∃ o, ex cl s ρ h = some o ∧ Q o
def SsQ (cl : Call) (ss : List S) (ρ : Rho) (h : Hh) (Q : Out → Prop) : Prop := ∃ o, exs cl ss ρ h = some o ∧ Q o
/-- a call that comes back -/
def CQ (cl : Call) (f : Nat) (ds : List D) (h : Hh) (Q : D → Hh → Prop) : Prop := ∃ d h', cl f ds h = some (d, h') ∧ Q d h'

variable {a b c : E} {es : List E} {ρ : Rho} {h : Hh} {Q : Res → Hh → Prop}
theorem EQ.mono {e : E} {Q' : Res → Hh → Prop} (x : EQ cl e ρ h Q) (i : ∀ r h', Q r h' → Q' r h') : EQ cl e ρ h Q' := let ⟨r, h', e1, q⟩ := x; ⟨r, h', e1, i r h' q⟩
theorem CQ.mono {f : Nat} {ds : List D} {Q Q' : D → Hh → Prop} (x : CQ cl f ds h Q) (i : ∀ r h', Q r h' → Q' r h') : CQ cl f ds h Q' := let ⟨r, h', e1, q⟩ := x; ⟨r, h', e1, i r h' q⟩
theorem SsQ.mono {ss : List S} {Q Q' : Out → Prop} (x : SsQ cl ss ρ h Q) (i : ∀ o, Q o → Q' o) : SsQ cl ss ρ h Q' := let ⟨o, e1, q⟩ := x; ⟨o, e1, i o q⟩
theorem q_var {i : Nat} {d : D} (e : ρ[i]? = some (some d)) (q : Q (.v d) h) : EQ cl (.var i) ρ h Q := ⟨_, _, by simp only [ev, e], q⟩
theorem q_non (q : Q (.v .non) h) : EQ cl .non ρ h Q := ⟨_, _, rfl, q⟩
theorem q_bl {k : Bool} (q : Q (.v (.bl k)) h) : EQ cl (.bl k) ρ h Q := ⟨_, _, rfl, q⟩
theorem q_int {k : Int} (q : Q (.v (.int k)) h) : EQ cl (.int k) ρ h Q := ⟨_, _, rfl, q⟩
theorem q_str {k : PySem.Str} (q : Q (.v (.str k)) h) : EQ cl (.str k) ρ h Q := ⟨_, _, rfl, q⟩
theorem q_bin {o : Bop} (x : EQ cl a ρ h fun r h1 => EQ cl b ρ h1 fun s h2 => ∃ z, binop o h2 r s = some z ∧ Q z h2) : EQ cl (.bin o a b) ρ h Q := by
  obtain ⟨r, h1, e1, s, h2, e2, z, e3, q⟩ := x
  exact ⟨z, h2, by simp only [ev, e1, e2, e3], q⟩
theorem q_neg (x : EQ cl a ρ h fun r h1 => ∃ i, r = .v (.int i) ∧ Q (.v (.int (-i))) h1) : EQ cl (.neg a) ρ h Q := by
  obtain ⟨r, h1, e1, i, rfl, q⟩ := x
  exact ⟨_, h1, by simp only [ev, e1], q⟩
theorem q_not (x : EQ cl a ρ h fun r h1 => ∃ i, r = .v (.bl i) ∧ Q (.v (.bl (!i))) h1) : EQ cl (.not a) ρ h Q := by
  obtain ⟨r, h1, e1, i, rfl, q⟩ := x
  exact ⟨_, h1, by simp only [ev, e1], q⟩
theorem q_and (x : EQ cl a ρ h fun r h1 => ∃ i, r = .v (.bl i) ∧ (i = true → EQ cl b ρ h1 Q) ∧ (i = false → Q (.v (.bl false)) h1)) : EQ cl (.and a b) ρ h Q := by
  obtain ⟨r, h1, e1, i, rfl, q1, q2⟩ := x
  cases i with
  | true => obtain ⟨s, h2, e2, q⟩ := q1 rfl; exact ⟨s, h2, by simp only [ev, e1, e2], q⟩
  | false => exact ⟨_, h1, by simp only [ev, e1], q2 rfl⟩
theorem q_or (x : EQ cl a ρ h fun r h1 => ∃ i, r = .v (.bl i) ∧ (i = false → EQ cl b ρ h1 Q) ∧ (i = true → Q (.v (.bl true)) h1)) : EQ cl (.or a b) ρ h Q := by
  obtain ⟨r, h1, e1, i, rfl, q1, q2⟩ := x
  cases i with
  | false => obtain ⟨s, h2, e2, q⟩ := q1 rfl; exact ⟨s, h2, by simp only [ev, e1, e2], q⟩
  | true => exact ⟨_, h1, by simp only [ev, e1], q2 rfl⟩
theorem q_cmp {o : Cop} (x : EQ cl a ρ h fun r h1 => EQ cl b ρ h1 fun s h2 => ∃ z, cmpop o h2 r s = some z ∧ Q (.v (.bl z)) h2) : EQ cl (.cmp o a b) ρ h Q := by
  obtain ⟨r, h1, e1, s, h2, e2, z, e3, q⟩ := x
  exact ⟨_, h2, by simp only [ev, e1, e2, e3], q⟩
theorem q_chn {o p : Cop} (x : EQ cl a ρ h fun r h1 => EQ cl b ρ h1 fun s h2 => ∃ z, cmpop o h2 r s = some z ∧ (z = false → Q (.v (.bl false)) h2) ∧ (z = true → EQ cl c ρ h2 fun t h3 => ∃ y, cmpop p h3 s t = some y ∧ Q (.v (.bl y)) h3)) : EQ cl (.chn o p a b c) ρ h Q := by
  obtain ⟨r, h1, e1, s, h2, e2, z, e3, q1, q2⟩ := x
  cases z with
  | false => exact ⟨_, h2, by simp only [ev, e1, e2, e3], q1 rfl⟩
  | true =>
    obtain ⟨t, h3, e4, y, e5, q⟩ := q2 rfl
    exact ⟨_, h3, by simp only [ev, e1, e2, e3, e4, e5], q⟩
theorem q_ite (x : EQ cl a ρ h fun r h1 => ∃ i, r = .v (.bl i) ∧ (i = true → EQ cl b ρ h1 Q) ∧ (i = false → EQ cl c ρ h1 Q)) : EQ cl (.ite a b c) ρ h Q := by
  obtain ⟨r, h1, e1, i, rfl, q1, q2⟩ := x
  cases i with
  | true => obtain ⟨s, h2, e2, q⟩ := q1 rfl; exact ⟨s, h2, by simp only [ev, e1, e2], q⟩
  | false => obtain ⟨s, h2, e2, q⟩ := q2 rfl; exact ⟨s, h2, by simp only [ev, e1, e2], q⟩
theorem q_ix (x : EQ cl a ρ h fun r h1 => EQ cl b ρ h1 fun s h2 => ∃ z, item h2 r s = some z ∧ Q (.v z) h2) : EQ cl (.ix a b) ρ h Q := by
  obtain ⟨r, h1, e1, s, h2, e2, z, e3, q⟩ := x
  exact ⟨_, h2, by simp only [ev, e1, e2, e3], q⟩
theorem q_onone {Q : Option Int → Hh → Prop} (q : Q none h) : OQ cl none ρ h Q := ⟨_, _, rfl, q⟩
theorem q_osome {Q : Option Int → Hh → Prop} (x : EQ cl a ρ h fun r h1 => ∃ i, r = .v (.int i) ∧ Q (some i) h1) : OQ cl (some a) ρ h Q := by
  obtain ⟨r, h1, e1, i, rfl, q⟩ := x
  exact ⟨_, h1, by simp only [evO, e1], q⟩
theorem q_sl {lo hi : Option E} (x : EQ cl a ρ h fun r h1 => OQ cl lo ρ h1 fun l h2 => OQ cl hi ρ h2 fun u h3 => ∃ z, slice h3 r l u = some z ∧ Q z h3) : EQ cl (.sl a lo hi) ρ h Q := by
  obtain ⟨r, h1, e1, s, h2, e2, u, h3, e3, z, e4, q⟩ := x
  exact ⟨_, h3, by simp only [ev, e1, e2, e3, e4], q⟩
theorem q_rev (x : EQ cl a ρ h fun r h1 => ∃ z, turned h1 r = some z ∧ Q z h1) : EQ cl (.rev a) ρ h Q := by
  obtain ⟨r, h1, e1, z, e4, q⟩ := x
  exact ⟨_, h1, by simp only [ev, e1, e4], q⟩
theorem q_esnil {Q : List D → Hh → Prop} (q : Q [] h) : EsQ cl [] ρ h Q := ⟨_, _, rfl, q⟩
theorem q_escons {Q : List D → Hh → Prop} (x : EQ cl a ρ h fun r h1 => EsQ cl es ρ (adopt r h1).2 fun ds h2 => Q ((adopt r h1).1 :: ds) h2) : EsQ cl (a :: es) ρ h Q := by
  obtain ⟨r, h1, e1, ds, h2, e2, q⟩ := x
  exact ⟨_, h2, by simp only [evs, asD, e1, e2], q⟩
theorem q_rsnil {Q : List Res → Hh → Prop} (q : Q [] h) : RsQ cl [] ρ h Q := ⟨_, _, rfl, q⟩
theorem q_rscons {Q : List Res → Hh → Prop} (x : EQ cl a ρ h fun r h1 => RsQ cl es ρ h1 fun ds h2 => Q (r :: ds) h2) : RsQ cl (a :: es) ρ h Q := by
  obtain ⟨r, h1, e1, ds, h2, e2, q⟩ := x
  exact ⟨_, h2, by simp only [evRs, e1, e2], q⟩
theorem q_tup (x : EsQ cl es ρ h fun ds h1 => small ds.length = true ∧ Q (.v (.tup ds)) h1) : EQ cl (.tup es) ρ h Q := by
  obtain ⟨ds, h1, e1, hs, q⟩ := x
  exact ⟨_, h1, by simp only [ev, e1, hs, if_true], q⟩
theorem q_lst (x : EsQ cl es ρ h fun ds h1 => small ds.length = true ∧ Q (.f ds) h1) : EQ cl (.lst es) ρ h Q := by
  obtain ⟨ds, h1, e1, hs, q⟩ := x
  exact ⟨_, h1, by simp only [ev, e1, hs, if_true], q⟩
theorem q_dnew (q : Q (.v (.ref h.length)) (h ++ [.dct []])) : EQ cl .dnew ρ h Q := ⟨_, _, rfl, q⟩
theorem q_call {f : Nat} (x : EsQ cl es ρ h fun ds h1 => CQ cl f ds h1 fun d h2 => Q (.v d) h2) : EQ cl (.call f es) ρ h Q := by
  obtain ⟨ds, h1, e1, d, h2, e2, q⟩ := x
  exact ⟨_, h2, by simp only [ev, e1, e2], q⟩
theorem q_bi {o : Bi} (x : RsQ cl es ρ h fun rs h1 => ∃ z h2, bltn o h1 rs = some (z, h2) ∧ Q z h2) : EQ cl (.bi o es) ρ h Q := by
  obtain ⟨ds, h1, e1, d, h2, e2, q⟩ := x
  exact ⟨_, h2, by simp only [ev, e1, e2], q⟩
theorem q_isi {t : Ty} (x : EQ cl a ρ h fun r h1 => knownTy h1 r = true ∧ Q (.v (.bl (tyIs (tyOf h1 r) t))) h1) : EQ cl (.isi t a) ρ h Q := by
  obtain ⟨r, h1, e1, hk, q⟩ := x
  exact ⟨_, h1, by simp only [ev, e1, hk, if_true], q⟩
theorem q_me {m : Me} (x : EQ cl a ρ h fun r h1 => ∃ d, r = .v d ∧ RsQ cl es ρ h1 fun rs h2 => mkd h1 d = mkd h2 d ∧ ∃ z h3, methd m h2 d rs = some (z, h3) ∧ Q z h3) : EQ cl (.me m a es) ρ h Q := by
  obtain ⟨r, h1, e1, d, rfl, rs, h2, e2, hk, z, h3, e3, q⟩ := x
  exact ⟨_, h3, by simp only [ev, e1, e2, hk, if_true, e3], q⟩
theorem q_lstR (x : RsQ cl es ρ h fun rs h1 => ∃ ds, rangeOf rs = some ds ∧ Q (.f ds) h1) : EQ cl (.lstR es) ρ h Q := by
  obtain ⟨ds, h1, e1, d, e2, q⟩ := x
  exact ⟨_, h1, by simp only [ev, e1, e2], q⟩
theorem q_tupR (x : RsQ cl es ρ h fun rs h1 => ∃ ds, rangeOf rs = some ds ∧ Q (.v (.tup ds)) h1) : EQ cl (.tupR es) ρ h Q := by
  obtain ⟨ds, h1, e1, d, e2, q⟩ := x
  exact ⟨_, h1, by simp only [ev, e1, e2], q⟩
theorem q_lc {tg : Tg} {it : W} {t : Option E} {own : List (PySem.Str × Nat)} (x : WQ cl it ρ h fun w h1 => ∃ ds h2, lcL (fun ρ h => evT cl t ρ h) (fun ρ h => asD (ev cl a ρ h)) tg w (wipeR ρ own) w.ds [] h1 = some (ds, h2) ∧ Q (.f ds) h2) : EQ cl (.lc tg it t a own) ρ h Q := by
  obtain ⟨w, h1, e1, ds, h2, e2, q⟩ := x
  exact ⟨_, h2, by simp only [ev, e1, e2], q⟩
theorem q_wof {Q : Walk → Hh → Prop} (x : EQ cl a ρ h fun r h1 => ∃ w, walkOf h1 r = some w ∧ Q w h1) : WQ cl (.of a) ρ h Q := by
  obtain ⟨r, h1, e1, w, e2, q⟩ := x
  exact ⟨_, h1, by simp only [evW, e1, e2], q⟩
theorem q_wrange {Q : Walk → Hh → Prop} (x : RsQ cl es ρ h fun rs h1 => ∃ ds, rangeOf rs = some ds ∧ Q ⟨ds, none, none⟩ h1) : WQ cl (.range es) ρ h Q := by
  obtain ⟨r, h1, e1, w, e2, q⟩ := x
  exact ⟨_, h1, by simp only [evW, e1, e2], q⟩
theorem q_wenum {Q : Walk → Hh → Prop} (x : EQ cl a ρ h fun r h1 => ∃ ds, listOf h1 r = some ds ∧ Q ⟨enumD ds, guardOf h1 r, none⟩ h1) : WQ cl (.enum a) ρ h Q := by
  obtain ⟨r, h1, e1, w, e2, q⟩ := x
  exact ⟨_, h1, by simp only [evW, e1, e2], q⟩

/-! ### loops -/
/-- a comprehension: Iv of what is done, the items so far, the heap -/
theorem lc_by {test : Rho → Hh → Option (Bool × Hh)} {elt : Rho → Hh → Option (D × Hh)} {tg : Tg} {w : Walk} {ρ : Rho} (Iv : List D → List D → Hh → Prop) : ∀ (rest done acc : List D) (h : Hh), Iv done acc h → acc.length + rest.length ≤ 16777216 → (∀ done acc h, Iv done acc h → w.ok h = true) →
    (∀ d done' rest' acc h, done ++ rest = done' ++ d :: rest' → Iv done' acc h → ∃ ρ1, bindT tg d ρ = some ρ1 ∧ ∃ b h1, test ρ1 h = some (b, h1) ∧ (b = true → ∃ x h2, elt ρ1 h1 = some (x, h2) ∧ Iv (done' ++ [d]) (acc ++ [x]) h2) ∧ (b = false → Iv (done' ++ [d]) acc h1)) →
    ∃ ds h', lcL test elt tg w ρ rest acc h = some (ds, h') ∧ Iv (done ++ rest) ds h'
  | [], done, acc, h, iv, hl, hw, st => ⟨acc, h, by simp only [lcL, hw _ _ _ iv, if_true], by simpa using iv⟩
  | d :: rest, done, acc, h, iv, hl, hw, st => by
    obtain ⟨ρ1, e1, b, h1, e2, q1, q2⟩ := st d done rest acc h rfl iv
    have hok := hw _ _ _ iv
    simp only [List.length_cons] at hl
    have next : ∀ (acc' : List D) (h2 : Hh), acc'.length ≤ acc.length + 1 → Iv (done ++ [d]) acc' h2 → ∃ ds h', lcL test elt tg w ρ rest acc' h2 = some (ds, h') ∧ Iv (done ++ d :: rest) ds h' := fun acc' h2 hl2 iv2 => by
      obtain ⟨ds, h', e, iv3⟩ := lc_by Iv rest (done ++ [d]) acc' h2 iv2 (by omega) hw fun d' done' rest' acc h e => st d' done' rest' acc h (by simpa using e)
      exact ⟨ds, h', e, by simpa using iv3⟩
    cases b with
    | true =>
      obtain ⟨x, h2, e3, iv2⟩ := q1 rfl
      obtain ⟨ds, h', e, iv3⟩ := next (acc ++ [x]) h2 (by simp) iv2
      exact ⟨ds, h', by simp only [lcL, hok, if_true, e1, e2, e3]; rw [if_pos (decide_eq_true (by omega))]; exact e, iv3⟩
    | false =>
      obtain ⟨ds, h', e, iv3⟩ := next acc h1 (by omega) (q2 rfl)
      exact ⟨ds, h', by simp only [lcL, hok, if_true, e1, e2]; exact e, iv3⟩
/-- a loop: Iv of what is done, the names, the heap; R of a way out -/
theorem for_by {body : Rho → Hh → Option Out} {tg : Tg} {w : Walk} {Q : Out → Prop} (Iv : List D → Rho → Hh → Prop) : ∀ (rest done : List D) (ρ : Rho) (h : Hh), Iv done ρ h → (∀ done ρ h, Iv done ρ h → w.ok h = true) →
    (∀ d done' rest' ρ h, done ++ rest = done' ++ d :: rest' → Iv done' ρ h → ∃ ρ1, bindT tg d ρ = some ρ1 ∧ ∃ o, body ρ1 h = some o ∧ (match o with
      | .nx ρ2 h2 => Iv (done' ++ [d]) ρ2 h2
      | .ct ρ2 h2 => Iv (done' ++ [d]) ρ2 h2
      | .bk ρ2 h2 => Q (.nx ρ2 h2)
      | .rt x h2 => Q (.rt x h2))) → (∀ ρ h, Iv (done ++ rest) ρ h → Q (.nx ρ h)) →
    ∃ o, forL body tg w rest ρ h = some o ∧ Q o
  | [], done, ρ, h, iv, hw, st, fin => ⟨.nx ρ h, by simp only [forL, hw _ _ _ iv, if_true], fin _ _ (by simpa using iv)⟩
  | d :: rest, done, ρ, h, iv, hw, st, fin => by
    obtain ⟨ρ1, e1, o, e2, q⟩ := st d done rest ρ h rfl iv
    have hok := hw _ _ _ iv
    have next : ∀ (ρ2 : Rho) (h2 : Hh), Iv (done ++ [d]) ρ2 h2 → ∃ o, forL body tg w rest ρ2 h2 = some o ∧ Q o := fun ρ2 h2 iv2 =>
      for_by Iv rest (done ++ [d]) ρ2 h2 iv2 hw (fun d' done' rest' ρ h e => st d' done' rest' ρ h (by simpa using e)) fun ρ h iv => fin ρ h (by simpa using iv)
    cases o with
    | nx ρ2 h2 => obtain ⟨o, e, qq⟩ := next ρ2 h2 q; exact ⟨o, by simp only [forL, hok, if_true, e1, e2]; exact e, qq⟩
    | ct ρ2 h2 => obtain ⟨o, e, qq⟩ := next ρ2 h2 q; exact ⟨o, by simp only [forL, hok, if_true, e1, e2]; exact e, qq⟩
    | bk ρ2 h2 => exact ⟨_, by simp only [forL, hok, if_true, e1, e2], q⟩
    | rt x h2 => exact ⟨_, by simp only [forL, hok, if_true, e1, e2], q⟩
theorem whl_by {test : Rho → Hh → Option (Bool × Hh)} {body : Rho → Hh → Option Out} {Q : Out → Prop} (Iv : Nat → Rho → Hh → Prop) (st : ∀ n ρ h, Iv n ρ h → ∃ b h1, test ρ h = some (b, h1) ∧ (b = false → Q (.nx ρ h1)) ∧ (b = true → ∃ o, body ρ h1 = some o ∧ (match o with
      | .nx ρ2 h2 => ∃ m, m < n ∧ Iv m ρ2 h2
      | .ct ρ2 h2 => ∃ m, m < n ∧ Iv m ρ2 h2
      | .bk ρ2 h2 => Q (.nx ρ2 h2)
      | .rt x h2 => Q (.rt x h2)))) : ∀ (f n : Nat) (ρ : Rho) (h : Hh), Iv n ρ h → n < f → ∃ o, whlL test body f ρ h = some o ∧ Q o
  | 0, n, ρ, h, iv, hf => by omega
  | f + 1, n, ρ, h, iv, hf => by
    obtain ⟨b, h1, e1, q1, q2⟩ := st n ρ h iv
    cases b with
    | false => exact ⟨_, by simp only [whlL, e1], q1 rfl⟩
    | true =>
      obtain ⟨o, e2, q⟩ := q2 rfl
      cases o with
      | nx ρ2 h2 => obtain ⟨m, hm, iv2⟩ := q; obtain ⟨o, e, qq⟩ := whl_by Iv st f m ρ2 h2 iv2 (by omega); exact ⟨o, by simp only [whlL, e1, e2]; exact e, qq⟩
      | ct ρ2 h2 => obtain ⟨m, hm, iv2⟩ := q; obtain ⟨o, e, qq⟩ := whl_by Iv st f m ρ2 h2 iv2 (by omega); exact ⟨o, by simp only [whlL, e1, e2]; exact e, qq⟩
      | bk ρ2 h2 => exact ⟨_, by simp only [whlL, e1, e2], q⟩
      | rt x h2 => exact ⟨_, by simp only [whlL, e1, e2], q⟩

/-! ### statements -/
variable {P : Out → Prop}
theorem q_asg {tg : Tg} (x : EQ cl a ρ h fun r h1 => ∃ ρ1, bindT tg (adopt r h1).1 ρ = some ρ1 ∧ P (.nx ρ1 (adopt r h1).2)) : SQ cl (.asg tg a) ρ h P := by
  obtain ⟨r, h1, e1, ρ1, e2, q⟩ := x
  exact ⟨_, by simp only [ex, e1, bindR, e2], q⟩
theorem q_par {is : List Nat} (x : EsQ cl es ρ h fun ds h1 => ∃ ρ1, bindPar is ds ρ = some ρ1 ∧ P (.nx ρ1 h1)) : SQ cl (.par is es) ρ h P := by
  obtain ⟨r, h1, e1, ρ1, e2, q⟩ := x
  exact ⟨_, by simp only [ex, e1, e2], q⟩
theorem q_six (x : EQ cl c ρ h fun r h1 => EQ cl a ρ (adopt r h1).2 fun s h2 => ∃ x, s = .v x ∧ EQ cl b ρ h2 fun t h3 => ∃ y, t = .v y ∧ ∃ h4, setItem? h3 x y (adopt r h1).1 = some h4 ∧ P (.nx ρ h4)) : SQ cl (.six a b c) ρ h P := by
  obtain ⟨r, h1, e1, s, h2, e2, x, rfl, t, h3, e3, y, rfl, h4, e4, q⟩ := x
  exact ⟨_, by simp only [ex, asD, e1, e2, e3, e4], q⟩
theorem q_ex (x : EQ cl a ρ h fun r h1 => P (.nx ρ h1)) : SQ cl (.ex a) ρ h P := by
  obtain ⟨r, h1, e1, q⟩ := x
  exact ⟨_, by simp only [ex, e1], q⟩
theorem q_ret (x : EQ cl a ρ h fun r h1 => P (.rt (adopt r h1).1 (adopt r h1).2)) : SQ cl (.ret a) ρ h P := by
  obtain ⟨r, h1, e1, q⟩ := x
  exact ⟨_, by simp only [ex, asD, e1], q⟩
theorem q_if {x y : List S} (z : EQ cl a ρ h fun r h1 => ∃ i, r = .v (.bl i) ∧ (i = true → SsQ cl x ρ h1 P) ∧ (i = false → SsQ cl y ρ h1 P)) : SQ cl (.ite a x y) ρ h P := by
  obtain ⟨r, h1, e1, i, rfl, q1, q2⟩ := z
  cases i with
  | true => obtain ⟨o, e2, q⟩ := q1 rfl; exact ⟨o, by simp only [ex, e1, e2], q⟩
  | false => obtain ⟨o, e2, q⟩ := q2 rfl; exact ⟨o, by simp only [ex, e1, e2], q⟩
theorem q_for {tg : Tg} {it : W} {x : List S} (z : WQ cl it ρ h fun w h1 => ∃ o, forL (fun ρ h => exs cl x ρ h) tg w w.ds ρ h1 = some o ∧ P o) : SQ cl (.for tg it x) ρ h P := by
  obtain ⟨w, h1, e1, o, e2, q⟩ := z
  exact ⟨o, by simp only [ex, e1, e2], q⟩
theorem q_whl {x : List S} (z : ∃ o, whlL (fun ρ h => asB (ev cl a ρ h)) (fun ρ h => exs cl x ρ h) fuel ρ h = some o ∧ P o) : SQ cl (.whl a x) ρ h P := by
  obtain ⟨o, e2, q⟩ := z
  exact ⟨o, by simp only [ex, e2], q⟩
theorem q_nil (q : P (.nx ρ h)) : SsQ cl [] ρ h P := ⟨_, rfl, q⟩
theorem q_cons {s : S} {ss : List S} (z : SQ cl s ρ h fun o => match o with
    | .nx ρ1 h1 => SsQ cl ss ρ1 h1 P
    | o => P o) : SsQ cl (s :: ss) ρ h P := by
  obtain ⟨o, e1, q⟩ := z
  cases o with
  | nx ρ1 h1 => obtain ⟨o2, e2, q2⟩ := q; exact ⟨o2, by simp only [exs, e1, e2], q2⟩
  | rt x h1 => exact ⟨_, by simp only [exs, e1], q⟩
  | bk x h1 => exact ⟨_, by simp only [exs, e1], q⟩
  | ct x h1 => exact ⟨_, by simp only [exs, e1], q⟩
theorem q_fn {fns : List Fn} {k f : Nat} {fn : Fn} {ds : List D} {h : Hh} {Q : D → Hh → Prop} (hf : fns[f]? = some fn) (hn : ds.length = fn.np) (x : SsQ (callN fns k) fn.body (ds.map some ++ List.replicate (fn.N.length - ds.length) none) h fun o => match o with
    | .nx _ h' => Q .non h'
    | .rt d h' => Q d h'
    | _ => False) : CQ (callN fns (k + 1)) f ds h Q := by
  obtain ⟨o, e, q⟩ := x
  cases o with
  | nx ρ1 h1 => exact ⟨.non, h1, by simp only [callN, hf, hn, if_true]; rw [hn] at e; simp only [e], q⟩
  | rt d h1 => exact ⟨d, h1, by simp only [callN, hf, hn, if_true]; rw [hn] at e; simp only [e], q⟩
  | bk _ _ => exact q.elim
  | ct _ _ => exact q.elim
theorem q_tnone {Q : Bool → Hh → Prop} (q : Q true h) : TQ cl none ρ h Q := ⟨_, _, rfl, q⟩
theorem q_tsome {Q : Bool → Hh → Prop} (x : EQ cl a ρ h fun r h1 => ∃ i, r = .v (.bl i) ∧ Q i h1) : TQ cl (some a) ρ h Q := by
  obtain ⟨r, h1, e1, i, rfl, q⟩ := x
  exact ⟨i, h1, by simp only [evT, asB, e1], q⟩
end
end Co

set_option linter.all false
set_option maxRecDepth 100000
set_option autoImplicit false
/-! Core29: the laws' own draws. -/
namespace Co

def pickFn : Fn := ⟨"_law_pick", ["source", "many", "left", "mixed"], 2,
  [(.whl (.and (.cmp .gt (.var 1) (.int 1)) (.and (.cmp .lt (.ix (.var 0) (.str "left")) (.int 2)) (.cmp .gt (.bi .len [(.ix (.var 0) (.str "cells"))]) (.int 0)))) [(.six (.var 0) (.str "left") (.me .pop (.ix (.var 0) (.str "cells")) []))]), (.asg (.nm 2) (.ix (.var 0) (.str "left"))), (.ite (.or (.cmp .lt (.var 1) (.int 2)) (.cmp .gt (.var 2) (.int 1))) [(.six (.var 0) (.str "left") (.bin .fdiv (.var 2) (.bi .max [(.int 1), (.var 1)]))), (.ret (.bin .mod (.bi .int [(.var 2)]) (.bi .max [(.int 1), (.var 1)])))] []), (.six (.var 0) (.str "turn") (.bin .add (.ix (.var 0) (.str "turn")) (.int 1))), (.asg (.nm 3) (.bin .mod (.bi .int [(.bin .add (.ix (.var 0) (.str "mixed")) (.bin .mul (.ix (.var 0) (.str "turn")) (.int 104729)))]) (.int 998244353))), (.asg (.nm 3) (.bin .mod (.bi .int [(.bin .add (.bin .mul (.var 3) (.var 3)) (.bin .mul (.ix (.var 0) (.str "turn")) (.int 17)))]) (.int 2147483647))), (.six (.var 0) (.str "mixed") (.var 3)), (.ret (.bin .mod (.bi .int [(.bin .fdiv (.var 3) (.int 16))]) (.var 1)))]⟩

/-- the source's dict -/
def srcD (c : Nat) (l m t : Int) : List (D × D) := [(.str "cells", .ref c), (.str "left", .int l), (.str "mixed", .int m), (.str "turn", .int t)]
section
variable {c : Nat} {l m t x : Int}
theorem src_fit1 : keysFit (srcD c l m t) (.str "cells") = true := rfl
theorem src_fit2 : keysFit (srcD c l m t) (.str "left") = true := rfl
theorem src_fit3 : keysFit (srcD c l m t) (.str "mixed") = true := rfl
theorem src_fit4 : keysFit (srcD c l m t) (.str "turn") = true := rfl
theorem nCL : ¬ (PySem.Str.ofString "cells" = PySem.Str.ofString "left") := by decide +kernel
theorem nCM : ¬ (PySem.Str.ofString "cells" = PySem.Str.ofString "mixed") := by decide +kernel
theorem nCT : ¬ (PySem.Str.ofString "cells" = PySem.Str.ofString "turn") := by decide +kernel
theorem nLM : ¬ (PySem.Str.ofString "left" = PySem.Str.ofString "mixed") := by decide +kernel
theorem nLT : ¬ (PySem.Str.ofString "left" = PySem.Str.ofString "turn") := by decide +kernel
theorem nMT : ¬ (PySem.Str.ofString "mixed" = PySem.Str.ofString "turn") := by decide +kernel
theorem src_get1 : dget (srcD c l m t) (.str "cells") = some (.ref c) := by simp [dget, srcD]
theorem src_get2 : dget (srcD c l m t) (.str "left") = some (.int l) := by simp [dget, srcD, nCL]
theorem src_get3 : dget (srcD c l m t) (.str "mixed") = some (.int m) := by simp [dget, srcD, nCM, nLM]
theorem src_get4 : dget (srcD c l m t) (.str "turn") = some (.int t) := by simp [dget, srcD, nCT, nLT, nMT]
theorem src_put2 : dput (srcD c l m t) (.str "left") (.int x) = srcD c x m t := by
  simp [dput, srcD, nCL, Ne.symm nCL, Ne.symm nLM, Ne.symm nLT]
theorem src_put3 : dput (srcD c l m t) (.str "mixed") (.int x) = srcD c l x t := by
  simp [dput, srcD, nCM, nLM, Ne.symm nMT]
theorem src_put4 : dput (srcD c l m t) (.str "turn") (.int x) = srcD c l m x := by
  simp [dput, srcD, nCT, nLT, nMT]
end

/-- where the source stands -/
structure SrcAt (h : Hh) (s c : Nat) (cs : List Int) (l m t : Int) : Prop where
  ne : s ≠ c
  ds : h[s]? = some (.dct (srcD c l m t))
  cl : h[c]? = some (.lst (cs.map D.int))
structure SrcOk (cs : List Int) (l m t : Int) : Prop where
  cl : cs.length ≤ 63
  cs0 : ∀ x ∈ cs, 0 ≤ x
  l0 : 0 ≤ l
  m0 : 0 ≤ m
  m1 : m < 2147483647
  t0 : 0 ≤ t
def Src (h : Hh) (s c : Nat) : Prop := ∃ cs l m t, SrcAt h s c cs l m t ∧ SrcOk cs l m t
/-- nothing but the source was changed -/
structure Grow (s c : Nat) (h h' : Hh) : Prop where
  len : h.length ≤ h'.length
  keep : ∀ i x, h[i]? = some x → i ≠ s → i ≠ c → h'[i]? = some x
theorem Grow.refl {s c : Nat} {h : Hh} : Grow s c h h := ⟨Nat.le_refl _, fun _ _ e _ _ => e⟩
theorem Grow.trans {s c : Nat} {h h1 h2 : Hh} (a : Grow s c h h1) (b : Grow s c h1 h2) : Grow s c h h2 := ⟨Nat.le_trans a.len b.len, fun i x e n1 n2 => b.keep i x (a.keep i x e n1 n2) n1 n2⟩
theorem Grow.set {s c : Nat} {h : Hh} {x : Cell} : Grow s c h (h.set s x) := ⟨by simp, fun i y e n1 _ => by rw [List.getElem?_set_ne (Ne.symm n1)]; exact e⟩
theorem Grow.setc {s c : Nat} {h : Hh} {x : Cell} : Grow s c h (h.set c x) := ⟨by simp, fun i y e _ n2 => by rw [List.getElem?_set_ne (Ne.symm n2)]; exact e⟩
theorem Grow.app {s c : Nat} {h g : Hh} : Grow s c h (h ++ g) := ⟨by simp, fun i y e _ _ => by rw [List.getElem?_append_left (List.getElem?_eq_some_iff.mp e).1]; exact e⟩

section
variable {h : Hh} {s c : Nat} {cs : List Int} {l m t x : Int}
theorem SrcAt.item1 (S : SrcAt h s c cs l m t) : item h (.v (.ref s)) (.v (.str "cells")) = some (.ref c) := by
  simp only [item, look, S.ds, src_fit1, src_get1, if_true]
theorem SrcAt.item2 (S : SrcAt h s c cs l m t) : item h (.v (.ref s)) (.v (.str "left")) = some (.int l) := by
  simp only [item, look, S.ds, src_fit2, src_get2, if_true]
theorem SrcAt.item3 (S : SrcAt h s c cs l m t) : item h (.v (.ref s)) (.v (.str "mixed")) = some (.int m) := by
  simp only [item, look, S.ds, src_fit3, src_get3, if_true]
theorem SrcAt.item4 (S : SrcAt h s c cs l m t) : item h (.v (.ref s)) (.v (.str "turn")) = some (.int t) := by
  simp only [item, look, S.ds, src_fit4, src_get4, if_true]
theorem SrcAt.put (S : SrcAt h s c cs l m t) {l' m' t' : Int} : SrcAt (h.set s (.dct (srcD c l' m' t'))) s c cs l' m' t' :=
  ⟨S.ne, by rw [List.getElem?_set_self (List.getElem?_eq_some_iff.mp S.ds).1], by rw [List.getElem?_set_ne S.ne]; exact S.cl⟩
theorem SrcAt.set2 (S : SrcAt h s c cs l m t) : setItem? h (.ref s) (.str "left") (.int x) = some (h.set s (.dct (srcD c x m t))) := by
  simp only [setItem?, look, S.ds, src_fit2, src_put2]; rfl
theorem SrcAt.set3 (S : SrcAt h s c cs l m t) : setItem? h (.ref s) (.str "mixed") (.int x) = some (h.set s (.dct (srcD c l x t))) := by
  simp only [setItem?, look, S.ds, src_fit3, src_put3]; rfl
theorem SrcAt.set4 (S : SrcAt h s c cs l m t) : setItem? h (.ref s) (.str "turn") (.int x) = some (h.set s (.dct (srcD c l m x))) := by
  simp only [setItem?, look, S.ds, src_fit4, src_put4]; rfl
theorem SrcAt.len (S : SrcAt h s c cs l m t) : bltn .len h [.v (.ref c)] = some (.v (.int cs.length), h) := by
  simp only [bltn, biLen, iterOf, seqOf, look, S.cl, List.length_map]
theorem SrcAt.pop (S : SrcAt h s c cs l m t) {y : Int} (hy : cs.getLast? = some y) : methd .pop h (.ref c) [] = some (.v (.int y), h.set c (.lst (cs.dropLast.map D.int))) := by
  have h1 : (cs.map D.int)[(cs.map D.int).length - 1]? = some (D.int y) := by
    rw [List.getLast?_eq_getElem?] at hy
    rw [List.length_map, List.getElem?_map, hy]; rfl
  simp only [methd, look, S.cl, mLst, h1]
  rw [← List.map_dropLast]
theorem SrcAt.popped (S : SrcAt h s c cs l m t) : SrcAt (h.set c (.lst (cs.dropLast.map D.int))) s c cs.dropLast l m t :=
  ⟨S.ne, by rw [List.getElem?_set_ne (Ne.symm S.ne)]; exact S.ds, by rw [List.getElem?_set_self (List.getElem?_eq_some_iff.mp S.cl).1]⟩
end

/-- _law_pick: a number of 0 .. many - 1 -/
theorem pick_ok {fns : List Fn} {ip k s c : Nat} {h : Hh} {n : Int} (hf : fns[ip]? = some pickFn) (S : Src h s c) (hn : n < 1073741824) :
    CQ (callN fns (k + 1)) ip [.ref s, .int n] h fun d h' => ∃ p : Int, d = .int p ∧ 0 ≤ p ∧ p < max 1 n ∧ Grow s c h h' ∧ Src h' s c := by
  refine q_fn hf rfl ?_
  show SsQ (callN fns k) pickFn.body [some (.ref s), some (.int n), none, none] h _
  obtain ⟨cs, l, m, t, A, O⟩ := S
  refine q_cons (q_whl ?_)
  refine whl_by (fun z ρ h1 => ρ = [some (.ref s), some (.int n), none, none] ∧ Grow s c h h1 ∧ ∃ cs l m t, z = cs.length ∧ SrcAt h1 s c cs l m t ∧ SrcOk cs l m t) ?_ fuel cs.length _ h ⟨rfl, .refl, cs, l, m, t, rfl, A, O⟩ (by have := O.cl; unfold fuel; omega)
  rintro z ρ h1 ⟨rfl, G, cs, l, m, t, rfl, A, O⟩
  -- the test
  have ht : EQ (callN fns k) (.and (.cmp .gt (.var 1) (.int 1)) (.and (.cmp .lt (.ix (.var 0) (.str "left")) (.int 2)) (.cmp .gt (.bi .len [(.ix (.var 0) (.str "cells"))]) (.int 0)))) [some (.ref s), some (.int n), none, none] h1
      fun r h2 => h2 = h1 ∧ ∃ b, r = .v (.bl b) ∧ (b = true → 0 < cs.length) := by
    refine q_and (q_cmp (q_var rfl (q_int ⟨_, rfl, _, rfl, fun _ => ?_, fun _ => ⟨rfl, false, rfl, fun z => by cases z⟩⟩)))
    refine q_and (q_cmp (q_ix (q_var rfl (q_str ⟨_, A.item2, q_int ⟨_, rfl, _, rfl, fun _ => ?_, fun _ => ⟨rfl, false, rfl, fun z => by cases z⟩⟩⟩))))
    refine q_cmp (q_bi (q_rscons (q_ix (q_var rfl (q_str ⟨_, A.item1, q_rsnil ⟨_, _, A.len, q_int ⟨_, rfl, rfl, _, rfl, fun hz => ?_⟩⟩⟩)))))
    have := of_decide_eq_true hz
    omega
  obtain ⟨r, h2, e1, rfl, b, rfl, hb⟩ := ht
  refine ⟨b, h2, by simp only [asB, e1], fun hb0 => ?_, fun hb1 => ?_⟩
  · -- what is behind the loop
    clear hb hb0
    refine q_cons (q_asg (q_ix (q_var rfl (q_str ⟨_, A.item2, _, rfl, ?_⟩))))
    have hif : EQ (callN fns k) (.or (.cmp .lt (.var 1) (.int 2)) (.cmp .gt (.var 2) (.int 1))) [some (.ref s), some (.int n), some (.int l), none] h2 fun r h3 => h3 = h2 ∧ ∃ b, r = .v (.bl b) ∧ (b = false → ¬ n < 2) := by
      refine q_or (q_cmp (q_var rfl (q_int ⟨_, rfl, _, rfl, fun hz => ?_, fun _ => ⟨rfl, true, rfl, fun z => by cases z⟩⟩)))
      exact q_cmp (q_var rfl (q_int ⟨_, rfl, rfl, _, rfl, fun _ => of_decide_eq_false hz⟩))
    refine q_cons (q_if (hif.mono ?_))
    rintro r h3 ⟨rfl, b, rfl, hb⟩
    refine ⟨b, rfl, fun hb1 => ?_, fun hb0 => ?_⟩
    · have hmx : (if n > 1 then n else 1) = max 1 n := by
        split <;> omega
      have hpos : (0 : Int) < max 1 n := by omega
      have hdiv : binop .fdiv h3 (.v (.int l)) (.v (.int (if n > 1 then n else 1))) = some (.v (.int (l / max 1 n))) := by
        rw [hmx]
        simp only [binop]
        rw [if_pos (by simp only [Bool.and_eq_true, decide_eq_true_eq]; omega)]
      have A2 := A.put (l' := l / max 1 n) (m' := m) (t' := t)
      refine q_cons (q_six (q_bin (q_var rfl (q_bi (q_rscons (q_int (q_rscons (q_var rfl (q_rsnil ⟨_, _, rfl, _, hdiv, ?_⟩)))))))))
      refine q_var rfl ⟨_, rfl, q_str ⟨_, rfl, _, A.set2, ?_⟩⟩
      have hmod : ∀ hh : Hh, binop .mod hh (.v (.int l)) (.v (.int (if n > 1 then n else 1))) = some (.v (.int (l % max 1 n))) := fun hh => by
        rw [hmx]
        simp only [binop]
        rw [if_pos (decide_eq_true hpos)]
      refine q_cons (q_ret (q_bin (q_bi (q_rscons (q_var rfl (q_rsnil ⟨_, _, rfl, q_bi (q_rscons (q_int (q_rscons (q_var rfl (q_rsnil ⟨_, _, rfl, _, hmod _, ?_⟩)))))⟩))))))
      exact ⟨l % max 1 n, rfl, Int.emod_nonneg _ (by omega), Int.emod_lt_of_pos _ hpos, G.trans .set, cs, _, m, t, A2, O.cl, O.cs0, Int.ediv_nonneg O.l0 (by omega), O.m0, O.m1, O.t0⟩
    · have hn2 := hb hb0
      refine q_nil ?_
      have hm : ∀ (hh : Hh) (i j : Int), 0 < j → binop .mod hh (.v (.int i)) (.v (.int j)) = some (.v (.int (i % j))) := fun hh i j hj => by
        simp only [binop]
        rw [if_pos (decide_eq_true hj)]
      -- the turn
      have A2 := A.put (l' := l) (m' := m) (t' := t + 1)
      refine q_cons (q_six (q_bin (q_ix (q_var rfl (q_str ⟨_, A.item4, q_int ⟨_, rfl, q_var rfl ⟨_, rfl, q_str ⟨_, rfl, _, A.set4, ?_⟩⟩⟩⟩)))))
      -- mixed, twice
      have hmul1 : ∀ hh : Hh, binop .mul hh (.v (.int (t + 1))) (.v (.int 104729)) = some (.v (.int ((t + 1) * 104729))) := fun hh => by
        simp only [binop]; rw [if_pos (by unfold bitsOk; rw [Bool.or_eq_true]; right; decide)]
      have hmul2 : ∀ hh : Hh, binop .mul hh (.v (.int (t + 1))) (.v (.int 17)) = some (.v (.int ((t + 1) * 17))) := fun hh => by
        simp only [binop]; rw [if_pos (by unfold bitsOk; rw [Bool.or_eq_true]; right; decide)]
      generalize hx : (m + (t + 1) * 104729) % 998244353 = x
      have hx0 : 0 ≤ x := by rw [← hx]; exact Int.emod_nonneg _ (by decide)
      have hx1 : x < 998244353 := by rw [← hx]; exact Int.emod_lt_of_pos _ (by decide)
      have hmul3 : ∀ hh : Hh, binop .mul hh (.v (.int x)) (.v (.int x)) = some (.v (.int (x * x))) := fun hh => by
        simp only [binop]; rw [if_pos (by unfold bitsOk; rw [Bool.or_eq_true]; left; exact decide_eq_true (by omega))]
      have hmod1 : ∀ hh : Hh, binop .mod hh (.v (.int (m + (t + 1) * 104729))) (.v (.int 998244353)) = some (.v (.int x)) := fun hh => by rw [hm hh _ _ (by decide), hx]
      refine q_cons (q_asg (q_bin (q_bi (q_rscons (q_bin (q_ix (q_var rfl (q_str ⟨_, A2.item3, q_bin (q_ix (q_var rfl (q_str ⟨_, A2.item4, q_int ⟨_, hmul1 _, _, rfl, q_rsnil ⟨_, _, rfl, q_int ⟨_, hmod1 _, _, rfl, ?_⟩⟩⟩⟩)))⟩))))))))
      generalize hy : (x * x + (t + 1) * 17) % 2147483647 = y
      have hy0 : 0 ≤ y := by rw [← hy]; exact Int.emod_nonneg _ (by decide)
      have hy1 : y < 2147483647 := by rw [← hy]; exact Int.emod_lt_of_pos _ (by decide)
      have hmod2 : ∀ hh : Hh, binop .mod hh (.v (.int (x * x + (t + 1) * 17))) (.v (.int 2147483647)) = some (.v (.int y)) := fun hh => by rw [hm hh _ _ (by decide), hy]
      refine q_cons (q_asg (q_bin (q_bi (q_rscons (q_bin (q_bin (q_var rfl (q_var rfl ⟨_, hmul3 _, q_bin (q_ix (q_var rfl (q_str ⟨_, A2.item4, q_int ⟨_, hmul2 _, _, rfl, q_rsnil ⟨_, _, rfl, q_int ⟨_, hmod2 _, _, rfl, ?_⟩⟩⟩⟩)))⟩))))))))
      have A3 := A2.put (l' := l) (m' := y) (t' := t + 1)
      refine q_cons (q_six (q_var rfl (q_var rfl ⟨_, rfl, q_str ⟨_, rfl, _, A2.set3, ?_⟩⟩)))
      have hdv : ∀ hh : Hh, binop .fdiv hh (.v (.int y)) (.v (.int 16)) = some (.v (.int (y / 16))) := fun hh => by
        simp only [binop]; rw [if_pos (by decide)]
      refine q_cons (q_ret (q_bin (q_bi (q_rscons (q_bin (q_var rfl (q_int ⟨_, hdv _, q_rsnil ⟨_, _, rfl, q_var rfl ⟨_, hm _ _ _ (by omega), ?_⟩⟩⟩)))))))
      exact ⟨(y / 16) % n, rfl, Int.emod_nonneg _ (by omega), by have := Int.emod_lt_of_pos (y / 16) (show 0 < n by omega); omega, (G.trans .set).trans .set, cs, l, y, t + 1, A3, O.cl, O.cs0, O.l0, hy0, hy1, by have := O.t0; omega⟩
  · -- a cell is taken
    have hpos := hb hb1
    obtain ⟨y, hy⟩ : ∃ y, cs.getLast? = some y := by
      cases q : cs.getLast? with
      | none => rw [List.getLast?_eq_none_iff] at q; subst q; simp at hpos
      | some y => exact ⟨y, rfl⟩
    refine q_cons (q_six (q_me (q_ix (q_var rfl (q_str ⟨_, A.item1, _, rfl, q_rsnil ⟨rfl, _, _, A.pop hy, ?_⟩⟩)))))
    have A2 := A.popped
    refine q_var rfl ⟨_, rfl, q_str ⟨_, rfl, _, A2.set2, q_nil ⟨cs.dropLast.length, by rw [List.length_dropLast]; omega, rfl, (G.trans .setc).trans .set, cs.dropLast, y, m, t, rfl, A2.put, ?_⟩⟩⟩
    exact ⟨by rw [List.length_dropLast]; have := O.cl; omega, fun x hx => O.cs0 x (List.dropLast_subset _ hx), O.cs0 y (List.mem_of_getLast? hy), O.m0, O.m1, O.t0⟩

def sourceFn : Fn := ⟨"_law_source", ["script", "mixed", "cell"], 1,
  [(.asg (.nm 1) (.int 11)), (.for (.nm 2) (.of (.var 0)) [(.asg (.nm 1) (.bin .mod (.bi .int [(.bin .add (.bin .add (.bin .mul (.var 1) (.int 69069)) (.bin .mul (.var 2) (.int 31))) (.int 5))]) (.int 2147483629)))]), (.ret (.dlit [(.str "cells"), (.rev (.lc (.nm 2) (.of (.var 0)) none (.bi .abs [(.var 2)]) [("cell", 2)])), (.str "left"), (.int 1), (.str "mixed"), (.var 1), (.str "turn"), (.int 0)]))]⟩
theorem mul_c {hh : Hh} {i j : Int} (hj : -(2 ^ 64) < j ∧ j < 2 ^ 64) : binop .mul hh (.v (.int i)) (.v (.int j)) = some (.v (.int (i * j))) := by
  simp only [binop]; rw [if_pos (by unfold bitsOk; rw [Bool.or_eq_true]; right; exact decide_eq_true hj)]
theorem mod_c {hh : Hh} {i j : Int} (hj : 0 < j) : binop .mod hh (.v (.int i)) (.v (.int j)) = some (.v (.int (i % j))) := by
  simp only [binop]; rw [if_pos (decide_eq_true hj)]
theorem get_map {ns : List Int} {done rest : List D} {d : D} (e : ns.map D.int = done ++ d :: rest) : ∃ i, d = .int i ∧ i ∈ ns := by
  have : d ∈ ns.map D.int := by rw [e]; simp
  obtain ⟨i, hi, rfl⟩ := List.mem_map.mp this
  exact ⟨i, rfl, hi⟩
theorem q_dlit {cl : Call} {es : List E} {ρ : Rho} {h : Hh} {Q : Res → Hh → Prop} (x : EsQ cl es ρ (h ++ [.dct []]) fun ds h1 => ∃ kvs, pairUp ds = some kvs ∧ look h1 h.length = some (.dct []) ∧ ((kvs.all fun p => keyOk p.1) && decide (kvs.length ≤ 15)) = true ∧ Q (.v (.ref h.length)) (h1.set h.length (.dct (mkDict kvs)))) : EQ cl (.dlit es) ρ h Q := by
  obtain ⟨ds, h1, e1, kvs, e2, e3, e4, q⟩ := x
  exact ⟨_, _, by simp only [ev, e1, e2, e3, e4, if_true], q⟩
theorem source_ok {fns : List Fn} {ip k : Nat} {h : Hh} {ns : List Int} (hf : fns[ip]? = some sourceFn) (hn : ns.length ≤ 63) :
    CQ (callN fns (k + 1)) ip [.fl (ns.map D.int)] h fun d h' => ∃ s c, d = .ref s ∧ Src h' s c ∧ h.length ≤ s ∧ h.length ≤ c ∧ Grow s c h h' := by
  refine q_fn hf rfl ?_
  show SsQ (callN fns k) sourceFn.body [some (.fl (ns.map D.int)), none, none] h _
  refine q_cons (q_asg (q_int ⟨_, rfl, ?_⟩))
  refine q_cons (q_for (q_wof (q_var rfl ⟨_, rfl, ?_⟩)))
  refine for_by (fun done ρ h1 => h1 = h ∧ ∃ (m : Int) (x : Option D), ρ = [some (.fl (ns.map D.int)), some (.int m), x] ∧ 0 ≤ m ∧ m < 2147483647) _ [] _ _ ⟨rfl, 11, none, rfl, by decide, by decide⟩ (fun _ _ _ _ => rfl) ?_ ?_
  · rintro d done rest ρ h1 e ⟨rfl, m, x, rfl, m0, m1⟩
    obtain ⟨i, rfl, _⟩ := get_map (by simpa using e)
    refine ⟨_, rfl, ?_⟩
    show SsQ (callN fns k) _ _ _ _
    refine q_cons (q_asg (q_bin (q_bi (q_rscons (q_bin (q_bin (q_bin (q_var rfl (q_int ⟨_, mul_c (by decide), q_bin (q_var rfl (q_int ⟨_, mul_c (by decide), _, rfl, q_int ⟨_, rfl, q_rsnil ⟨_, _, rfl, q_int ⟨_, mod_c (by decide), _, rfl, ?_⟩⟩⟩⟩))⟩)))))))))
    refine q_nil ⟨rfl, _, _, rfl, Int.emod_nonneg _ (by decide), ?_⟩
    have := Int.emod_lt_of_pos (m * 69069 + i * 31 + 5) (show (0 : Int) < 2147483629 by decide)
    omega
  · rintro ρ h1 ⟨rfl, m, x, rfl, m0, m1⟩
    refine q_cons (q_ret (q_dlit (q_escons (q_str (q_escons (q_rev (q_lc (q_wof (q_var rfl ⟨_, rfl, ?_⟩)))))))))
    have hlc := lc_by (test := fun ρ h => evT (callN fns k) none ρ h) (elt := fun ρ h => asD (ev (callN fns k) (.bi .abs [.var 2]) ρ h)) (tg := .nm 2) (w := ⟨ns.map D.int, none, none⟩) (ρ := wipeR [some (.fl (ns.map D.int)), some (.int m), x] [("cell", 2)])
      (fun done acc h2 => h2 = h1 ++ [.dct []] ∧ acc.length = done.length ∧ ∃ cs : List Int, acc = cs.map D.int ∧ ∀ y ∈ cs, 0 ≤ y) (ns.map D.int) [] [] (h1 ++ [.dct []]) ⟨rfl, rfl, [], rfl, by simp⟩ (by simp; omega) (fun _ _ _ _ => rfl) ?_
    · obtain ⟨ds, h2, e, rfl, hl, cs, rfl, hc⟩ := hlc
      refine ⟨_, _, e, _, rfl, ?_⟩
      refine q_escons (q_str (q_escons (q_int (q_escons (q_str (q_escons (q_var rfl (q_escons (q_str (q_escons (q_int (q_esnil ⟨_, rfl, ?_, rfl, ?_⟩))))))))))))
      · show look ((h1 ++ [.dct []]) ++ [.lst _]) h1.length = _
        simp [look]
      · have hk : mkDict [(D.str "cells", D.ref (h1 ++ [Cell.dct []]).length), (D.str "left", D.int 1), (D.str "mixed", D.int m), (D.str "turn", D.int 0)] = srcD (h1.length + 1) 1 m 0 := by
          simp [mkDict, dput, srcD, nCL, nCM, nCT, nLM, nLT, nMT]
        refine ⟨h1.length, h1.length + 1, rfl, ⟨cs.reverse, 1, m, 0, ⟨by omega, ?_, ?_⟩, ?_⟩, Nat.le_refl _, by omega, ?_⟩
        · show ((((h1 ++ [Cell.dct []]) ++ [Cell.lst (cs.map D.int).reverse]).set h1.length (.dct (mkDict _)))[h1.length]?) = _
          rw [List.getElem?_set_self (by simp)]
          exact congrArg (fun z => some (Cell.dct z)) hk
        · show ((((h1 ++ [Cell.dct []]) ++ [Cell.lst (cs.map D.int).reverse]).set h1.length (.dct (mkDict _)))[h1.length + 1]?) = _
          rw [List.getElem?_set_ne (by omega)]
          simp
        · refine ⟨?_, fun y hy => hc y (by simpa using hy), by decide, m0, m1, by decide⟩
          simp at hl
          simp; omega
        · refine ⟨by show h1.length ≤ (List.set ((h1 ++ [Cell.dct []]) ++ [Cell.lst (cs.map D.int).reverse]) h1.length _).length; simp, fun i y e n1 n2 => ?_⟩
          show (List.set _ _ _)[i]? = _
          rw [List.getElem?_set_ne (Ne.symm n1)]
          show (((h1 ++ [Cell.dct []]) ++ [Cell.lst (cs.map D.int).reverse]))[i]? = _
          rw [List.append_assoc, List.getElem?_append_left (List.getElem?_eq_some_iff.mp e).1]
          exact e
    · rintro d done rest acc h2 e ⟨rfl, hl, cs, rfl, hc⟩
      obtain ⟨i, rfl, _⟩ := get_map (by simpa using e)
      refine ⟨_, rfl, true, _, rfl, fun _ => ?_, fun z => by cases z⟩
      refine ⟨.int (if i < 0 then -i else i), _, rfl, rfl, by simp [hl], cs ++ [if i < 0 then -i else i], by simp, fun y hy => ?_⟩
      rcases List.mem_append.mp hy with hy | hy
      · exact hc y hy
      · simp at hy
        subst hy
        split <;> omega

/-- _law_of: a member of a list or tuple -/
def ofFn (ip : Nat) : Fn := ⟨"_law_of", ["source", "some"], 2, [(.ret (.ix (.var 1) (.call ip [(.var 0), (.bi .len [(.var 1)])])))]⟩
theorem of_ok {fns : List Fn} {io ip k s c : Nat} {h : Hh} {d : D} {ds : List D} (hf : fns[ip]? = some pickFn) (hf2 : fns[io]? = some (ofFn ip)) (S : Src h s c) (hd : ∀ h', Grow s c h h' → seqOf h' (.v d) = some ds) (h0 : ds ≠ []) (hl : ds.length < 1073741824) :
    CQ (callN fns (k + 2)) io [.ref s, d] h fun x h' => x ∈ ds ∧ Grow s c h h' ∧ Src h' s c := by
  refine q_fn hf2 rfl ?_
  show SsQ (callN fns (k + 1)) (ofFn ip).body [some (.ref s), some d] h _
  have hlen : bltn .len h [.v d] = some (.v (.int ds.length), h) := by
    have := hd h .refl
    cases d with
    | str x => simp [seqOf] at this
    | _ => simp only [bltn, biLen, iterOf, this]
  refine q_cons (q_ret (q_ix (q_var rfl (q_call (q_escons (q_var rfl (q_escons (q_bi (q_rscons (q_var rfl (q_rsnil ⟨_, _, hlen, q_esnil ((pick_ok hf S (by omega)).mono ?_)⟩)))))))))))
  rintro x h' ⟨p, rfl, p0, p1, G, S'⟩
  have hne : 0 < ds.length := List.length_pos_iff.mpr h0
  have hp : p < ds.length := by omega
  have hat : L2.atI ds p = some ds[p.toNat] := by
    unfold L2.atI L2.ixN
    rw [if_pos p0, if_pos hp]
    exact List.getElem?_eq_getElem (by omega)
  have hit : item h' (.v d) (.v (.int p)) = some ds[p.toNat] := by
    have := hd h' G
    cases d with
    | ref n =>
      simp only [item]
      split
      · rename_i kvs hk
        simp [seqOf, hk] at this
      · simp only [this, hat]
    | _ => simp only [item, this, hat]
  exact ⟨_, hit, List.getElem_mem _, G, S'⟩
end Co

set_option linter.all false
set_option maxRecDepth 100000
set_option autoImplicit false
/-! Core30: the laws' own draws: shuffles. -/
namespace Co

def mixedFn (ip : Nat) : Fn := ⟨"_law_mixed", ["source", "things", "rest", "lap"], 2,
  [(.asg (.nm 2) (.bi .list [(.var 1)])), (.ret (.lc (.nm 3) (.range [(.bi .len [(.var 2)])]) none (.me .pop (.var 2) [(.call ip [(.var 0), (.bi .len [(.var 2)])])]) [("lap", 3)]))]⟩
theorem Src.lt {h : Hh} {s c : Nat} (S : Src h s c) : s < h.length ∧ c < h.length := by
  obtain ⟨cs, l, m, t, A, _⟩ := S
  exact ⟨(List.getElem?_eq_some_iff.mp A.ds).1, (List.getElem?_eq_some_iff.mp A.cl).1⟩
theorem Src.app {h : Hh} {s c : Nat} {g : Hh} (S : Src h s c) : Src (h ++ g) s c := by
  obtain ⟨cs, l, m, t, A, O⟩ := S
  exact ⟨cs, l, m, t, ⟨A.ne, by rw [List.getElem?_append_left (List.getElem?_eq_some_iff.mp A.ds).1]; exact A.ds, by rw [List.getElem?_append_left (List.getElem?_eq_some_iff.mp A.cl).1]; exact A.cl⟩, O⟩
theorem Src.set {h : Hh} {s c n : Nat} {x : Cell} (S : Src h s c) (h1 : n ≠ s) (h2 : n ≠ c) : Src (h.set n x) s c := by
  obtain ⟨cs, l, m, t, A, O⟩ := S
  exact ⟨cs, l, m, t, ⟨A.ne, by rw [List.getElem?_set_ne h1]; exact A.ds, by rw [List.getElem?_set_ne h2]; exact A.cl⟩, O⟩
theorem Grow.setAt {h h' : Hh} {s c n : Nat} {x : Cell} (G : Grow s c h h') (hn : h.length ≤ n) : Grow s c h (h'.set n x) :=
  ⟨by simp [G.len], fun i y e n1 n2 => by rw [List.getElem?_set_ne (by have := (List.getElem?_eq_some_iff.mp e).1; omega)]; exact G.keep i y e n1 n2⟩
theorem erase_perm {α : Type} : ∀ {l : List α} {j : Nat} (hj : j < l.length), (l[j] :: l.eraseIdx j).Perm l
  | a :: l, 0, _ => .refl _
  | a :: l, j + 1, hj => by
    have h1 := erase_perm (l := l) (j := j) (by simpa using hj)
    simp only [List.getElem_cons_succ, List.eraseIdx_cons_succ]
    exact (List.Perm.swap _ _ _).trans (h1.cons a)
theorem perm_erase {α : Type} {acc rest : List α} {j : Nat} {d : α} {ds : List α} (e : rest[j]? = some d) (p : (acc ++ rest).Perm ds) : ((acc ++ [d]) ++ rest.eraseIdx j).Perm ds := by
  obtain ⟨hj, hd⟩ := List.getElem?_eq_some_iff.mp e
  refine List.Perm.trans ?_ p
  rw [List.append_assoc]
  refine List.Perm.append_left acc ?_
  rw [← hd]
  exact erase_perm hj
theorem mixed_ok {fns : List Fn} {im ip k s c : Nat} {h : Hh} {d : D} {ds : List D} (hf : fns[ip]? = some pickFn) (hf2 : fns[im]? = some (mixedFn ip)) (S : Src h s c) (hd : seqOf h (.v d) = some ds) (hl : ds.length ≤ 1000000) :
    CQ (callN fns (k + 2)) im [.ref s, d] h fun x h' => ∃ n ds', x = .ref n ∧ h'[n]? = some (.lst ds') ∧ ds'.Perm ds ∧ h.length ≤ n ∧ Grow s c h h' ∧ Src h' s c := by
  refine q_fn hf2 rfl ?_
  show SsQ (callN fns (k + 1)) (mixedFn ip).body [some (.ref s), some d, none, none] h _
  have hlist : bltn .list h [.v d] = some (.f ds, h) := by simp only [bltn, biList, iterOf, hd]
  refine q_cons (q_asg (q_bi (q_rscons (q_var rfl (q_rsnil ⟨_, _, hlist, _, rfl, ?_⟩)))))
  obtain ⟨hs, hc⟩ := S.lt
  show SsQ (callN fns (k + 1)) _ [some (.ref s), some d, some (.ref h.length), none] (h ++ [.lst ds]) _
  have S0 : Src (h ++ [.lst ds]) s c := S.app
  have hat : (h ++ [Cell.lst ds])[h.length]? = some (.lst ds) := by simp
  have hlen : bltn .len (h ++ [.lst ds]) [.v (.ref h.length)] = some (.v (.int ds.length), h ++ [.lst ds]) := by
    simp only [bltn, biLen, iterOf, seqOf, look, hat]
  refine q_cons (q_ret (q_lc (q_wrange (q_rscons (q_bi (q_rscons (q_var rfl (q_rsnil ⟨_, _, hlen, q_rsnil ⟨rangeD 0 ds.length, ?_, ?_⟩⟩))))))))
  · simp only [rangeOf]
    rw [if_pos (by unfold rangeOk; simp; omega)]
  obtain ⟨acc, h', e, G', S', rest, hr, hp, hl2⟩ := lc_by (test := fun ρ h => evT (callN fns (k + 1)) none ρ h) (elt := fun ρ h => asD (ev (callN fns (k + 1)) (.me .pop (.var 2) [.call ip [.var 0, .bi .len [.var 2]]]) ρ h)) (tg := .nm 3) (w := ⟨rangeD 0 ds.length, none, none⟩)
    (ρ := wipeR [some (.ref s), some d, some (.ref h.length), none] [("lap", 3)])
    (fun done acc h1 => Grow s c h h1 ∧ Src h1 s c ∧ ∃ rest, h1[h.length]? = some (.lst rest) ∧ (acc ++ rest).Perm ds ∧ rest.length + done.length = ds.length) (rangeD 0 ds.length) [] [] (h ++ [.lst ds])
    ⟨.app, S0, ds, hat, .refl _, by simp⟩ (by simp [rangeD]; omega) (fun _ _ _ _ => rfl) (by
      rintro x done rest' acc h1 e ⟨G, S1, rest, hr, hp, hl2⟩
      have hdl : done.length < ds.length := by
        have := congrArg List.length e
        simp [rangeD] at this
        omega
      refine ⟨_, rfl, true, _, rfl, fun _ => ?_, fun z => by cases z⟩
      have hlen1 : bltn .len h1 [.v (.ref h.length)] = some (.v (.int rest.length), h1) := by
        simp only [bltn, biLen, iterOf, seqOf, look, hr]
      have key : EQ (callN fns (k + 1)) (.me .pop (.var 2) [.call ip [.var 0, .bi .len [.var 2]]]) [some (.ref s), some d, some (.ref h.length), some x] h1 fun r h2 => ∃ y, r = .v y ∧ Grow s c h h2 ∧ Src h2 s c ∧ ∃ rest2, h2[h.length]? = some (.lst rest2) ∧ ((acc ++ [y]) ++ rest2).Perm ds ∧ rest2.length + (done ++ [x]).length = ds.length := by
        refine q_me (q_var rfl ⟨_, rfl, q_rscons (q_call (q_escons (q_var rfl (q_escons (q_bi (q_rscons (q_var rfl (q_rsnil ⟨_, _, hlen1, q_esnil ((pick_ok hf S1 (by omega)).mono ?_)⟩))))))))⟩)
        rintro y h2 ⟨p, rfl, p0, p1, G2, S2⟩
        have hr2 : h2[h.length]? = some (.lst rest) := G2.keep _ _ hr (by omega) (by omega)
        have hpl : p < rest.length := by omega
        obtain ⟨z, hz⟩ : ∃ z, rest[p.toNat]? = some z := ⟨_, List.getElem?_eq_getElem (by omega)⟩
        have hix : ixN? rest.length p = some p.toNat := by
          unfold ixN? L2.ixN
          rw [if_pos p0, if_pos hpl]
        have hm : methd .pop h2 (.ref h.length) [.v (.int p)] = some (.v z, h2.set h.length (.lst (rest.eraseIdx p.toNat))) := by
          simp only [methd, look, hr2, mLst, hix, hz]
        refine q_rsnil ⟨by simp only [mkd, look, hr, hr2], _, _, hm, z, rfl, (G.trans G2).setAt (Nat.le_refl _), S2.set (by omega) (by omega), rest.eraseIdx p.toNat, ?_, perm_erase hz hp, ?_⟩
        · rw [List.getElem?_set_self (List.getElem?_eq_some_iff.mp hr2).1]
        · rw [List.length_eraseIdx_of_lt (by omega)]
          simp
          omega
      obtain ⟨r, h2, e2, y, rfl, q⟩ := key
      exact ⟨y, h2, by show asD (ev _ _ [some (.ref s), some d, some (.ref h.length), some x] h1) = _; rw [e2]; rfl, q⟩)
  have hr0 : rest = [] := by
    have : (rangeD 0 ds.length).length = ds.length := by simp [rangeD]
    simp only [List.nil_append, this] at hl2
    exact List.eq_nil_of_length_eq_zero (by omega)
  subst hr0
  refine ⟨_, _, e, h'.length, acc, rfl, by show (h' ++ [Cell.lst acc])[h'.length]? = _; simp, by simpa using hp, G'.len, G'.trans .app, S'.app⟩
end Co

set_option linter.all false
set_option maxRecDepth 100000
set_option autoImplicit false
/-! Core31: tuples of ints: their order, as keys. -/
namespace Co
open PySem

abbrev Lot := List Int
def lotD (l : Lot) : D := .tup (l.map D.int)
def lexI : Lot → Lot → Bool
  | [], [] => false
  | [], _ :: _ => true
  | _ :: _, [] => false
  | x :: xs, y :: ys => decide (x < y) || (!decide (y < x) && lexI xs ys)
/-- a ≤ b -/
def lotLe (a b : Lot) : Bool := !lexI b a
theorem pys_ints : ∀ l : Lot, pys (l.map D.int) = l.map PyData.int
  | [] => rfl
  | x :: l => by rw [List.map_cons, pys, pys_ints l]; rfl
theorem py_lot (l : Lot) : py (lotD l) = .tuple (l.map PyData.int) := by rw [lotD, py, pys_ints]
def toksI : Lot → List (Int ⊕ List Nat)
  | [] => [.inl 0]
  | x :: xs => .inl 1 :: .inl x :: toksI xs
theorem toks_is : ∀ l : Lot, PySem.W.keyToksAll (l.map PyData.int) = toksI l
  | [] => rfl
  | x :: l => by rw [List.map_cons, PySem.W.keyToksAll, toks_is l]; rfl
theorem lex_toks : ∀ a b : Lot, PyProof.Rows.lexLt PyProof.Rows.itemOrd (toksI a) (toksI b) = lexI a b
  | [], [] => rfl
  | [], _ :: _ => rfl
  | _ :: _, [] => rfl
  | x :: xs, y :: ys => by
    show (PyProof.Rows.itemOrd.blt (.inl 1) (.inl 1) || (!PyProof.Rows.itemOrd.blt (.inl 1) (.inl 1) && (PyProof.Rows.itemOrd.blt (.inl x) (.inl y) || (!PyProof.Rows.itemOrd.blt (.inl y) (.inl x) && PyProof.Rows.lexLt PyProof.Rows.itemOrd (toksI xs) (toksI ys))))) = _
    rw [lex_toks xs ys]
    rfl
theorem lt_ints (a b : Lot) : PySem.W.dataLt (py (lotD a)) (py (lotD b)) = lexI a b := by
  rw [py_lot, py_lot]
  show PyProof.Rows.lexLt PyProof.Rows.itemOrd (PySem.W.keyToksAll (a.map PyData.int)) (PySem.W.keyToksAll (b.map PyData.int)) = _
  rw [toks_is, toks_is, lex_toks]
theorem le_lots (a b : Lot) : leD (lotD a) (lotD b) = lotLe a b := by unfold leD lotLe; rw [lt_ints]
theorem lexI_irr : ∀ a : Lot, lexI a a = false
  | [] => rfl
  | x :: xs => by simp [lexI, lexI_irr xs]
theorem lexI_trans : ∀ {a b c : Lot}, lexI a b = true → lexI b c = true → lexI a c = true
  | [], [], _, h, _ => by cases h
  | [], _ :: _, [], _, h => by cases h
  | [], _ :: _, _ :: _, _, _ => rfl
  | _ :: _, [], _, h, _ => by cases h
  | _ :: _, _ :: _, [], _, h => by cases h
  | x :: xs, y :: ys, z :: zs, h1, h2 => by
    simp only [lexI, Bool.or_eq_true, Bool.and_eq_true, Bool.not_eq_true', decide_eq_true_eq, decide_eq_false_iff_not] at h1 h2 ⊢
    rcases h1 with h1 | ⟨h1, r1⟩
    · rcases h2 with h2 | ⟨h2, r2⟩
      · left; omega
      · left; omega
    · rcases h2 with h2 | ⟨h2, r2⟩
      · left; omega
      · right; exact ⟨by omega, lexI_trans r1 r2⟩
theorem lexI_total : ∀ {a b : Lot}, lexI a b = false → lexI b a = false → a = b
  | [], [], _, _ => rfl
  | [], _ :: _, h, _ => by cases h
  | _ :: _, [], _, h => by cases h
  | x :: xs, y :: ys, h1, h2 => by
    simp only [lexI, Bool.or_eq_false_iff, Bool.and_eq_false_iff, Bool.not_eq_false', decide_eq_true_eq, decide_eq_false_iff_not] at h1 h2
    have e : x = y := by omega
    subst e
    rw [lexI_total (a := xs) (b := ys) (by rcases h1.2 with h | h; omega; exact h) (by rcases h2.2 with h | h; omega; exact h)]
theorem lexI_asym {a b : Lot} (h : lexI a b = true) : lexI b a = false := by
  cases q : lexI b a with
  | false => rfl
  | true => have := lexI_trans h q; rw [lexI_irr] at this; cases this
theorem lotLe_trans (a b c : Lot) (h1 : lotLe a b = true) (h2 : lotLe b c = true) : lotLe a c = true := by
  unfold lotLe at *
  simp only [Bool.not_eq_true'] at *
  cases q : lexI c a with
  | false => rfl
  | true =>
    cases q2 : lexI b c with
    | true => rw [lexI_trans q2 q] at h1; cases h1
    | false =>
      have e := lexI_total q2 h2
      subst e
      rw [q] at h1; cases h1
theorem lotLe_total (a b : Lot) : (lotLe a b || lotLe b a) = true := by
  unfold lotLe
  cases q : lexI b a with
  | false => rfl
  | true => rw [lexI_asym q]; rfl
theorem lotLe_anti {a b : Lot} (h1 : lotLe a b = true) (h2 : lotLe b a = true) : a = b := by
  unfold lotLe at *
  simp only [Bool.not_eq_true'] at *
  exact lexI_total h2 h1

theorem lotD_inj {a b : Lot} (e : lotD a = lotD b) : a = b := by
  have h : a.map D.int = b.map D.int := by unfold lotD at e; injection e
  induction a generalizing b with
  | nil => cases b with | nil => rfl | cons _ _ => simp at h
  | cons x a ih =>
    cases b with
    | nil => simp at h
    | cons y b => simp at h; obtain ⟨rfl, h2⟩ := h; rw [ih (b := b) (by rw [lotD, lotD, h2]) h2]
theorem nks_ints : ∀ l : Lot, nks (l.map D.int) = some (l.map NestedKey.num)
  | [] => rfl
  | x :: l => by rw [List.map_cons, nks, nks_ints l]; rfl
theorem depthAll_nums : ∀ l : Lot, NestedKey.depthAll (l.map NestedKey.num) ≤ 1
  | [] => by simp [NestedKey.depthAll]
  | x :: l => by
    have := depthAll_nums l
    simp only [List.map_cons, NestedKey.depthAll, NestedKey.depth]
    omega
theorem lot_key (l : Lot) : tupKey (lotD l) = true := by
  unfold tupKey lotD
  simp only [nks_ints]
  refine decide_eq_true ?_
  have := depthAll_nums l
  simp only [NestedKey.depth]
  omega
theorem pures_ints : ∀ l : Lot, pures (l.map D.int) = true
  | [] => rfl
  | x :: l => by rw [List.map_cons, pures, pures_ints l]; rfl
theorem pure_lot (l : Lot) : pure? (lotD l) = true := by rw [lotD, pure?, pures_ints]
theorem lay_ints : ∀ l : Lot, PyData.canLayAll0 (l.map PyData.int) = true
  | [] => rfl
  | x :: l => by rw [List.map_cons, PyData.canLayAll0, lay_ints l]; rfl
theorem depth_ints : ∀ l : Lot, PyData.depthAll (l.map PyData.int) ≤ 1
  | [] => by simp [PyData.depthAll]
  | x :: l => by
    have := depth_ints l
    simp only [List.map_cons, PyData.depthAll, PyData.depth]
    omega
theorem shaped_lot (l : Lot) : SeqAt.shaped (py (lotD l)) = true := by
  rw [py_lot]
  unfold SeqAt.shaped
  have := depth_ints l
  have hd : PyData.depth (.tuple (l.map PyData.int)) ≤ 64 := by simp only [PyData.depth]; omega
  rw [Bool.and_eq_true]
  exact ⟨by simp only [PyData.canLay0, lay_ints], decide_eq_true hd⟩
theorem alike_ints : ∀ a b : Lot, PySem.W.alikeAll (a.map PyData.int) (b.map PyData.int) = true
  | [], _ => by simp [PySem.W.alikeAll]
  | _ :: _, [] => by simp [PySem.W.alikeAll]
  | x :: a, y :: b => by simp only [List.map_cons, PySem.W.alikeAll, alike_ints a b]; rfl
theorem sort_lots {ls : List Lot} (h : ls.length ≤ 16777216) : sortD (ls.map lotD) = some ((ls.mergeSort lotLe).map lotD) := by
  unfold sortD
  have ok : sortOk (ls.map lotD) = true := by
    unfold sortOk
    simp only [Bool.and_eq_true, List.all_map, List.all_eq_true, Function.comp]
    refine ⟨⟨⟨fun l _ => ?_, fun a _ b _ => ?_⟩, fun a _ => rfl⟩, ?_⟩
    · exact ⟨pure_lot l, shaped_lot l⟩
    · rw [py_lot, py_lot]; simp only [PySem.W.alike]; exact alike_ints a b
    · unfold small; rw [List.length_map]; exact decide_eq_true h
  rw [if_pos ok]
  congr 1
  refine (List.map_mergeSort ?_).symm
  intro a _ b _
  exact (le_lots a b).symm
end Co

set_option linter.all false
set_option maxRecDepth 100000
set_option autoImplicit false
/-! Core32: dicts from lots to ints. -/
namespace Co
open PySem

abbrev Num := List (Lot × Int)
def numD (A : Num) : List (D × D) := A.map fun p => (lotD p.1, D.int p.2)
def pairD (p : Lot × Int) : D := .tup [lotD p.1, .int p.2]
def chD (A : Num) : D := .tup (A.map pairD)
def aget (A : Num) (l : Lot) : Option Int := (A.find? fun p => decide (p.1 = l)).map (·.2)
def aput (A : Num) (l : Lot) (x : Int) : Num := if A.any (fun p => decide (p.1 = l)) then A.map (fun p => if p.1 = l then (p.1, x) else p) else A ++ [(l, x)]
theorem num_keys (A : Num) : ((numD A).all fun p => tupKey p.1) = true := by
  rw [List.all_eq_true]
  intro p hp
  obtain ⟨q, _, rfl⟩ := List.mem_map.mp hp
  exact lot_key q.1
theorem num_fit (A : Num) (l : Lot) : keysFit (numD A) (lotD l) = true := by
  unfold keysFit
  rw [lot_key, num_keys]
  simp
theorem lot_dec (a b : Lot) : decide (lotD a = lotD b) = decide (a = b) := by
  by_cases h : a = b
  · subst h; simp
  · rw [decide_eq_false h, decide_eq_false (fun z => h (lotD_inj z))]
theorem num_get (A : Num) (l : Lot) : dget (numD A) (lotD l) = (aget A l).map D.int := by
  unfold dget aget numD
  rw [List.find?_map]
  have e : ((fun p : D × D => decide (p.1 = lotD l)) ∘ fun p : Lot × Int => (lotD p.1, D.int p.2)) = fun p => decide (p.1 = l) := by
    funext p
    exact lot_dec p.1 l
  rw [e]
  cases A.find? fun p => decide (p.1 = l) <;> rfl
theorem num_any (A : Num) (l : Lot) : ((numD A).any fun p => decide (p.1 = lotD l)) = A.any fun p => decide (p.1 = l) := by
  unfold numD
  rw [List.any_map]
  congr 1
  funext p
  exact lot_dec p.1 l
theorem num_put (A : Num) (l : Lot) (x : Int) : dput (numD A) (lotD l) (.int x) = numD (aput A l x) := by
  unfold dput aput
  rw [num_any]
  split
  · unfold numD
    rw [List.map_map, List.map_map]
    refine List.map_congr_left fun p _ => ?_
    simp only [Function.comp]
    by_cases h : p.1 = l
    · rw [if_pos h, if_pos (by rw [h])]
    · rw [if_neg h, if_neg (fun z => h (lotD_inj z))]
  · unfold numD
    rw [List.map_append]; rfl
theorem aput_keys (A : Num) (l : Lot) (x : Int) : (aput A l x).map (·.1) = if l ∈ A.map (·.1) then A.map (·.1) else A.map (·.1) ++ [l] := by
  unfold aput
  have e : (A.any fun p => decide (p.1 = l)) = decide (l ∈ A.map (·.1)) := by
    rw [Bool.eq_iff_iff]
    simp only [List.any_eq_true, decide_eq_true_eq, List.mem_map]
  rw [e]
  by_cases h : l ∈ A.map (·.1)
  · rw [if_pos (decide_eq_true h), if_pos h, List.map_map]
    refine List.map_congr_left fun p _ => ?_
    simp only [Function.comp]
    split <;> rfl
  · rw [if_neg (by simpa using h), if_neg h, List.map_append]; rfl
theorem aput_nodup {A : Num} {l : Lot} {x : Int} (h : (A.map (·.1)).Nodup) : ((aput A l x).map (·.1)).Nodup := by
  rw [aput_keys]
  split
  · exact h
  · rename_i hn
    rw [List.nodup_append]
    exact ⟨h, by simp, fun a ha b hb => by simp at hb; subst hb; exact fun z => hn (z ▸ ha)⟩
theorem aput_len (A : Num) (l : Lot) (x : Int) : (aput A l x).length ≤ A.length + 1 := by
  unfold aput; split <;> simp
theorem aget_put (A : Num) (l m : Lot) (x : Int) : aget (aput A l x) m = if m = l then some x else aget A m := by
  unfold aput
  split
  · rename_i h
    unfold aget
    rw [List.find?_map]
    have e : ((fun p : Lot × Int => decide (p.1 = m)) ∘ fun p : Lot × Int => if p.1 = l then (p.1, x) else p) = fun p => decide (p.1 = m) := by
      funext p
      simp only [Function.comp]
      split <;> rfl
    rw [e]
    by_cases hm : m = l
    · subst hm
      rw [if_pos rfl]
      obtain ⟨p, hp, hpe⟩ := List.any_eq_true.mp h
      cases q : A.find? fun p => decide (p.1 = m) with
      | none => exact absurd hpe (by simpa using List.find?_eq_none.mp q p hp)
      | some y =>
        have := List.find?_some q
        simp only [decide_eq_true_eq] at this
        simp [this]
    · rw [if_neg hm]
      cases q : A.find? fun p => decide (p.1 = m) with
      | none => rfl
      | some y =>
        have := List.find?_some q
        simp only [decide_eq_true_eq] at this
        simp [this, hm]
  · rename_i h
    unfold aget
    rw [List.find?_append]
    by_cases hm : m = l
    · subst hm
      rw [if_pos rfl]
      cases q : A.find? fun p => decide (p.1 = m) with
      | some y =>
        have h1 := List.find?_some q
        have h2 := List.mem_of_find?_eq_some q
        exact absurd (List.any_eq_true.mpr ⟨y, h2, h1⟩) h
      | none => simp
    · rw [if_neg hm]
      have : [(l, x)].find? (fun p => decide (p.1 = m)) = none := by simp [Ne.symm hm]
      rw [this]
      cases A.find? fun p => decide (p.1 = m) <;> rfl

/-- the members with a number, in order -/
def told (A : Num) : Num := ((A.map (·.1)).mergeSort lotLe).filterMap fun l => if (aget A l).getD 0 = 0 then none else some (l, (aget A l).getD 0)
def toldBody : List S := [(.ret (.bi .tuple [(.lc (.nm 1) (.of (.bi .sorted [(.var 0)])) (some (.cmp .ne (.ix (.var 0) (.var 1)) (.int 0))) (.tup [(.var 1), (.ix (.var 0) (.var 1))]) [("lot", 1)])]))]
theorem aget_mem {A : Num} {l : Lot} (h : l ∈ A.map (·.1)) : ∃ v, aget A l = some v := by
  obtain ⟨p, hp, rfl⟩ := List.mem_map.mp h
  unfold aget
  cases q : A.find? fun r => decide (r.1 = p.1) with
  | none => exact absurd (by simp) (List.find?_eq_none.mp q p hp)
  | some y => exact ⟨y.2, rfl⟩
theorem mid_mem {α β : Type} {f : α → β} {ls : List α} {done rest : List β} {d : β} (e : ls.map f = done ++ d :: rest) : ∃ ls1 l ls2, ls = ls1 ++ l :: ls2 ∧ done = ls1.map f ∧ d = f l ∧ rest = ls2.map f := by
  obtain ⟨a, b, rfl, h1, h2⟩ := List.map_eq_append_iff.mp e
  obtain ⟨l, r, rfl, h3, h4⟩ := List.map_eq_cons_iff.mp h2
  exact ⟨a, l, r, rfl, h1.symm, h3.symm, h4.symm⟩
/-- a comprehension over what is made of ls -/
theorem lc_fm {α : Type} {test : Rho → Hh → Option (Bool × Hh)} {elt : Rho → Hh → Option (D × Hh)} {tg : Tg} {w : Walk} {ρ : Rho} (f : α → D) (g : α → Option D) (I : Hh → Prop) : ∀ (ls : List α) (acc : List D) (h : Hh), I h → (∀ h1, I h1 → w.ok h1 = true) → acc.length + ls.length ≤ 16777216 →
    (∀ a ∈ ls, ∀ h1, I h1 → ∃ ρ1, bindT tg (f a) ρ = some ρ1 ∧ ∃ b h2, test ρ1 h1 = some (b, h2) ∧ (b = true → ∃ x h3, elt ρ1 h2 = some (x, h3) ∧ g a = some x ∧ I h3) ∧ (b = false → g a = none ∧ I h2)) →
    ∃ h', lcL test elt tg w ρ (ls.map f) acc h = some (acc ++ ls.filterMap g, h') ∧ I h'
  | [], acc, h, i, hw, hl, st => ⟨h, by simp only [List.map_nil, lcL, hw _ i, if_true, List.filterMap_nil, List.append_nil], i⟩
  | a :: ls, acc, h, i, hw, hl, st => by
    obtain ⟨ρ1, e1, b, h2, e2, q1, q2⟩ := st a List.mem_cons_self h i
    simp only [List.length_cons] at hl
    cases b with
    | true =>
      obtain ⟨x, h3, e3, e4, i3⟩ := q1 rfl
      obtain ⟨h', e, i'⟩ := lc_fm f g I ls (acc ++ [x]) h3 i3 hw (by simp; omega) fun a ha => st a (List.mem_cons_of_mem _ ha)
      refine ⟨h', ?_, i'⟩
      simp only [List.map_cons, lcL, hw _ i, if_true, e1, e2, e3]
      rw [if_pos (decide_eq_true (by omega)), e, List.filterMap_cons_some e4]
      simp
    | false =>
      obtain ⟨e4, i3⟩ := q2 rfl
      obtain ⟨h', e, i'⟩ := lc_fm f g I ls acc h2 i3 hw (by omega) fun a ha => st a (List.mem_cons_of_mem _ ha)
      refine ⟨h', ?_, i'⟩
      simp only [List.map_cons, lcL, hw _ i, if_true, e1, e2]
      rw [e, List.filterMap_cons_none e4]
theorem told_ok {fns : List Fn} {f k n : Nat} {fn : Fn} {h : Hh} {A : Num} (hf : fns[f]? = some fn) (hb : fn.body = toldBody) (hN : fn.N.length = 2) (hnp : fn.np = 1) (hA : look h n = some (.dct (numD A))) (hl : A.length ≤ 1000000) :
    CQ (callN fns (k + 1)) f [.ref n] h fun d h' => d = chD (told A) ∧ h' = h := by
  refine q_fn hf hnp.symm ?_
  rw [hb, hN]
  show SsQ (callN fns k) toldBody [some (.ref n), none] h _
  have hit : iterOf h (.v (.ref n)) = some ((A.map (·.1)).map lotD) := by
    simp only [iterOf, seqOf, hA, keysOf]
    simp only [numD, List.map_map]
    rfl
  have hso : bltn .sorted h [.v (.ref n)] = some (.f (((A.map (·.1)).mergeSort lotLe).map lotD), h) := by
    simp only [bltn, biSorted, hit, sort_lots (ls := A.map (·.1)) (by simp; omega)]
    rfl
  refine q_cons (q_ret (q_bi (q_rscons (q_lc (q_wof (q_bi (q_rscons (q_var rfl (q_rsnil ⟨_, _, hso, ⟨_, none, none⟩, rfl, ?_⟩)))))))))
  obtain ⟨h', e, rfl⟩ := lc_fm (test := fun ρ h => evT (callN fns k) (some (.cmp .ne (.ix (.var 0) (.var 1)) (.int 0))) ρ h) (elt := fun ρ h => asD (ev (callN fns k) (.tup [(.var 1), (.ix (.var 0) (.var 1))]) ρ h)) (tg := .nm 1)
    (w := ⟨((A.map (·.1)).mergeSort lotLe).map lotD, none, none⟩) (ρ := wipeR [some (.ref n), none] [("lot", 1)]) lotD (fun l => if (aget A l).getD 0 = 0 then none else some (pairD (l, (aget A l).getD 0))) (fun h1 => h1 = h) ((A.map (·.1)).mergeSort lotLe) [] h rfl (fun _ _ => rfl) (by simp; omega) (by
      rintro l hl h1 rfl
      obtain ⟨v, hv⟩ := aget_mem ((List.mergeSort_perm _ _).mem_iff.mp hl)
      have hix : item h1 (.v (.ref n)) (.v (lotD l)) = some (.int v) := by
        simp only [item, hA, num_fit, if_true, num_get, hv]
        rfl
      refine ⟨_, rfl, !decide (v = 0), h1, ?_, fun hz => ?_, fun hz => ?_⟩
      · have : TQ (callN fns k) (some (.cmp .ne (.ix (.var 0) (.var 1)) (.int 0))) [some (.ref n), some (lotD l)] h1 fun b h2 => b = !decide (v = 0) ∧ h2 = h1 := by
          refine q_tsome (q_cmp (q_ix (q_var rfl (q_var rfl ⟨_, hix, q_int ⟨!decide (v = 0), ?_, _, rfl, rfl, rfl⟩⟩))))
          rfl
        obtain ⟨b, h2, e2, rfl, rfl⟩ := this
        exact e2
      · have hv0 : ¬ v = 0 := by simpa using hz
        refine ⟨pairD (l, v), h1, ?_, by simp [hv, hv0], rfl⟩
        have : EQ (callN fns k) (.tup [(.var 1), (.ix (.var 0) (.var 1))]) [some (.ref n), some (lotD l)] h1 fun r h2 => r = .v (pairD (l, v)) ∧ h2 = h1 :=
          q_tup (q_escons (q_var rfl (q_escons (q_ix (q_var rfl (q_var rfl ⟨_, hix, q_esnil ⟨rfl, rfl, rfl⟩⟩))))))
        obtain ⟨r, h2, e2, rfl, rfl⟩ := this
        show asD (ev _ _ [some (.ref n), some (lotD l)] _) = _
        rw [e2]; rfl
      · have hv0 : v = 0 := by simpa using hz
        exact ⟨by simp [hv, hv0], rfl⟩)
  refine ⟨_, _, e, q_rsnil ⟨_, _, rfl, ?_⟩⟩
  refine ⟨?_, rfl⟩
  show D.tup _ = chD (told A)
  unfold chD told
  rw [List.nil_append, List.map_filterMap]
  congr 2
  funext l
  by_cases h0 : (aget A l).getD 0 = 0
  · simp [h0]
  · simp [h0]
end Co

set_option linter.all false
set_option maxRecDepth 100000
set_option autoImplicit false
/-! Core33: sums of chains. -/
namespace Co
open PySem

/-- a loop without a way out -/
theorem for_ls {α : Type} {body : Rho → Hh → Option Out} {tg : Tg} {w : Walk} (f : α → D) (Iv : List α → Rho → Hh → Prop) : ∀ (ls done : List α) (ρ : Rho) (h : Hh), Iv done ρ h → (∀ ls1 ρ h, Iv ls1 ρ h → w.ok h = true) →
    (∀ ls1 a ls2, done ++ ls = ls1 ++ a :: ls2 → ∀ ρ h, Iv ls1 ρ h → ∃ ρ1, bindT tg (f a) ρ = some ρ1 ∧ ∃ o, body ρ1 h = some o ∧ ∃ ρ2 h2, o = .nx ρ2 h2 ∧ Iv (ls1 ++ [a]) ρ2 h2) →
    ∃ ρ' h', forL body tg w (ls.map f) ρ h = some (.nx ρ' h') ∧ Iv (done ++ ls) ρ' h'
  | [], done, ρ, h, iv, hw, st => ⟨ρ, h, by simp only [List.map_nil, forL, hw _ _ _ iv, if_true], by simpa using iv⟩
  | a :: ls, done, ρ, h, iv, hw, st => by
    obtain ⟨ρ1, e1, o, e2, ρ2, h2, rfl, iv2⟩ := st done a ls rfl ρ h iv
    obtain ⟨ρ', h', e, iv'⟩ := for_ls f Iv ls (done ++ [a]) ρ2 h2 iv2 hw fun ls1 b ls2 e => st ls1 b ls2 (by simpa using e)
    exact ⟨ρ', h', by simp only [List.map_cons, forL, hw _ _ _ iv, if_true, e1, e2]; exact e, by simpa using iv'⟩

theorem pairs_num : ∀ A : Num, pairsOf (A.map pairD) = some (numD A)
  | [] => rfl
  | p :: A => by
    show (pairsOf (A.map pairD)).map _ = _
    rw [pairs_num A]; rfl
theorem mk_num_from : ∀ (B A : Num), ((A ++ B).map (·.1)).Nodup → (numD B).foldl (fun acc p => dput acc p.1 p.2) (numD A) = numD (A ++ B)
  | [], A, _ => by simp [numD]
  | p :: B, A, h => by
    have hn : p.1 ∉ A.map (·.1) := by
      intro z
      rw [List.map_append, List.nodup_append] at h
      exact h.2.2 _ z _ (by simp) rfl
    have e : dput (numD A) (lotD p.1) (.int p.2) = numD (A ++ [p]) := by
      rw [num_put]
      unfold aput
      rw [if_neg]
      intro z
      obtain ⟨q, hq, e⟩ := List.any_eq_true.mp z
      simp only [decide_eq_true_eq] at e
      exact hn (List.mem_map.mpr ⟨q, hq, e⟩)
    have ih := mk_num_from B (A ++ [p]) (by simpa using h)
    show (numD B).foldl _ (dput (numD A) (lotD p.1) (.int p.2)) = _
    rw [e, ih]
    simp
theorem mk_num {A : Num} (h : (A.map (·.1)).Nodup) : mkDict (numD A) = numD A := by
  have := mk_num_from A [] (by simpa using h)
  simpa [mkDict, numD] using this
/-- dict(chain) -/
theorem dict_chain {A : Num} {h : Hh} (hA : (A.map (·.1)).Nodup) : bltn .dict h [.v (chD A)] = some (.v (.ref h.length), h ++ [.dct (numD A)]) := by
  have hk : dictOk (numD A) = true := by unfold dictOk; rw [num_keys]; simp
  simp only [bltn, biDict, dictBi, chD, seqOf, pairs_num, hk, if_true, mk_num hA]
/-- d.get(lot, 0) -/
theorem get_num {A : Num} {h : Hh} {n : Nat} {l : Lot} (hA : look h n = some (.dct (numD A))) : methd .get h (.ref n) [.v (lotD l), .v (.int 0)] = some (.v (.int ((aget A l).getD 0)), h) := by
  simp only [methd, hA, mDct, num_fit, if_true, num_get]
  cases aget A l <;> rfl
theorem set_num {A : Num} {h : Hh} {n : Nat} {l : Lot} {x : Int} (hA : look h n = some (.dct (numD A))) (hl : A.length < 16777216) : setItem? h (.ref n) (lotD l) (.int x) = some (h.set n (.dct (numD (aput A l x)))) := by
  simp only [setItem?, hA, num_fit, num_put, Bool.true_and]
  rw [if_pos (by simpa [numD] using hl)]
theorem last_set {h : Hh} {x y : Cell} : (h ++ [x]).set h.length y = h ++ [y] := by
  rw [List.set_append_right _ _ (Nat.le_refl _)]; simp
theorem last_look {h : Hh} {x : Cell} : look (h ++ [x]) h.length = some x := by simp [look]

def addTo (t : Int) (acc : Num) (p : Lot × Int) : Num := aput acc p.1 ((aget acc p.1).getD 0 + t * p.2)
def sumA (A B : Num) (t : Int) : Num := B.foldl (addTo t) A
theorem sumA_len (t : Int) : ∀ (B A : Num), (sumA A B t).length ≤ A.length + B.length
  | [], A => Nat.le_refl _
  | p :: B, A => by
    have h1 := sumA_len t B (addTo t A p)
    have h2 := aput_len A p.1 ((aget A p.1).getD 0 + t * p.2)
    simp only [List.length_cons]
    show (sumA (addTo t A p) B t).length ≤ _
    unfold addTo at h1 ⊢
    omega
def sumBody (ti : Nat) : List S := [(.asg (.nm 3) (.bi .dict [(.var 0)])), (.for (.tp [(.nm 4), (.nm 5)]) (.of (.var 1)) [(.six (.var 3) (.var 4) (.bin .add (.me .get (.var 3) [(.var 4), (.int 0)]) (.bin .mul (.var 2) (.var 5))))]), (.ret (.call ti [(.var 3)]))]
theorem sum_ok {fns : List Fn} {f ti k : Nat} {fn tn : Fn} {h : Hh} {A B : Num} {t : Int} (ht : fns[ti]? = some tn) (htb : tn.body = toldBody) (htN : tn.N.length = 2) (htp : tn.np = 1) (hf : fns[f]? = some fn) (hb : fn.body = sumBody ti) (hN : fn.N.length = 6) (hnp : fn.np = 3)
    (hA : (A.map (·.1)).Nodup) (hl : A.length + B.length ≤ 1000000) (htt : -(2 ^ 64) < t ∧ t < 2 ^ 64) : CQ (callN fns (k + 2)) f [chD A, chD B, .int t] h fun d h' => d = chD (told (sumA A B t)) ∧ ∃ g, h' = h ++ g := by
  refine q_fn hf hnp.symm ?_
  rw [hb, hN]
  show SsQ (callN fns (k + 1)) (sumBody ti) [some (chD A), some (chD B), some (.int t), none, none, none] h _
  refine q_cons (q_asg (q_bi (q_rscons (q_var rfl (q_rsnil ⟨_, _, dict_chain hA, _, rfl, ?_⟩)))))
  refine q_cons (q_for (q_wof (q_var rfl ⟨⟨B.map pairD, none, none⟩, rfl, ?_⟩)))
  obtain ⟨ρ', h', e, ⟨x, y, rfl⟩, rfl⟩ := for_ls (body := fun ρ h => exs (callN fns (k + 1)) [(.six (.var 3) (.var 4) (.bin .add (.me .get (.var 3) [(.var 4), (.int 0)]) (.bin .mul (.var 2) (.var 5))))] ρ h) (tg := .tp [.nm 4, .nm 5]) (w := ⟨B.map pairD, none, none⟩) pairD
    (fun done ρ h1 => (∃ x y, ρ = [some (chD A), some (chD B), some (.int t), some (.ref h.length), x, y]) ∧ h1 = h ++ [.dct (numD (sumA A done t))]) B [] [some (chD A), some (chD B), some (.int t), some (.ref h.length), none, none] (h ++ [.dct (numD A)]) ⟨⟨none, none, rfl⟩, rfl⟩ (fun _ _ _ _ => rfl) (by
      rintro ls1 p ls2 hls ρ h1 ⟨⟨x, y, rfl⟩, rfl⟩
      simp only [List.nil_append] at hls
      refine ⟨_, rfl, ?_⟩
      have hlen : (sumA A ls1 t).length < 16777216 := by
        have h1 := sumA_len t ls1 A
        have h2 : ls1.length ≤ B.length := by rw [hls]; simp
        omega
      have hmul : ∀ hh : Hh, binop .mul hh (.v (.int t)) (.v (.int p.2)) = some (.v (.int (t * p.2))) := fun hh => by
        simp only [binop]; rw [if_pos (by unfold bitsOk; rw [Bool.or_eq_true]; left; exact decide_eq_true htt)]
      have hs := set_num (h := h ++ [Cell.dct (numD (sumA A ls1 t))]) (n := h.length) (l := p.1) (x := (aget (sumA A ls1 t) p.1).getD 0 + t * p.2) last_look hlen
      have key : SsQ (callN fns (k + 1)) [(.six (.var 3) (.var 4) (.bin .add (.me .get (.var 3) [(.var 4), (.int 0)]) (.bin .mul (.var 2) (.var 5))))] [some (chD A), some (chD B), some (.int t), some (.ref h.length), some (lotD p.1), some (.int p.2)] (h ++ [Cell.dct (numD (sumA A ls1 t))])
          fun o => o = .nx [some (chD A), some (chD B), some (.int t), some (.ref h.length), some (lotD p.1), some (.int p.2)] ((h ++ [Cell.dct (numD (sumA A ls1 t))]).set h.length (Cell.dct (numD (sumA A (ls1 ++ [p]) t)))) := by
        refine q_cons (q_six (q_bin (q_me (q_var rfl ⟨_, rfl, q_rscons (q_var rfl (q_rscons (q_int (q_rsnil ⟨rfl, _, _, get_num last_look, q_bin (q_var rfl (q_var rfl ⟨_, hmul _, _, rfl, ?_⟩))⟩))))⟩))))
        refine q_var rfl ⟨_, rfl, q_var rfl ⟨_, rfl, _, hs, q_nil ?_⟩⟩
        show Out.nx _ _ = Out.nx _ _
        congr 3
        simp only [sumA, List.foldl_append, List.foldl_cons, List.foldl_nil]
        rfl
      obtain ⟨o, e1, rfl⟩ := key
      exact ⟨_, e1, _, _, rfl, ⟨_, _, rfl⟩, last_set⟩)
  refine ⟨_, e, ?_⟩
  refine q_cons (q_ret (q_call (q_escons (q_var rfl (q_esnil ((told_ok ht htb htN htp last_look ?_).mono ?_))))))
  · have := sumA_len t B A; simp only [List.nil_append]; omega
  · rintro d h' ⟨rfl, rfl⟩
    exact ⟨by simp [adopt], _, rfl⟩
end Co

set_option linter.all false
set_option maxRecDepth 100000
set_option autoImplicit false
/-! Core34: borders of chains. -/
namespace Co
open PySem

theorem six0 (n d : Nat) : HT.sIx n d none = d := rfl
theorem sixN (n d k : Nat) : HT.sIx n d (some (k : Int)) = min k n := by
  show (if (k : Int) < 0 then ((k : Int) + n).toNat else min (k : Int).toNat n) = _
  rw [if_neg (by omega)]
  simp
theorem cut_head {l : Lot} {k : Nat} : cutD (l.map D.int) none (some (k : Int)) = (l.take k).map D.int := by
  unfold cutD
  rw [six0, sixN, List.drop_zero, Nat.sub_zero, List.length_map, ← List.map_take]
  congr 1
  rw [List.take_eq_take_iff]
  omega
theorem cut_tail {l : Lot} {k : Nat} : cutD (l.map D.int) (some (k : Int)) none = (l.drop k).map D.int := by
  unfold cutD
  rw [six0, sixN, List.length_map, ← List.map_drop, ← List.map_take]
  congr 1
  by_cases h : k ≤ l.length
  · rw [Nat.min_eq_left h, List.take_of_length_le (by simp)]
  · rw [Nat.min_eq_right (by omega), List.drop_eq_nil_of_le (by omega), List.drop_eq_nil_of_le (by omega)]; simp
/-- lot[:k] + lot[k + 1:] -/
theorem side_ok {cl : Call} {ρ : Rho} {h : Hh} {a b : Nat} {l : Lot} {k : Nat} {Q : Res → Hh → Prop} (ha : ρ[a]? = some (some (lotD l))) (hb : ρ[b]? = some (some (.int k))) (hl : l.length ≤ 16777216) (q : Q (.v (lotD (l.eraseIdx k))) h) :
    EQ cl (.bin .add (.sl (.var a) none (some (.var b))) (.sl (.var a) (some (.bin .add (.var b) (.int 1))) none)) ρ h Q := by
  have e1 : slice h (.v (lotD l)) none (some (k : Int)) = some (.v (lotD (l.take k))) := by
    simp only [slice, lotD, cut_head]
  have e2 : slice h (.v (lotD l)) (some ((k : Int) + 1)) none = some (.v (lotD (l.drop (k + 1)))) := by
    have := cut_tail (l := l) (k := k + 1)
    simp only [slice, lotD]
    rw [show ((k : Int) + 1) = ((k + 1 : Nat) : Int) by omega, this]
  have e3 : binop .add h (.v (lotD (l.take k))) (.v (lotD (l.drop (k + 1)))) = some (.v (lotD (l.eraseIdx k))) := by
    simp only [binop, lotD]
    rw [if_pos (by unfold small; refine decide_eq_true ?_; simp; omega), ← List.map_append, ← List.eraseIdx_eq_take_drop_succ]
  refine q_bin (q_sl (q_var ha (q_onone (q_osome (q_var hb ⟨_, rfl, _, e1, ?_⟩)))))
  exact q_sl (q_var ha (q_osome (q_bin (q_var hb (q_int ⟨_, rfl, _, rfl, q_onone ⟨_, e2, _, e3, q⟩⟩)))))
def sgn (k : Nat) (x : Int) : Int := if k % 2 = 0 then x else 0 - x
def sideStep (x : Int) (l : Lot) (acc : Num) (k : Nat) : Num := aput acc (l.eraseIdx k) ((aget acc (l.eraseIdx k)).getD 0 + sgn k x)
def lotStep (acc : Num) (p : Lot × Int) : Num := (List.range p.1.length).foldl (sideStep p.2 p.1) acc
def bordA (A : Num) : Num := A.foldl lotStep []
theorem sides_len (x : Int) (l : Lot) : ∀ (ks : List Nat) (acc : Num), (ks.foldl (sideStep x l) acc).length ≤ acc.length + ks.length
  | [], acc => Nat.le_refl _
  | k :: ks, acc => by
    have h1 := sides_len x l ks (sideStep x l acc k)
    have h2 := aput_len acc (l.eraseIdx k) ((aget acc (l.eraseIdx k)).getD 0 + sgn k x)
    simp only [List.length_cons, List.foldl_cons]
    unfold sideStep at h1 ⊢
    omega
theorem lots_len (c : Nat) : ∀ (A acc : Num), (∀ p ∈ A, p.1.length ≤ c) → (A.foldl lotStep acc).length ≤ acc.length + A.length * c
  | [], acc, _ => by simp
  | p :: A, acc, h => by
    have h1 := lots_len c A (lotStep acc p) fun q hq => h q (List.mem_cons_of_mem _ hq)
    have h2 := sides_len p.2 p.1 (List.range p.1.length) acc
    have h3 := h p List.mem_cons_self
    rw [List.length_range] at h2
    simp only [List.length_cons, List.foldl_cons]
    have h4 : (A.length + 1) * c = A.length * c + c := by rw [Nat.add_mul, Nat.one_mul]
    unfold lotStep at h1 ⊢
    omega
/-- a dict with more beside it -/
theorem mid_look {h g : Hh} {x : Cell} : look (h ++ x :: g) h.length = some x := by simp [look]
theorem mid_set {h g : Hh} {x y : Cell} : (h ++ x :: g).set h.length y = h ++ y :: g := by
  rw [List.set_append_right _ _ (Nat.le_refl _)]; simp
/-- the law's own border -/
def lawBordBody (ti : Nat) : List S := [(.asg (.nm 1) .dnew), (.for (.tp [(.nm 2), (.nm 3)]) (.of (.var 0)) [(.for (.nm 4) (.range [(.bi .len [(.var 2)])]) [(.asg (.nm 5) (.bin .add (.sl (.var 2) none (some (.var 4))) (.sl (.var 2) (some (.bin .add (.var 4) (.int 1))) none))), (.six (.var 1) (.var 5) (.bin .add (.me .get (.var 1) [(.var 5), (.int 0)]) (.ite (.cmp .eq (.bin .mod (.bi .int [(.var 4)]) (.int 2)) (.int 0)) (.var 3) (.bin .sub (.int 0) (.var 3)))))])]), (.ret (.call ti [(.var 1)]))]
theorem rangeD_nat (n : Nat) : rangeD 0 (n : Int) = (List.range n).map fun k : Nat => D.int (k : Int) := by
  unfold rangeD
  simp
theorem range_nat {n : Nat} (h : n ≤ 1000000) : rangeOf [.v (.int (n : Int))] = some ((List.range n).map fun k : Nat => D.int (k : Int)) := by
  simp only [rangeOf]
  rw [if_pos (by unfold rangeOk; simp; omega), rangeD_nat]
theorem len_lot {h : Hh} {l : Lot} : bltn .len h [.v (lotD l)] = some (.v (.int (l.length : Nat)), h) := by
  simp only [bltn, biLen, lotD, iterOf, seqOf, List.length_map]
theorem int_eq {h : Hh} {i j : Int} : cmpop .eq h (.v (.int i)) (.v (.int j)) = some (decide (i = j)) := by
  simp only [cmpop]
  rfl
theorem sgn_ok {cl : Call} {ρ : Rho} {h : Hh} {a b k : Nat} {x : Int} {Q : Res → Hh → Prop} (ha : ρ[a]? = some (some (.int (k : Int)))) (hb : ρ[b]? = some (some (.int x))) (q : Q (.v (.int (sgn k x))) h) :
    EQ cl (.ite (.cmp .eq (.bin .mod (.bi .int [(.var a)]) (.int 2)) (.int 0)) (.var b) (.bin .sub (.int 0) (.var b))) ρ h Q := by
  refine q_ite (q_cmp (q_bin (q_bi (q_rscons (q_var ha (q_rsnil ⟨_, _, rfl, q_int ⟨_, mod_c (by decide), q_int ⟨_, int_eq, _, rfl, fun e => ?_, fun e => ?_⟩⟩⟩))))))
  · have e' := of_decide_eq_true e
    refine q_var hb ?_
    have : k % 2 = 0 := by omega
    unfold sgn at q
    rwa [if_pos this] at q
  · have e' := of_decide_eq_false e
    refine q_bin (q_int (q_var hb ⟨_, rfl, ?_⟩))
    have : ¬ k % 2 = 0 := by omega
    unfold sgn at q
    rwa [if_neg this] at q
def lawSideBody : List S := [(.asg (.nm 5) (.bin .add (.sl (.var 2) none (some (.var 4))) (.sl (.var 2) (some (.bin .add (.var 4) (.int 1))) none))), (.six (.var 1) (.var 5) (.bin .add (.me .get (.var 1) [(.var 5), (.int 0)]) (.ite (.cmp .eq (.bin .mod (.bi .int [(.var 4)]) (.int 2)) (.int 0)) (.var 3) (.bin .sub (.int 0) (.var 3)))))]
theorem law_side_ok {cl : Call} {d : D} {y : Option D} {h : Hh} {l : Lot} {x : Int} {acc : Num} {k : Nat} (hl : l.length ≤ 16777216) (ha : acc.length < 16777216) :
    SsQ cl lawSideBody [some d, some (.ref h.length), some (lotD l), some (.int x), some (.int k), y] (h ++ [.dct (numD acc)]) fun o => o = .nx [some d, some (.ref h.length), some (lotD l), some (.int x), some (.int k), some (lotD (l.eraseIdx k))] (h ++ [.dct (numD (sideStep x l acc k))]) := by
  have hs := set_num (h := h ++ [Cell.dct (numD acc)]) (n := h.length) (l := l.eraseIdx k) (x := (aget acc (l.eraseIdx k)).getD 0 + sgn k x) last_look ha
  refine q_cons (q_asg (side_ok rfl rfl hl ⟨_, rfl, ?_⟩))
  refine q_cons (q_six (q_bin (q_me (q_var rfl ⟨_, rfl, q_rscons (q_var rfl (q_rscons (q_int (q_rsnil ⟨rfl, _, _, get_num last_look, sgn_ok rfl rfl ⟨_, rfl, ?_⟩⟩))))⟩))))
  refine q_var rfl ⟨_, rfl, q_var rfl ⟨_, rfl, _, hs, q_nil ?_⟩⟩
  rw [last_set]
  rfl
theorem law_sides_ok {cl : Call} {d : D} {u v : Option D} {h : Hh} {l : Lot} {x : Int} {acc : Num} (hl : l.length ≤ 1000000) (ha : acc.length + l.length < 16777216) :
    ∃ u' v', SsQ cl [.for (.nm 4) (.range [(.bi .len [(.var 2)])]) lawSideBody] [some d, some (.ref h.length), some (lotD l), some (.int x), u, v] (h ++ [.dct (numD acc)])
      fun o => o = .nx [some d, some (.ref h.length), some (lotD l), some (.int x), u', v'] (h ++ [.dct (numD ((List.range l.length).foldl (sideStep x l) acc))]) := by
  obtain ⟨ρ', h', e, ⟨u', v', rfl⟩, rfl⟩ := for_ls (body := fun ρ h => exs cl lawSideBody ρ h) (tg := .nm 4) (w := ⟨(List.range l.length).map fun k : Nat => D.int (k : Int), none, none⟩) (fun k : Nat => D.int (k : Int))
    (fun done ρ h1 => (∃ u v, ρ = [some d, some (.ref h.length), some (lotD l), some (.int x), u, v]) ∧ h1 = h ++ [.dct (numD (done.foldl (sideStep x l) acc))]) (List.range l.length) [] [some d, some (.ref h.length), some (lotD l), some (.int x), u, v] (h ++ [.dct (numD acc)]) ⟨⟨u, v, rfl⟩, rfl⟩ (fun _ _ _ _ => rfl) (by
      rintro ls1 k ls2 hls ρ h1 ⟨⟨u, v, rfl⟩, rfl⟩
      simp only [List.nil_append] at hls
      have hlen := sides_len x l ls1 acc
      have h2 : ls1.length ≤ l.length := by
        have := congrArg List.length hls
        simp at this
        omega
      obtain ⟨o, e1, rfl⟩ := law_side_ok (cl := cl) (d := d) (y := v) (h := h) (l := l) (x := x) (acc := ls1.foldl (sideStep x l) acc) (k := k) (by omega) (by omega)
      refine ⟨_, rfl, _, e1, _, _, rfl, ⟨_, _, rfl⟩, ?_⟩
      simp only [List.foldl_append, List.foldl_cons, List.foldl_nil])
  refine ⟨u', v', q_cons (q_for (q_wrange (q_rscons (q_bi (q_rscons (q_var rfl (q_rsnil ⟨_, _, len_lot, q_rsnil ⟨_, range_nat hl, _, e, q_nil ?_⟩⟩)))))))⟩
  rfl
theorem law_border_ok {fns : List Fn} {f ti k c : Nat} {fn tn : Fn} {h : Hh} {A : Num} (ht : fns[ti]? = some tn) (htb : tn.body = toldBody) (htN : tn.N.length = 2) (htp : tn.np = 1) (hf : fns[f]? = some fn) (hb : fn.body = lawBordBody ti) (hN : fn.N.length = 6) (hnp : fn.np = 1)
    (hc : ∀ p ∈ A, p.1.length ≤ c) (hl : A.length * c + c ≤ 1000000) : CQ (callN fns (k + 2)) f [chD A] h fun d h' => d = chD (told (bordA A)) ∧ ∃ g, h' = h ++ g := by
  refine q_fn hf hnp.symm ?_
  rw [hb, hN]
  show SsQ (callN fns (k + 1)) (lawBordBody ti) [some (chD A), none, none, none, none, none] h _
  refine q_cons (q_asg (q_dnew ⟨_, rfl, ?_⟩))
  refine q_cons (q_for (q_wof (q_var rfl ⟨⟨A.map pairD, none, none⟩, rfl, ?_⟩)))
  obtain ⟨ρ', h', e, ⟨x, y, u, v, rfl⟩, rfl⟩ := for_ls (body := fun ρ h => exs (callN fns (k + 1)) [.for (.nm 4) (.range [(.bi .len [(.var 2)])]) lawSideBody] ρ h) (tg := .tp [.nm 2, .nm 3]) (w := ⟨A.map pairD, none, none⟩) pairD
    (fun done ρ h1 => (∃ x y u v, ρ = [some (chD A), some (.ref h.length), x, y, u, v]) ∧ h1 = h ++ [.dct (numD (done.foldl lotStep []))]) A [] [some (chD A), some (.ref h.length), none, none, none, none] (h ++ [.dct []]) ⟨⟨none, none, none, none, rfl⟩, rfl⟩ (fun _ _ _ _ => rfl) (by
      rintro ls1 p ls2 hls ρ h1 ⟨⟨x, y, u, v, rfl⟩, rfl⟩
      simp only [List.nil_append] at hls
      have hm : ∀ q ∈ ls1, q.1.length ≤ c := fun q hq => hc q (by rw [hls]; exact List.mem_append_left _ hq)
      have hp : p.1.length ≤ c := hc p (by rw [hls]; simp)
      have hlen := lots_len c ls1 [] hm
      have h2 : ls1.length * c ≤ A.length * c := Nat.mul_le_mul_right _ (by rw [hls]; simp)
      simp only [List.length_nil, Nat.zero_add] at hlen
      obtain ⟨u', v', o, e1, rfl⟩ := law_sides_ok (cl := callN fns (k + 1)) (d := chD A) (u := u) (v := v) (h := h) (l := p.1) (x := p.2) (acc := ls1.foldl lotStep []) (by omega) (by omega)
      refine ⟨_, rfl, _, e1, _, _, rfl, ⟨_, _, _, _, rfl⟩, ?_⟩
      simp only [List.foldl_append, List.foldl_cons, List.foldl_nil]
      rfl)
  refine ⟨_, e, ?_⟩
  refine q_cons (q_ret (q_call (q_escons (q_var rfl (q_esnil ((told_ok ht htb htN htp last_look ?_).mono ?_))))))
  · have := lots_len c A [] hc; simp only [List.length_nil] at this; simp only [List.nil_append]; omega
  · rintro d h' ⟨rfl, rfl⟩
    exact ⟨by simp [adopt]; rfl, _, rfl⟩
end Co

set_option linter.all false
set_option maxRecDepth 100000
set_option autoImplicit false
/-! Core35: the program's border. -/
namespace Co
open PySem

def sidesBody : List S := [(.ret (.lc (.nm 1) (.range [(.bi .len [(.var 0)])]) none (.bin .add (.sl (.var 0) none (some (.var 1))) (.sl (.var 0) (some (.bin .add (.var 1) (.int 1))) none)) [("k", 1)]))]
def sidesD (l : Lot) : List D := (List.range l.length).map fun k => lotD (l.eraseIdx k)
theorem sides_of_ok {fns : List Fn} {f j : Nat} {fn : Fn} {h : Hh} {l : Lot} (hf : fns[f]? = some fn) (hb : fn.body = sidesBody) (hN : fn.N.length = 2) (hnp : fn.np = 1) (hl : l.length ≤ 1000000) :
    CQ (callN fns (j + 1)) f [lotD l] h fun d h' => d = .ref h.length ∧ h' = h ++ [.lst (sidesD l)] := by
  refine q_fn hf hnp.symm ?_
  rw [hb, hN]
  show SsQ (callN fns j) sidesBody [some (lotD l), none] h _
  obtain ⟨h', e, rfl⟩ := lc_fm (test := fun ρ h => evT (callN fns j) none ρ h) (elt := fun ρ h => asD (ev (callN fns j) (.bin .add (.sl (.var 0) none (some (.var 1))) (.sl (.var 0) (some (.bin .add (.var 1) (.int 1))) none)) ρ h)) (tg := .nm 1)
    (w := ⟨(List.range l.length).map fun k : Nat => D.int (k : Int), none, none⟩) (ρ := wipeR [some (lotD l), none] [("k", 1)]) (fun k : Nat => D.int (k : Int)) (fun k => some (lotD (l.eraseIdx k))) (fun h1 => h1 = h) (List.range l.length) [] h rfl (fun _ _ => rfl) (by simp; omega) (by
      rintro k hk h1 rfl
      refine ⟨_, rfl, true, h1, rfl, fun _ => ?_, fun hz => nomatch hz⟩
      have : EQ (callN fns j) (.bin .add (.sl (.var 0) none (some (.var 1))) (.sl (.var 0) (some (.bin .add (.var 1) (.int 1))) none)) [some (lotD l), some (.int (k : Int))] h1 fun r h2 => r = .v (lotD (l.eraseIdx k)) ∧ h2 = h1 :=
        side_ok rfl rfl (by omega) ⟨rfl, rfl⟩
      obtain ⟨r, h2, e2, rfl, rfl⟩ := this
      refine ⟨_, _, ?_, rfl, rfl⟩
      show asD (ev _ _ [some (lotD l), some (.int (k : Int))] _) = _
      rw [e2]; rfl)
  refine q_cons (q_ret (q_lc (q_wrange (q_rscons (q_bi (q_rscons (q_var rfl (q_rsnil ⟨_, _, len_lot, q_rsnil ⟨_, range_nat hl, _, _, e, ?_⟩⟩))))))))
  have : ([] : List D) ++ (List.range l.length).filterMap (fun k => some (lotD (l.eraseIdx k))) = sidesD l := by
    rw [List.nil_append]; unfold sidesD; rw [← List.filterMap_eq_map]; rfl
  rw [this]
  exact ⟨rfl, rfl⟩
theorem enum_sides (l : Lot) : enumD (sidesD l) = (List.range l.length).map fun k : Nat => D.tup [.int (k : Int), lotD (l.eraseIdx k)] := by
  unfold enumD sidesD
  apply List.ext_getElem
  · simp
  · intro i h1 h2
    simp
theorem mul_sgn {hh : Hh} {k : Nat} {x : Int} : binop .mul hh (.v (.int x)) (.v (.int (1 - 2 * ((k : Int) % 2)))) = some (.v (.int (sgn k x))) := by
  rw [mul_c (by omega)]
  congr 2
  unfold sgn
  by_cases h : k % 2 = 0
  · rw [if_pos h, show (1 - 2 * ((k : Int) % 2)) = 1 by omega, Int.mul_one]
  · rw [if_neg h, show (1 - 2 * ((k : Int) % 2)) = -1 by omega]; congr 1; omega
def sideBody : List S := [(.six (.var 1) (.var 5) (.bin .add (.me .get (.var 1) [(.var 5), (.int 0)]) (.bin .mul (.var 3) (.bin .sub (.int 1) (.bin .mul (.int 2) (.bin .mod (.var 4) (.int 2)))))))]
def bordBody (si ti : Nat) : List S := [(.asg (.nm 1) .dnew), (.for (.tp [(.nm 2), (.nm 3)]) (.of (.var 0)) [(.for (.tp [(.nm 4), (.nm 5)]) (.enum (.call si [(.var 2)])) sideBody)]), (.ret (.call ti [(.var 1)]))]
theorem side_step_ok {cl : Call} {d : D} {h g : Hh} {l : Lot} {x : Int} {acc : Num} {k : Nat} (ha : acc.length < 16777216) :
    SsQ cl sideBody [some d, some (.ref h.length), some (lotD l), some (.int x), some (.int k), some (lotD (l.eraseIdx k))] (h ++ .dct (numD acc) :: g) fun o => o = .nx [some d, some (.ref h.length), some (lotD l), some (.int x), some (.int k), some (lotD (l.eraseIdx k))] (h ++ .dct (numD (sideStep x l acc k)) :: g) := by
  have hs := set_num (h := h ++ Cell.dct (numD acc) :: g) (n := h.length) (l := l.eraseIdx k) (x := (aget acc (l.eraseIdx k)).getD 0 + sgn k x) mid_look ha
  refine q_cons (q_six (q_bin (q_me (q_var rfl ⟨_, rfl, q_rscons (q_var rfl (q_rscons (q_int (q_rsnil ⟨rfl, _, _, get_num mid_look, ?_⟩))))⟩))))
  refine q_bin (q_var rfl (q_bin (q_int (q_bin (q_int (q_bin (q_var rfl (q_int ⟨_, mod_c (by decide), _, mul_c (by omega), _, rfl, _, mul_sgn, _, rfl, ?_⟩))))))))
  refine q_var rfl ⟨_, rfl, q_var rfl ⟨_, rfl, _, hs, q_nil ?_⟩⟩
  rw [mid_set]
  rfl
theorem sides_loop_ok {fns : List Fn} {si k : Nat} {sn : Fn} (hsf : fns[si]? = some sn) (hsb : sn.body = sidesBody) (hsN : sn.N.length = 2) (hsp : sn.np = 1) {d : D} {u v : Option D} {h g : Hh} {l : Lot} {x : Int} {acc : Num} (hl : l.length ≤ 1000000) (ha : acc.length + l.length < 16777216) :
    ∃ u' v' g', SsQ (callN fns (k + 1)) [.for (.tp [(.nm 4), (.nm 5)]) (.enum (.call si [(.var 2)])) sideBody] [some d, some (.ref h.length), some (lotD l), some (.int x), u, v] (h ++ .dct (numD acc) :: g)
      fun o => o = .nx [some d, some (.ref h.length), some (lotD l), some (.int x), u', v'] (h ++ .dct (numD ((List.range l.length).foldl (sideStep x l) acc)) :: g') := by
  have hg : ∀ acc' : Num, look (h ++ .dct (numD acc') :: (g ++ [.lst (sidesD l)])) (h ++ .dct (numD acc) :: g).length = some (.lst (sidesD l)) := fun acc' => by
    simp [look]
  obtain ⟨ρ', h', e, ⟨u', v', rfl⟩, rfl⟩ := for_ls (body := fun ρ h => exs (callN fns (k + 1)) sideBody ρ h) (tg := .tp [.nm 4, .nm 5]) (w := ⟨enumD (sidesD l), some ((h ++ Cell.dct (numD acc) :: g).length, sidesD l), none⟩) (fun k : Nat => D.tup [.int (k : Int), lotD (l.eraseIdx k)])
    (fun done ρ h1 => (∃ u v, ρ = [some d, some (.ref h.length), some (lotD l), some (.int x), u, v]) ∧ h1 = h ++ .dct (numD (done.foldl (sideStep x l) acc)) :: (g ++ [.lst (sidesD l)])) (List.range l.length) [] [some d, some (.ref h.length), some (lotD l), some (.int x), u, v] (h ++ .dct (numD acc) :: (g ++ [.lst (sidesD l)])) ⟨⟨u, v, rfl⟩, rfl⟩ (by
      rintro ls1 ρ h1 ⟨⟨u, v, rfl⟩, rfl⟩
      simp only [Walk.ok, stays, hg]
      simp) (by
      rintro ls1 k ls2 hls ρ h1 ⟨⟨u, v, rfl⟩, rfl⟩
      simp only [List.nil_append] at hls
      have hlen := sides_len x l ls1 acc
      have h2 : ls1.length ≤ l.length := by
        have := congrArg List.length hls
        simp at this
        omega
      obtain ⟨o, e1, rfl⟩ := side_step_ok (cl := callN fns (_ + 1)) (d := d) (h := h) (g := g ++ [.lst (sidesD l)]) (l := l) (x := x) (acc := ls1.foldl (sideStep x l) acc) (k := k) (by omega)
      refine ⟨_, rfl, _, e1, _, _, rfl, ⟨_, _, rfl⟩, ?_⟩
      simp only [List.foldl_append, List.foldl_cons, List.foldl_nil])
  refine ⟨u', v', g ++ [.lst (sidesD l)], q_cons (q_for (q_wenum (q_call (q_escons (q_var rfl (q_esnil ((sides_of_ok hsf hsb hsN hsp hl).mono ?_)))))))⟩
  rintro d' h' ⟨rfl, rfl⟩
  have hh : (h ++ Cell.dct (numD acc) :: g) ++ [.lst (sidesD l)] = h ++ .dct (numD acc) :: (g ++ [.lst (sidesD l)]) := by simp
  simp only [adopt]
  rw [hh]
  have hgd : guardOf (h ++ Cell.dct (numD acc) :: (g ++ [.lst (sidesD l)])) (.v (.ref (h ++ Cell.dct (numD acc) :: g).length)) = some ((h ++ Cell.dct (numD acc) :: g).length, sidesD l) := by
    simp only [guardOf]
    rw [hg]
  refine ⟨sidesD l, by simp only [listOf]; rw [hg], ?_⟩
  rw [← enum_sides] at e
  rw [hgd]
  exact ⟨_, e, q_nil rfl⟩
theorem border_of_ok {fns : List Fn} {f si ti k c : Nat} {fn sn tn : Fn} {h : Hh} {A : Num} (hsf : fns[si]? = some sn) (hsb : sn.body = sidesBody) (hsN : sn.N.length = 2) (hsp : sn.np = 1) (ht : fns[ti]? = some tn) (htb : tn.body = toldBody) (htN : tn.N.length = 2) (htp : tn.np = 1) (hf : fns[f]? = some fn) (hb : fn.body = bordBody si ti) (hN : fn.N.length = 6) (hnp : fn.np = 1)
    (hc : ∀ p ∈ A, p.1.length ≤ c) (hl : A.length * c + c ≤ 1000000) : CQ (callN fns (k + 2)) f [chD A] h fun d h' => d = chD (told (bordA A)) ∧ ∃ g, h' = h ++ g := by
  refine q_fn hf hnp.symm ?_
  rw [hb, hN]
  show SsQ (callN fns (k + 1)) (bordBody si ti) [some (chD A), none, none, none, none, none] h _
  refine q_cons (q_asg (q_dnew ⟨_, rfl, ?_⟩))
  refine q_cons (q_for (q_wof (q_var rfl ⟨⟨A.map pairD, none, none⟩, rfl, ?_⟩)))
  obtain ⟨ρ', h', e, ⟨x, y, u, v, rfl⟩, g, rfl⟩ := for_ls (body := fun ρ h => exs (callN fns (k + 1)) [(.for (.tp [(.nm 4), (.nm 5)]) (.enum (.call si [(.var 2)])) sideBody)] ρ h) (tg := .tp [.nm 2, .nm 3]) (w := ⟨A.map pairD, none, none⟩) pairD
    (fun done ρ h1 => (∃ x y u v, ρ = [some (chD A), some (.ref h.length), x, y, u, v]) ∧ ∃ g, h1 = h ++ .dct (numD (done.foldl lotStep [])) :: g) A [] [some (chD A), some (.ref h.length), none, none, none, none] (h ++ [.dct []]) ⟨⟨none, none, none, none, rfl⟩, [], rfl⟩ (fun _ _ _ _ => rfl) (by
      rintro ls1 p ls2 hls ρ h1 ⟨⟨x, y, u, v, rfl⟩, g, rfl⟩
      simp only [List.nil_append] at hls
      have hm : ∀ q ∈ ls1, q.1.length ≤ c := fun q hq => hc q (by rw [hls]; exact List.mem_append_left _ hq)
      have hp : p.1.length ≤ c := hc p (by rw [hls]; simp)
      have hlen := lots_len c ls1 [] hm
      have h2 : ls1.length * c ≤ A.length * c := Nat.mul_le_mul_right _ (by rw [hls]; simp)
      simp only [List.length_nil, Nat.zero_add] at hlen
      obtain ⟨u', v', g', o, e1, rfl⟩ := sides_loop_ok (k := k) hsf hsb hsN hsp (d := chD A) (u := u) (v := v) (h := h) (g := g) (l := p.1) (x := p.2) (acc := ls1.foldl lotStep []) (by omega) (by omega)
      refine ⟨_, rfl, _, e1, _, _, rfl, ⟨_, _, _, _, rfl⟩, g', ?_⟩
      simp only [List.foldl_append, List.foldl_cons, List.foldl_nil]
      rfl)
  refine ⟨_, e, ?_⟩
  refine q_cons (q_ret (q_call (q_escons (q_var rfl (q_esnil ((told_ok ht htb htN htp mid_look ?_).mono ?_))))))
  · have := lots_len c A [] hc; simp only [List.length_nil] at this; simp only [List.nil_append]; omega
  · rintro d h' ⟨rfl, rfl⟩
    exact ⟨by simp [adopt]; rfl, _, rfl⟩
end Co

set_option linter.all false
set_option maxRecDepth 100000
set_option autoImplicit false
/-! Core36: readings, lots of one size. -/
namespace Co
open PySem

theorem ints_ok : ∀ ns : List Int, intsD (ns.map D.int) = some ns
  | [] => rfl
  | n :: ns => by rw [List.map_cons, intsD, ints_ok ns]; rfl
def readsA (A B : Num) : Int := (B.map fun p => p.2 * (aget A p.1).getD 0).sum
def readBody : List S := [(.asg (.nm 2) (.bi .dict [(.var 0)])), (.ret (.bi .sum [(.lc (.tp [(.nm 3), (.nm 4)]) (.of (.var 1)) none (.bin .mul (.var 4) (.me .get (.var 2) [(.var 3), (.int 0)])) [("lot", 3), ("number", 4)])]))]
theorem aget_in {A : Num} {l : Lot} {v : Int} (h : aget A l = some v) : (l, v) ∈ A := by
  unfold aget at h
  cases e : A.find? fun p => decide (p.1 = l) with
  | none => rw [e] at h; exact nomatch h
  | some p =>
    rw [e] at h
    have h1 := List.mem_of_find?_eq_some e
    have h2 : p.1 = l := by simpa using List.find?_some e
    obtain ⟨a, b⟩ := p
    cases h2
    cases h
    exact h1
theorem reading_ok {fns : List Fn} {f k : Nat} {fn : Fn} {h : Hh} {A B : Num} (hf : fns[f]? = some fn) (hb : fn.body = readBody) (hN : fn.N.length = 5) (hnp : fn.np = 2) (hA : (A.map (·.1)).Nodup) (hv : ∀ p ∈ A, -(2 ^ 64) < p.2 ∧ p.2 < 2 ^ 64) (hl : B.length ≤ 16777216) :
    CQ (callN fns (k + 1)) f [chD A, chD B] h fun d h' => d = .int (readsA A B) ∧ h' = h ++ [.dct (numD A)] := by
  refine q_fn hf hnp.symm ?_
  rw [hb, hN]
  show SsQ (callN fns k) readBody [some (chD A), some (chD B), none, none, none] h _
  refine q_cons (q_asg (q_bi (q_rscons (q_var rfl (q_rsnil ⟨_, _, dict_chain hA, _, rfl, ?_⟩)))))
  have hg : ∀ l : Lot, -(2 ^ 64) < (aget A l).getD 0 ∧ (aget A l).getD 0 < 2 ^ 64 := fun l => by
    cases e : aget A l with
    | none => exact ⟨by decide, by decide⟩
    | some v => exact hv _ (aget_in e)
  obtain ⟨h', e, rfl⟩ := lc_fm (test := fun ρ h => evT (callN fns k) none ρ h) (elt := fun ρ h => asD (ev (callN fns k) (.bin .mul (.var 4) (.me .get (.var 2) [(.var 3), (.int 0)])) ρ h)) (tg := .tp [.nm 3, .nm 4])
    (w := ⟨B.map pairD, none, none⟩) (ρ := wipeR [some (chD A), some (chD B), some (.ref h.length), none, none] [("lot", 3), ("number", 4)]) pairD (fun p => some (.int (p.2 * (aget A p.1).getD 0))) (fun h1 => h1 = h ++ [.dct (numD A)]) B [] (h ++ [.dct (numD A)]) rfl (fun _ _ => rfl) (by simp; omega) (by
      rintro p hp h1 rfl
      refine ⟨_, rfl, true, _, rfl, fun _ => ?_, fun hz => nomatch hz⟩
      have : EQ (callN fns k) (.bin .mul (.var 4) (.me .get (.var 2) [(.var 3), (.int 0)])) [some (chD A), some (chD B), some (.ref h.length), some (lotD p.1), some (.int p.2)] (h ++ [.dct (numD A)]) fun r h2 => r = .v (.int (p.2 * (aget A p.1).getD 0)) ∧ h2 = h ++ [.dct (numD A)] :=
        q_bin (q_var rfl (q_me (q_var rfl ⟨_, rfl, q_rscons (q_var rfl (q_rscons (q_int (q_rsnil ⟨rfl, _, _, get_num last_look, _, mul_c (hg _), rfl, rfl⟩))))⟩)))
      obtain ⟨r, h2, e2, rfl, rfl⟩ := this
      refine ⟨_, _, ?_, rfl, rfl⟩
      show asD (ev _ _ [some (chD A), some (chD B), some (.ref h.length), some (lotD p.1), some (.int p.2)] _) = _
      rw [e2]; rfl)
  have hsum : bltn .sum (h ++ [.dct (numD A)]) [.f (B.map fun p => D.int (p.2 * (aget A p.1).getD 0))] = some (.v (.int (readsA A B)), h ++ [.dct (numD A)]) := by
    have : (B.map fun p => D.int (p.2 * (aget A p.1).getD 0)) = (B.map fun p => p.2 * (aget A p.1).getD 0).map D.int := by rw [List.map_map]; rfl
    simp only [bltn, biSum, ints1, listOf, this, ints_ok]
    rfl
  refine q_cons (q_ret (q_bi (q_rscons (q_lc (q_wof (q_var rfl ⟨⟨B.map pairD, none, none⟩, rfl, _, _, e, q_rsnil ⟨.v (.int (readsA A B)), h ++ [.dct (numD A)], ?_, rfl, rfl⟩⟩))))))
  rw [← hsum, List.nil_append]
  congr 3
  rw [← List.filterMap_eq_map]; rfl
/-- a family as a value -/
def famD (m : Int) (F : List Lot) : D := .tup [.int m, .tup (F.map lotD)]
def sizedBody : List S := [(.ret (.lc (.nm 2) (.of (.ix (.var 0) (.int 1))) (some (.cmp .eq (.bi .len [(.var 2)]) (.var 1))) (.var 2) [("lot", 2)]))]
def sizedA (F : List Lot) (s : Int) : List Lot := F.filter fun l => decide ((l.length : Int) = s)
theorem sized_fm (s : Int) : ∀ F : List Lot, F.filterMap (fun l => if (l.length : Int) = s then some (lotD l) else none) = (sizedA F s).map lotD
  | [] => rfl
  | l :: F => by
    have ih := sized_fm s F
    unfold sizedA at ih ⊢
    by_cases hs : (l.length : Int) = s
    · rw [List.filterMap_cons, if_pos hs, List.filter_cons, if_pos (decide_eq_true hs), List.map_cons, ← ih]
    · rw [List.filterMap_cons, if_neg hs, List.filter_cons, if_neg (by simpa using hs), ← ih]
theorem fam_ix {h : Hh} {m : Int} {F : List Lot} : item h (.v (famD m F)) (.v (.int 1)) = some (.tup (F.map lotD)) := rfl
theorem sized_lc {cl : Call} {m s : Int} {F : List Lot} {h : Hh} {o : Option D} (hl : F.length ≤ 16777216) : EQ cl (.lc (.nm 2) (.of (.ix (.var 0) (.int 1))) (some (.cmp .eq (.bi .len [(.var 2)]) (.var 1))) (.var 2) [("lot", 2)]) [some (famD m F), some (.int s), o] h fun r h' => r = .f ((sizedA F s).map lotD) ∧ h' = h := by
  obtain ⟨h', e, rfl⟩ := lc_fm (test := fun ρ h => evT cl (some (.cmp .eq (.bi .len [(.var 2)]) (.var 1))) ρ h) (elt := fun ρ h => asD (ev cl (.var 2) ρ h)) (tg := .nm 2)
    (w := ⟨F.map lotD, none, none⟩) (ρ := wipeR [some (famD m F), some (.int s), o] [("lot", 2)]) lotD (fun l => if (l.length : Int) = s then some (lotD l) else none) (fun h1 => h1 = h) F [] h rfl (fun _ _ => rfl) (by simp; omega) (by
      rintro l hl h1 rfl
      refine ⟨_, rfl, decide ((l.length : Int) = s), h1, ?_, fun hz => ?_, fun hz => ?_⟩
      · have : TQ cl (some (.cmp .eq (.bi .len [(.var 2)]) (.var 1))) [some (famD m F), some (.int s), some (lotD l)] h1 fun b h2 => b = decide ((l.length : Int) = s) ∧ h2 = h1 :=
          q_tsome (q_cmp (q_bi (q_rscons (q_var rfl (q_rsnil ⟨_, _, len_lot, q_var rfl ⟨_, int_eq, _, rfl, rfl, rfl⟩⟩)))))
        obtain ⟨b, h2, e2, rfl, rfl⟩ := this
        exact e2
      · exact ⟨lotD l, h1, rfl, by rw [if_pos (of_decide_eq_true hz)], rfl⟩
      · exact ⟨by rw [if_neg (of_decide_eq_false hz)], rfl⟩)
  refine q_lc (q_wof (q_ix (q_var rfl (q_int ⟨_, fam_ix, ⟨F.map lotD, none, none⟩, rfl, _, _, e, ?_, rfl⟩))))
  rw [List.nil_append]
  congr 1
  exact sized_fm s F
theorem law_sized_ok {fns : List Fn} {f k : Nat} {fn : Fn} {h : Hh} {m s : Int} {F : List Lot} (hf : fns[f]? = some fn) (hb : fn.body = sizedBody) (hN : fn.N.length = 3) (hnp : fn.np = 2) (hl : F.length ≤ 16777216) :
    CQ (callN fns (k + 1)) f [famD m F, .int s] h fun d h' => d = .ref h.length ∧ h' = h ++ [.lst ((sizedA F s).map lotD)] := by
  refine q_fn hf hnp.symm ?_
  rw [hb, hN]
  show SsQ (callN fns k) sizedBody [some (famD m F), some (.int s), none] h _
  obtain ⟨r, h2, e, rfl, rfl⟩ := sized_lc (cl := callN fns k) (m := m) (s := s) (h := h) (o := none) hl
  exact q_cons (q_ret ⟨_, _, e, rfl, rfl⟩)
def lotsBody : List S := [(.ret (.bi .tuple [(.lc (.nm 2) (.of (.ix (.var 0) (.int 1))) (some (.cmp .eq (.bi .len [(.var 2)]) (.var 1))) (.var 2) [("lot", 2)])]))]
theorem lots_of_ok {fns : List Fn} {f k : Nat} {fn : Fn} {h : Hh} {m s : Int} {F : List Lot} (hf : fns[f]? = some fn) (hb : fn.body = lotsBody) (hN : fn.N.length = 3) (hnp : fn.np = 2) (hl : F.length ≤ 16777216) :
    CQ (callN fns (k + 1)) f [famD m F, .int s] h fun d h' => d = .tup ((sizedA F s).map lotD) ∧ h' = h := by
  refine q_fn hf hnp.symm ?_
  rw [hb, hN]
  show SsQ (callN fns k) lotsBody [some (famD m F), some (.int s), none] h _
  obtain ⟨r, h2, e, rfl, rfl⟩ := sized_lc (cl := callN fns k) (m := m) (s := s) (h := h) (o := none) hl
  exact q_cons (q_ret (q_bi (q_rscons ⟨_, _, e, q_rsnil ⟨_, _, rfl, rfl, rfl⟩⟩)))
end Co

set_option linter.all false
set_option maxRecDepth 100000
set_option autoImplicit false
/-! Core37: equality of chains, closed chains, steps. -/
namespace Co
open PySem

mutual
/-- tuples of ints, however deep -/
def nat? : D → Bool
  | .int _ => true
  | .tup xs => nats xs
  | _ => false
def nats : List D → Bool
  | [] => true
  | x :: xs => nat? x && nats xs
end
mutual
theorem nat_pure : ∀ d : D, nat? d = true → pure? d = true ∧ (py d).canLay0 = true
  | .int i, _ => ⟨rfl, rfl⟩
  | .tup xs, h => by
    have := nats_pure xs (by simpa only [nat?] using h)
    exact ⟨by simp only [pure?, this.1], by simp only [py, PyData.canLay0, this.2]⟩
  | .non, h => nomatch h
  | .bl _, h => nomatch h
  | .str _, h => nomatch h
  | .fl _, h => nomatch h
  | .ref _, h => nomatch h
theorem nats_pure : ∀ ds : List D, nats ds = true → pures ds = true ∧ PyData.canLayAll0 (pys ds) = true
  | [], _ => ⟨rfl, rfl⟩
  | d :: ds, h => by
    simp only [nats, Bool.and_eq_true] at h
    have h1 := nat_pure d h.1
    have h2 := nats_pure ds h.2
    exact ⟨by simp only [pures, h1.1, h2.1, Bool.and_self], by simp only [pys, PyData.canLayAll0, h1.2, h2.2, Bool.and_self]⟩
end
mutual
theorem nat_eqv : ∀ a b : D, nat? a = true → nat? b = true → PyData.eqv (py a) (py b) = true → a = b
  | .int i, .int j, _, _, e => by
    simp [py, PyData.eqv] at e
    rw [e]
  | .tup xs, .tup ys, ha, hb, e => by
    simp only [py, PyData.eqv] at e
    rw [nats_eqv xs ys (by simpa only [nat?] using ha) (by simpa only [nat?] using hb) e]
  | .int i, .tup ys, _, _, e => by simp [py, PyData.eqv] at e
  | .tup xs, .int j, _, _, e => by simp [py, PyData.eqv] at e
  | .non, _, h, _, _ => nomatch h
  | .bl _, _, h, _, _ => nomatch h
  | .str _, _, h, _, _ => nomatch h
  | .fl _, _, h, _, _ => nomatch h
  | .ref _, _, h, _, _ => nomatch h
  | _, .non, _, h, _ => nomatch h
  | _, .bl _, _, h, _ => nomatch h
  | _, .str _, _, h, _ => nomatch h
  | _, .fl _, _, h, _ => nomatch h
  | _, .ref _, _, h, _ => nomatch h
theorem nats_eqv : ∀ as bs : List D, nats as = true → nats bs = true → PyData.eqvAll (pys as) (pys bs) = true → as = bs
  | [], [], _, _, _ => rfl
  | [], b :: bs, _, _, e => by simp [pys, PyData.eqvAll] at e
  | a :: as, [], _, _, e => by simp [pys, PyData.eqvAll] at e
  | a :: as, b :: bs, ha, hb, e => by
    simp only [nats, Bool.and_eq_true] at ha hb
    simp only [pys, PyData.eqvAll, Bool.and_eq_true] at e
    rw [nat_eqv a b ha.1 hb.1 e.1, nats_eqv as bs ha.2 hb.2 e.2]
end
theorem nat_eq {a b : D} (ha : nat? a = true) (hb : nat? b = true) : PyData.eqv (py a) (py b) = decide (a = b) := by
  by_cases e : a = b
  · subst e
    rw [PySem.SeqAt.eqv_refl _ (nat_pure a ha).2]; simp
  · rw [decide_eq_false e]
    cases h : PyData.eqv (py a) (py b) with
    | false => rfl
    | true => exact absurd (nat_eqv a b ha hb h) e
theorem nats_all {α : Type} (f : α → D) (hf : ∀ a, nat? (f a) = true) : ∀ ls : List α, nats (ls.map f) = true
  | [] => rfl
  | a :: ls => by simp only [List.map_cons, nats, hf a, nats_all f hf ls, Bool.and_self]
theorem nat_lot (l : Lot) : nat? (lotD l) = true := by rw [lotD, nat?]; exact nats_all _ (fun _ => rfl) l
theorem nat_pair (p : Lot × Int) : nat? (pairD p) = true := by simp only [pairD, nat?, nats, nat_lot, Bool.and_self]
theorem nat_ch (A : Num) : nat? (chD A) = true := by rw [chD, nat?]; exact nats_all _ nat_pair A
theorem depth_all (n : Nat) : ∀ ds : List D, (∀ d ∈ ds, (py d).depth ≤ n) → PyData.depthAll (pys ds) ≤ n
  | [], _ => by simp [pys, PyData.depthAll]
  | d :: ds, h => by
    have h1 := h d List.mem_cons_self
    have h2 := depth_all n ds fun x hx => h x (List.mem_cons_of_mem _ hx)
    simp only [pys, PyData.depthAll]
    omega
theorem depth_tup {n : Nat} {ds : List D} (h : ∀ d ∈ ds, (py d).depth ≤ n) : (py (.tup ds)).depth ≤ n + 1 := by
  have := depth_all n ds h
  simp only [py, PyData.depth]
  omega
theorem depth_lot (l : Lot) : (py (lotD l)).depth ≤ 2 := by
  refine depth_tup fun d hd => ?_
  obtain ⟨i, _, rfl⟩ := List.mem_map.mp hd
  simp [py, PyData.depth]
theorem depth_pair (p : Lot × Int) : (py (pairD p)).depth ≤ 3 := by
  refine depth_tup fun d hd => ?_
  rcases List.mem_cons.mp hd with rfl | hd
  · exact depth_lot _
  · rcases List.mem_cons.mp hd with rfl | hd
    · simp [py, PyData.depth]
    · exact nomatch hd
theorem depth_ch (A : Num) : (py (chD A)).depth ≤ 4 := by
  refine depth_tup fun d hd => ?_
  obtain ⟨i, _, rfl⟩ := List.mem_map.mp hd
  exact depth_pair i
/-- == of two such values -/
theorem eq_nat {h : Hh} {a b : D} (ha : nat? a = true) (hb : nat? b = true) (da : (py a).depth ≤ 64) (db : (py b).depth ≤ 64) : cmpop .eq h (.v a) (.v b) = some (decide (a = b)) := by
  have p1 := nat_pure a ha
  have p2 := nat_pure b hb
  have hs : (SeqAt.shaped (py a) && SeqAt.shaped (py b)) = true := by
    unfold SeqAt.shaped
    simp only [p1.2, p2.2, da, db, decide_true, Bool.and_self]
  have hg : eqGen h (.v a) (.v b) = some (decide (a = b)) := by
    simp only [eqGen, datR, dat, p1.1, p2.1, if_true]
    rw [if_pos hs, nat_eq ha hb]
  simp only [cmpop, eqRes]
  cases a <;> first | exact hg | (exact nomatch ha)
theorem chD_inj {A B : Num} (e : chD A = chD B) : A = B := by
  unfold chD at e
  injection e with e
  refine (List.map_inj_right (f := pairD) ?_).mp e
  rintro ⟨a, x⟩ ⟨b, y⟩ e
  simp only [pairD] at e
  injection e with e
  injection e with e1 e2
  injection e2 with e2 _
  injection e2 with e2
  rw [lotD_inj e1, e2]
theorem eq_ch {h : Hh} {A B : Num} : cmpop .eq h (.v (chD A)) (.v (chD B)) = some (decide (A = B)) := by
  rw [eq_nat (nat_ch A) (nat_ch B) (by have := depth_ch A; omega) (by have := depth_ch B; omega)]
  congr 1
  exact decide_eq_decide.mpr ⟨chD_inj, fun e => by rw [e]⟩
end Co

set_option linter.all false
set_option maxRecDepth 100000
set_option autoImplicit false
/-! Core38: is_closed, step_up. -/
namespace Co
open PySem

/-- a border at a place -/
def Bord (fns : List Fn) (b : Nat) : Prop := ∀ (k c : Nat) (h : Hh) (A : Num), (∀ p ∈ A, p.1.length ≤ c) → A.length * c + c ≤ 1000000 → CQ (callN fns (k + 2)) b [chD A] h fun d h' => d = chD (told (bordA A)) ∧ ∃ g, h' = h ++ g
def Reads (fns : List Fn) (r : Nat) : Prop := ∀ (k : Nat) (h : Hh) (A B : Num), (A.map (·.1)).Nodup → (∀ p ∈ A, -(2 ^ 64) < p.2 ∧ p.2 < 2 ^ 64) → B.length ≤ 16777216 → CQ (callN fns (k + 1)) r [chD A, chD B] h fun d h' => d = .int (readsA A B) ∧ h' = h ++ [.dct (numD A)]
def Told (fns : List Fn) (t : Nat) : Prop := ∀ (k n : Nat) (h : Hh) (A : Num), look h n = some (.dct (numD A)) → A.length ≤ 1000000 → CQ (callN fns (k + 1)) t [.ref n] h fun d h' => d = chD (told A) ∧ h' = h
def Lots (fns : List Fn) (s : Nat) : Prop := ∀ (k : Nat) (h : Hh) (m z : Int) (F : List Lot), F.length ≤ 16777216 → CQ (callN fns (k + 1)) s [famD m F, .int z] h fun d h' => d = .tup ((sizedA F z).map lotD) ∧ h' = h
def Sized (fns : List Fn) (s : Nat) : Prop := ∀ (k : Nat) (h : Hh) (m z : Int) (F : List Lot), F.length ≤ 16777216 → CQ (callN fns (k + 1)) s [famD m F, .int z] h fun d h' => d = .ref h.length ∧ h' = h ++ [.lst ((sizedA F z).map lotD)]

def closedBody (b : Nat) : List S := [(.ret (.cmp .eq (.call b [(.var 0)]) (.tup [])))]
theorem closed_ok {fns : List Fn} {f b k c : Nat} {fn : Fn} {h : Hh} {A : Num} (B : Bord fns b) (hf : fns[f]? = some fn) (hb : fn.body = closedBody b) (hN : fn.N.length = 1) (hnp : fn.np = 1) (hc : ∀ p ∈ A, p.1.length ≤ c) (hl : A.length * c + c ≤ 1000000) :
    CQ (callN fns (k + 3)) f [chD A] h fun d h' => d = .bl (decide (told (bordA A) = [])) ∧ ∃ g, h' = h ++ g := by
  refine q_fn hf hnp.symm ?_
  rw [hb, hN]
  show SsQ (callN fns (k + 2)) (closedBody b) [some (chD A)] h _
  refine q_cons (q_ret (q_cmp (q_call (q_escons (q_var rfl (q_esnil ((B k c h A hc hl).mono ?_)))))))
  rintro d h' ⟨rfl, g, rfl⟩
  exact q_tup (q_esnil ⟨rfl, _, eq_ch (B := []), rfl, g, rfl⟩)

def stepA (F : List Lot) (s : Int) (row : Num) : Num := (sizedA F s).map fun l => (l, readsA row (told (bordA [(l, 1)])))
def stepBody (si ti ri bi : Nat) : List S := [(.asg (.nm 3) (.call si [(.var 0), (.bin .add (.var 1) (.int 1))])), (.ret (.call ti [(.bi .dict [(.lc (.nm 4) (.of (.var 3)) none (.tup [(.var 4), (.call ri [(.var 2), (.call bi [(.tup [(.tup [(.var 4), (.int 1)])])])])]) [("lot", 4)])])]))]
theorem told_len (A : Num) : (told A).length ≤ A.length := by
  unfold told
  refine Nat.le_trans (List.length_filterMap_le _ _) ?_
  rw [List.length_mergeSort, List.length_map]
  exact Nat.le_refl _
theorem dict_list {A : Num} {h : Hh} (hA : (A.map (·.1)).Nodup) : bltn .dict h [.f (A.map pairD)] = some (.v (.ref h.length), h ++ [.dct (numD A)]) := by
  have hk : dictOk (numD A) = true := by unfold dictOk; rw [num_keys]; simp
  simp only [bltn, biDict, dictBi, seqOf, pairs_num, hk, if_true, mk_num hA]
theorem step_nodup {F : List Lot} {s : Int} {row : Num} (h : F.Nodup) : ((stepA F s row).map (·.1)).Nodup := by
  have : (stepA F s row).map (·.1) = sizedA F s := by
    unfold stepA
    rw [List.map_map]
    exact List.map_id' _
  rw [this]
  exact h.filter _
theorem step_ok {fns : List Fn} {f si ti ri bi k : Nat} {fn : Fn} {h : Hh} {m z : Int} {F : List Lot} {A : Num} (hS : Lots fns si) (hT : Told fns ti) (hR : Reads fns ri) (hB : Bord fns bi) (hf : fns[f]? = some fn) (hb : fn.body = stepBody si ti ri bi) (hN : fn.N.length = 5) (hnp : fn.np = 3)
    (hF : F.Nodup) (hc : ∀ l ∈ F, l.length ≤ 1000) (hl : F.length ≤ 1000000) (hA : (A.map (·.1)).Nodup) (hv : ∀ p ∈ A, -(2 ^ 64) < p.2 ∧ p.2 < 2 ^ 64) :
    CQ (callN fns (k + 3)) f [famD m F, .int z, chD A] h fun d h' => d = chD (told (stepA F (z + 1) A)) ∧ ∃ g, h' = h ++ g := by
  refine q_fn hf hnp.symm ?_
  rw [hb, hN]
  show SsQ (callN fns (k + 2)) (stepBody si ti ri bi) [some (famD m F), some (.int z), some (chD A), none, none] h _
  refine q_cons (q_asg (q_call (q_escons (q_var rfl (q_escons (q_bin (q_var rfl (q_int ⟨_, rfl, q_esnil ((hS (k + 1) h m (z + 1) F (by omega)).mono ?_)⟩))))))))
  rintro d h' ⟨rfl, rfl⟩
  refine ⟨_, rfl, ?_⟩
  have hsl : (sizedA F (z + 1)).length ≤ F.length := List.length_filter_le _ _
  obtain ⟨h', e, g, rfl⟩ := lc_fm (test := fun ρ h => evT (callN fns (k + 2)) none ρ h) (elt := fun ρ h => asD (ev (callN fns (k + 2)) (.tup [(.var 4), (.call ri [(.var 2), (.call bi [(.tup [(.tup [(.var 4), (.int 1)])])])])]) ρ h)) (tg := .nm 4)
    (w := ⟨(sizedA F (z + 1)).map lotD, none, none⟩) (ρ := wipeR [some (famD m F), some (.int z), some (chD A), some (.tup ((sizedA F (z + 1)).map lotD)), none] [("lot", 4)]) lotD (fun l => some (pairD (l, readsA A (told (bordA [(l, 1)]))))) (fun h1 => ∃ g, h1 = h' ++ g) (sizedA F (z + 1)) [] h' ⟨[], by simp⟩ (fun _ _ => rfl) (by simp; omega) (by
      rintro l hl' h1 ⟨g, rfl⟩
      refine ⟨_, rfl, true, _, rfl, fun _ => ?_, fun hz => nomatch hz⟩
      have hll : l.length ≤ 1000 := hc l (List.mem_filter.mp hl').1
      have hc1 : ∀ p ∈ [((l, 1) : Lot × Int)], p.1.length ≤ 1000 := fun p hp => by
        rw [List.mem_singleton.mp hp]; exact hll
      have hbl := lots_len 1000 [((l, 1) : Lot × Int)] [] hc1
      have htl := told_len (bordA [(l, 1)])
      have : EQ (callN fns (k + 2)) (.tup [(.var 4), (.call ri [(.var 2), (.call bi [(.tup [(.tup [(.var 4), (.int 1)])])])])]) [some (famD m F), some (.int z), some (chD A), some (.tup ((sizedA F (z + 1)).map lotD)), some (lotD l)] (h' ++ g) fun r h2 => r = .v (pairD (l, readsA A (told (bordA [(l, 1)])))) ∧ ∃ g, h2 = h' ++ g := by
        refine q_tup (q_escons (q_var rfl (q_escons (q_call (q_escons (q_var rfl (q_escons (q_call (q_escons (q_tup (q_escons (q_tup (q_escons (q_var rfl (q_escons (q_int (q_esnil ⟨rfl, q_esnil ⟨rfl, q_esnil ((hB k 1000 _ [(l, 1)] hc1 (by simp)).mono ?_)⟩⟩)))))))))))))))))
        rintro d h2 ⟨rfl, g2, rfl⟩
        refine q_esnil ((hR (k + 1) _ A (told (bordA [(l, 1)])) hA hv ?_).mono ?_)
        · simp only [List.length_nil, List.length_singleton] at hbl
          unfold bordA at htl ⊢
          omega
        · rintro d h3 ⟨rfl, rfl⟩
          exact q_esnil ⟨rfl, rfl, by simp only [adopt, List.append_assoc]; exact ⟨_, rfl⟩⟩
      obtain ⟨r, h2, e2, rfl, g2, rfl⟩ := this
      refine ⟨_, _, ?_, rfl, ⟨g2, rfl⟩⟩
      show asD (ev _ _ [some (famD m F), some (.int z), some (chD A), some (.tup ((sizedA F (z + 1)).map lotD)), some (lotD l)] _) = _
      rw [e2]; rfl)
  have hpd : ([] : List D) ++ (sizedA F (z + 1)).filterMap (fun l => some (pairD (l, readsA A (told (bordA [(l, 1)]))))) = (stepA F (z + 1) A).map pairD := by
    rw [List.nil_append]
    unfold stepA
    rw [List.map_map, ← List.filterMap_eq_map]
    rfl
  rw [hpd] at e
  refine q_cons (q_ret (q_call (q_escons (q_bi (q_rscons (q_lc (q_wof (q_var rfl ⟨⟨(sizedA F (z + 1)).map lotD, none, none⟩, rfl, _, _, e, q_rsnil ⟨_, _, dict_list (step_nodup hF), q_esnil ((hT (k + 1) _ _ _ last_look ?_).mono ?_)⟩⟩))))))))
  · unfold stepA; rw [List.length_map]; omega
  · rintro d h2 ⟨rfl, rfl⟩
    exact ⟨rfl, by simp only [adopt, List.append_assoc]; exact ⟨_, rfl⟩⟩
end Co

set_option linter.all false
set_option maxRecDepth 100000
set_option autoImplicit false
/-! Core39: the law's chains. -/
namespace Co
open PySem

def chainBody (si pi ti : Nat) : List S := [(.asg (.nm 4) .dnew), (.for (.nm 5) (.of (.call si [(.var 1), (.var 2)])) [(.ite (.cmp .eq (.call pi [(.var 0), (.int 2)]) (.int 0)) [(.six (.var 4) (.var 5) (.bin .sub (.call pi [(.var 0), (.bin .add (.bin .mul (.int 2) (.var 3)) (.int 1))]) (.var 3)))] [])]), (.ret (.call ti [(.var 4)]))]
/-- a chain over lots, its numbers no further than far -/
structure ChIn (L : List Lot) (far : Int) (A : Num) : Prop where
  nd : (A.map (·.1)).Nodup
  mem : ∀ p ∈ A, p.1 ∈ L
  lo : ∀ p ∈ A, -far ≤ p.2
  hi : ∀ p ∈ A, p.2 ≤ far
theorem aput_in {A : Num} {l : Lot} {x : Int} {p : Lot × Int} (h : p ∈ aput A l x) : p ∈ A ∨ p = (l, x) := by
  unfold aput at h
  split at h
  · obtain ⟨q, hq, e⟩ := List.mem_map.mp h
    by_cases hl : q.1 = l
    · rw [if_pos hl] at e; right; rw [← e, hl]
    · rw [if_neg hl] at e; left; rw [← e]; exact hq
  · rcases List.mem_append.mp h with h | h
    · exact Or.inl h
    · exact Or.inr (List.mem_singleton.mp h)
theorem ChIn.put {L : List Lot} {far x : Int} {A : Num} {l : Lot} (C : ChIn L far A) (hl : l ∈ L) (h1 : -far ≤ x) (h2 : x ≤ far) : ChIn L far (aput A l x) := by
  refine ⟨aput_nodup C.nd, fun p hp => ?_, fun p hp => ?_, fun p hp => ?_⟩ <;> rcases aput_in hp with hp | rfl
  · exact C.mem p hp
  · exact hl
  · exact C.lo p hp
  · exact h1
  · exact C.hi p hp
  · exact h2
theorem law_chain_ok {fns : List Fn} {f si pi ti k s c : Nat} {fn : Fn} {h : Hh} {m z far : Int} {F : List Lot} (hS : Sized fns si) (hP : fns[pi]? = some pickFn) (hT : Told fns ti) (hf : fns[f]? = some fn) (hb : fn.body = chainBody si pi ti) (hN : fn.N.length = 6) (hnp : fn.np = 4)
    (hl : F.length ≤ 1000000) (f0 : 0 ≤ far) (f1 : far ≤ 1000000) (S0 : Src h s c) :
    CQ (callN fns (k + 2)) f [.ref s, famD m F, .int z, .int far] h fun d h' => ∃ A, d = chD (told A) ∧ ChIn (sizedA F z) far A ∧ Grow s c h h' ∧ Src h' s c := by
  refine q_fn hf hnp.symm ?_
  rw [hb, hN]
  show SsQ (callN fns (k + 1)) (chainBody si pi ti) [some (.ref s), some (famD m F), some (.int z), some (.int far), none, none] h _
  obtain ⟨hs, hc⟩ := S0.lt
  have hsl : (sizedA F z).length ≤ F.length := List.length_filter_le _ _
  refine q_cons (q_asg (q_dnew ⟨_, rfl, ?_⟩))
  show SsQ (callN fns (k + 1)) _ [some (.ref s), some (famD m F), some (.int z), some (.int far), some (.ref h.length), none] (h ++ [Cell.dct []]) _
  refine q_cons (q_for (q_wof (q_call (q_escons (q_var rfl (q_escons (q_var rfl (q_esnil ((hS k (h ++ [Cell.dct []]) m z F (by omega)).mono ?_)))))))))
  rintro d h' ⟨rfl, rfl⟩
  have hlk : look (h ++ [Cell.dct []] ++ [.lst ((sizedA F z).map lotD)]) (h ++ [Cell.dct []]).length = some (.lst ((sizedA F z).map lotD)) := last_look
  have hdk : look (h ++ [Cell.dct []] ++ [.lst ((sizedA F z).map lotD)]) h.length = some (.dct (numD [])) := by simp [look, numD]
  have hwk : walkOf (h ++ [Cell.dct []] ++ [.lst ((sizedA F z).map lotD)]) (.v (.ref (h ++ [Cell.dct []]).length)) = some ⟨(sizedA F z).map lotD, some ((h ++ [Cell.dct []]).length, (sizedA F z).map lotD), none⟩ := by
    simp only [walkOf, seqOf, guardOf, hlk]
  refine ⟨_, hwk, ?_⟩
  have hn : (h ++ [Cell.dct []]).length = h.length + 1 := by simp
  rw [hn] at hlk ⊢
  generalize hh0 : h ++ [Cell.dct []] ++ [.lst ((sizedA F z).map lotD)] = h0 at hlk hdk ⊢
  have G0 : Grow s c h h0 := by rw [← hh0, List.append_assoc]; exact .app
  have S1 : Src h0 s c := by rw [← hh0, List.append_assoc]; exact S0.app
  obtain ⟨ρ', h', e, ⟨x, rfl⟩, A, hA, hL, C, hlen, G, SS⟩ := for_ls (body := fun ρ h => exs (callN fns (k + 1)) [(.ite (.cmp .eq (.call pi [(.var 0), (.int 2)]) (.int 0)) [(.six (.var 4) (.var 5) (.bin .sub (.call pi [(.var 0), (.bin .add (.bin .mul (.int 2) (.var 3)) (.int 1))]) (.var 3)))] [])] ρ h) (tg := .nm 5) (w := ⟨(sizedA F z).map lotD, some (h.length + 1, (sizedA F z).map lotD), none⟩) lotD
    (fun done ρ h1 => (∃ x, ρ = [some (.ref s), some (famD m F), some (.int z), some (.int far), some (.ref h.length), x]) ∧ ∃ A : Num, look h1 h.length = some (.dct (numD A)) ∧ look h1 (h.length + 1) = some (.lst ((sizedA F z).map lotD)) ∧ ChIn (sizedA F z) far A ∧ A.length ≤ done.length ∧ Grow s c h h1 ∧ Src h1 s c) (sizedA F z) [] [some (.ref s), some (famD m F), some (.int z), some (.int far), some (.ref h.length), none] h0
    ⟨⟨none, rfl⟩, [], hdk, hlk, ⟨List.nodup_nil, fun _ hp => (nomatch hp), fun _ hp => (nomatch hp), fun _ hp => (nomatch hp)⟩, Nat.le_refl _, G0, S1⟩ (by
      rintro ls1 ρ h1 ⟨_, A, hA, hL, _⟩
      simp only [Walk.ok, stays, hL]
      simp) (by
      rintro ls1 l ls2 hls ρ h1 ⟨⟨x, rfl⟩, A, hA, hL, C, hlen, G, SS⟩
      simp only [List.nil_append] at hls
      have hml : l ∈ sizedA F z := by rw [hls]; simp
      have hl1 : ls1.length < (sizedA F z).length := by rw [hls]; simp
      refine ⟨_, rfl, ?_⟩
      have key : SsQ (callN fns (k + 1)) [(.ite (.cmp .eq (.call pi [(.var 0), (.int 2)]) (.int 0)) [(.six (.var 4) (.var 5) (.bin .sub (.call pi [(.var 0), (.bin .add (.bin .mul (.int 2) (.var 3)) (.int 1))]) (.var 3)))] [])] [some (.ref s), some (famD m F), some (.int z), some (.int far), some (.ref h.length), some (lotD l)] h1
          fun o => ∃ h2, o = .nx [some (.ref s), some (famD m F), some (.int z), some (.int far), some (.ref h.length), some (lotD l)] h2 ∧ ∃ A : Num, look h2 h.length = some (.dct (numD A)) ∧ look h2 (h.length + 1) = some (.lst ((sizedA F z).map lotD)) ∧ ChIn (sizedA F z) far A ∧ A.length ≤ (ls1 ++ [l]).length ∧ Grow s c h h2 ∧ Src h2 s c := by
        refine q_cons (q_if (q_cmp (q_call (q_escons (q_var rfl (q_escons (q_int (q_esnil ((pick_ok hP SS (by decide)).mono ?_)))))))))
        rintro d h2 ⟨p, rfl, p0, p1, G2, S2⟩
        have hA2 : look h2 h.length = some (.dct (numD A)) := G2.keep _ _ hA (by omega) (by omega)
        have hL2 : look h2 (h.length + 1) = some (.lst ((sizedA F z).map lotD)) := G2.keep _ _ hL (by omega) (by omega)
        refine q_int ⟨_, int_eq, _, rfl, fun _ => ?_, fun _ => q_nil (q_nil ⟨h2, rfl, A, hA2, hL2, C, by simp; omega, G.trans G2, S2⟩)⟩
        refine q_cons (q_six (q_bin (q_call (q_escons (q_var rfl (q_escons (q_bin (q_bin (q_int (q_var rfl ⟨_, mul_c (by omega), q_int ⟨_, rfl, q_esnil ((pick_ok hP S2 (by omega)).mono ?_)⟩⟩))))))))))
        rintro d h3 ⟨q, rfl, q0, q1, G3, S3⟩
        have hA3 : look h3 h.length = some (.dct (numD A)) := G3.keep _ _ hA2 (by omega) (by omega)
        have hL3 : look h3 (h.length + 1) = some (.lst ((sizedA F z).map lotD)) := G3.keep _ _ hL2 (by omega) (by omega)
        have hset := set_num (h := h3) (n := h.length) (l := l) (x := q - far) hA3 (by omega)
        refine q_var rfl ⟨_, rfl, q_var rfl ⟨_, rfl, q_var rfl ⟨_, rfl, _, hset, q_nil (q_nil ⟨_, rfl, aput A l (q - far), ?_, ?_, C.put hml (by omega) (by omega), ?_, ((G.trans G2).trans G3).setAt (Nat.le_refl _), S3.set (by omega) (by omega)⟩)⟩⟩⟩
        · unfold look at hA3 ⊢; rw [List.getElem?_set_self (List.getElem?_eq_some_iff.mp hA3).1]
        · unfold look at hL3 ⊢; rw [List.getElem?_set_ne (by omega)]; exact hL3
        · have := aput_len A l (q - far); simp; omega
      obtain ⟨o, e1, h2, rfl, q⟩ := key
      exact ⟨_, e1, _, _, rfl, ⟨_, rfl⟩, q⟩)
  refine ⟨_, e, ?_⟩
  simp only [List.nil_append] at C hlen
  refine q_cons (q_ret (q_call (q_escons (q_var rfl (q_esnil ((hT k h.length h' A hA (by omega)).mono ?_))))))
  rintro d h2 ⟨rfl, rfl⟩
  exact ⟨A, rfl, C, G, SS⟩
end Co

set_option linter.all false
set_option maxRecDepth 100000
set_option autoImplicit false
/-! Core40: the parts of a lot. -/
namespace Co
open PySem

def partStep (found : List Lot) (x : Int) : List Lot := found ++ found.map (· ++ [x])
def partsA (l : Lot) : List Lot := l.foldl partStep [[]]
theorem parts_len : ∀ (l : Lot) (acc : List Lot), (l.foldl partStep acc).length = acc.length * 2 ^ l.length
  | [], acc => by simp
  | x :: l, acc => by
    rw [List.foldl_cons, parts_len l, List.length_cons, Nat.pow_succ]
    unfold partStep
    rw [List.length_append, List.length_map, ← Nat.two_mul, Nat.mul_comm 2, Nat.mul_assoc, Nat.mul_comm 2]
def partsBody : List S := [(.asg (.nm 1) (.lst [(.tup [])])), (.for (.nm 2) (.of (.var 0)) [(.asg (.nm 1) (.bin .add (.var 1) (.lc (.nm 3) (.of (.var 1)) none (.bin .add (.var 3) (.tup [(.var 2)])) [("part", 3)])))]), (.ret (.var 1))]
theorem add_lot {h : Hh} {a b : Lot} (hl : a.length + b.length ≤ 16777216) : binop .add h (.v (lotD a)) (.v (lotD b)) = some (.v (lotD (a ++ b))) := by
  simp only [binop, lotD]
  rw [if_pos (by unfold small; refine decide_eq_true ?_; simp; omega), ← List.map_append]
theorem parts_mem_len : ∀ (l : Lot) (acc : List Lot) (c : Nat), (∀ p ∈ acc, p.length ≤ c) → ∀ p ∈ l.foldl partStep acc, p.length ≤ c + l.length
  | [], acc, c, h => h
  | x :: l, acc, c, h => by
    intro p hp
    have := parts_mem_len l (partStep acc x) (c + 1) (by
      intro q hq
      rcases List.mem_append.mp hq with hq | hq
      · have := h q hq; omega
      · obtain ⟨r, hr, rfl⟩ := List.mem_map.mp hq
        have := h r hr
        simp; omega) p hp
    simp only [List.length_cons]
    omega
theorem parts_ok {fns : List Fn} {f k : Nat} {fn : Fn} {h : Hh} {l : Lot} (hf : fns[f]? = some fn) (hb : fn.body = partsBody) (hN : fn.N.length = 4) (hnp : fn.np = 1) (hl : l.length ≤ 16) :
    CQ (callN fns (k + 1)) f [lotD l] h fun d h' => ∃ n g, d = .ref n ∧ h' = h ++ g ∧ look h' n = some (.lst ((partsA l).map lotD)) ∧ h.length ≤ n := by
  refine q_fn hf hnp.symm ?_
  rw [hb, hN]
  show SsQ (callN fns k) partsBody [some (lotD l), none, none, none] h _
  refine q_cons (q_asg (q_lst (q_escons (q_tup (q_esnil ⟨rfl, q_esnil ⟨rfl, _, rfl, ?_⟩⟩)))))
  show SsQ (callN fns k) _ [some (lotD l), some (.ref h.length), none, none] (h ++ [Cell.lst [D.tup []]]) _
  refine q_cons (q_for (q_wof (q_var rfl ⟨⟨l.map D.int, none, none⟩, rfl, ?_⟩)))
  obtain ⟨ρ', h', e, n, g, ⟨x, y, rfl⟩, rfl, hk, hn⟩ := for_ls (body := fun ρ h => exs (callN fns k) [(.asg (.nm 1) (.bin .add (.var 1) (.lc (.nm 3) (.of (.var 1)) none (.bin .add (.var 3) (.tup [(.var 2)])) [("part", 3)])))] ρ h) (tg := .nm 2) (w := ⟨l.map D.int, none, none⟩) D.int
    (fun done ρ h1 => ∃ n g, (∃ x y, ρ = [some (lotD l), some (.ref n), x, y]) ∧ h1 = h ++ g ∧ look h1 n = some (.lst ((partsA done).map lotD)) ∧ h.length ≤ n) l [] [some (lotD l), some (.ref h.length), none, none] (h ++ [Cell.lst [D.tup []]]) ⟨h.length, _, ⟨none, none, rfl⟩, rfl, last_look, Nat.le_refl _⟩ (fun _ _ _ _ => rfl) (by
      rintro ls1 x ls2 hls ρ h1 ⟨n, g, ⟨x', y, rfl⟩, rfl, hk, hn⟩
      simp only [List.nil_append] at hls
      have hle : ls1.length < l.length := by rw [hls]; simp
      have hpl : (partsA ls1).length ≤ 65536 := by
        unfold partsA
        rw [parts_len]
        have := Nat.pow_le_pow_right (n := 2) (by decide) (show ls1.length ≤ 16 by omega)
        simp only [List.length_singleton, Nat.one_mul]
        exact this
      have hml : ∀ p ∈ partsA ls1, p.length ≤ 16 := fun p hp => by
        have := parts_mem_len ls1 [[]] 0 (by simp) p hp
        omega
      have hwk : walkOf (h ++ g) (.v (.ref n)) = some ⟨(partsA ls1).map lotD, some (n, (partsA ls1).map lotD), none⟩ := by
        simp only [walkOf, seqOf, guardOf, hk]
      refine ⟨_, rfl, ?_⟩
      obtain ⟨h2, e, rfl⟩ := lc_fm (test := fun ρ h => evT (callN fns k) none ρ h) (elt := fun ρ h => asD (ev (callN fns k) (.bin .add (.var 3) (.tup [(.var 2)])) ρ h)) (tg := .nm 3)
        (w := ⟨(partsA ls1).map lotD, some (n, (partsA ls1).map lotD), none⟩) (ρ := wipeR [some (lotD l), some (.ref n), some (.int x), y] [("part", 3)]) lotD (fun p => some (lotD (p ++ [x]))) (fun h1 => h1 = h ++ g) (partsA ls1) [] (h ++ g) rfl (by
          rintro h1 rfl
          simp only [Walk.ok, stays, hk]
          simp) (by simp; omega) (by
          rintro p hp h1 rfl
          refine ⟨_, rfl, true, _, rfl, fun _ => ?_, fun hz => nomatch hz⟩
          have := hml p hp
          have : EQ (callN fns k) (.bin .add (.var 3) (.tup [(.var 2)])) [some (lotD l), some (.ref n), some (.int x), some (lotD p)] (h ++ g) fun r h2 => r = .v (lotD (p ++ [x])) ∧ h2 = h ++ g :=
            q_bin (q_var rfl (q_tup (q_escons (q_var rfl (q_esnil ⟨rfl, _, add_lot (b := [x]) (by simp; omega), rfl, rfl⟩)))))
          obtain ⟨r, h2, e2, rfl, rfl⟩ := this
          refine ⟨_, _, ?_, rfl, rfl⟩
          show asD (ev _ _ [some (lotD l), some (.ref n), some (.int x), some (lotD p)] _) = _
          rw [e2]; rfl)
      have hfm : ([] : List D) ++ (partsA ls1).filterMap (fun p => some (lotD (p ++ [x]))) = ((partsA ls1).map (· ++ [x])).map lotD := by
        rw [List.nil_append, List.map_map, ← List.filterMap_eq_map]; rfl
      rw [hfm] at e
      have hadd : binop .add (h ++ g) (.v (.ref n)) (.f (((partsA ls1).map (· ++ [x])).map lotD)) = some (.f ((partsA (ls1 ++ [x])).map lotD)) := by
        have hp : partsA (ls1 ++ [x]) = partsA ls1 ++ (partsA ls1).map (· ++ [x]) := by
          unfold partsA
          rw [List.foldl_append]; rfl
        simp only [binop, lstOf, hk]
        rw [if_pos (by unfold small; refine decide_eq_true ?_; simp; omega), hp, List.map_append]
      have key : SsQ (callN fns k) [(.asg (.nm 1) (.bin .add (.var 1) (.lc (.nm 3) (.of (.var 1)) none (.bin .add (.var 3) (.tup [(.var 2)])) [("part", 3)])))] [some (lotD l), some (.ref n), some (.int x), y] (h ++ g)
          fun o => o = .nx [some (lotD l), some (.ref (h ++ g).length), some (.int x), y] (h ++ (g ++ [Cell.lst ((partsA (ls1 ++ [x])).map lotD)])) := by
        refine q_cons (q_asg (q_bin (q_var rfl (q_lc (q_wof (q_var rfl ⟨_, hwk, _, _, e, _, hadd, _, rfl, q_nil ?_⟩))))))
        simp only [adopt, List.append_assoc]
        rfl
      obtain ⟨o, e1, rfl⟩ := key
      refine ⟨_, e1, _, _, rfl, _, _, ⟨_, _, rfl⟩, rfl, ?_, by simp⟩
      rw [← List.append_assoc]
      exact last_look)
  refine ⟨_, e, ?_⟩
  exact q_cons (q_ret (q_var rfl ⟨n, g, rfl, rfl, hk, hn⟩))
end Co

set_option linter.all false
set_option maxRecDepth 100000
set_option autoImplicit false
/-! Core41: parts are the sublists; their hashes lie apart. -/
namespace Co
open PySem

theorem parts_mem : ∀ (l : Lot) (acc : List Lot) (p : Lot), p ∈ l.foldl partStep acc ↔ ∃ a ∈ acc, ∃ s, List.Sublist s l ∧ p = a ++ s
  | [], acc, p => by
    simp only [List.foldl_nil]
    constructor
    · intro h; exact ⟨p, h, [], .slnil, by simp⟩
    · rintro ⟨a, ha, s, hs, rfl⟩
      rw [List.sublist_nil.mp hs, List.append_nil]
      exact ha
  | x :: l, acc, p => by
    rw [List.foldl_cons, parts_mem l]
    constructor
    · rintro ⟨a, ha, s, hs, rfl⟩
      rcases List.mem_append.mp ha with ha | ha
      · exact ⟨a, ha, s, hs.cons _, rfl⟩
      · obtain ⟨b, hb, rfl⟩ := List.mem_map.mp ha
        exact ⟨b, hb, x :: s, hs.cons_cons _, by simp⟩
    · rintro ⟨a, ha, s, hs, rfl⟩
      cases hs with
      | cons _ hs => exact ⟨a, List.mem_append_left _ ha, s, hs, rfl⟩
      | cons_cons _ hs => exact ⟨a ++ [x], List.mem_append_right _ (List.mem_map.mpr ⟨a, ha, rfl⟩), _, hs, by simp⟩
theorem mem_parts {l p : Lot} : p ∈ partsA l ↔ List.Sublist p l := by
  unfold partsA
  rw [parts_mem]
  constructor
  · rintro ⟨a, ha, s, hs, rfl⟩
    rw [List.mem_singleton.mp ha]
    exact hs
  · intro h
    exact ⟨[], by simp, p, h, rfl⟩
theorem parts_nd : ∀ (l : Lot) (acc : List Lot), l.Nodup → acc.Nodup → (∀ a ∈ acc, ∀ x ∈ l, x ∉ a) → (l.foldl partStep acc).Nodup
  | [], acc, _, h, _ => h
  | x :: l, acc, hl, ha, hd => by
    rw [List.nodup_cons] at hl
    refine parts_nd l _ hl.2 ?_ ?_
    · unfold partStep
      rw [List.nodup_append]
      refine ⟨ha, ?_, ?_⟩
      · refine List.Pairwise.map _ ?_ ha
        intro a b hab e
        exact hab (List.append_cancel_right e)
      · rintro a h1 b h2 rfl
        obtain ⟨c, hc, e⟩ := List.mem_map.mp h2
        exact hd a h1 x List.mem_cons_self (by rw [← e]; simp)
    · intro a h1 y hy hya
      rcases List.mem_append.mp h1 with h1 | h1
      · exact hd a h1 y (List.mem_cons_of_mem _ hy) hya
      · obtain ⟨c, hc, rfl⟩ := List.mem_map.mp h1
        rcases List.mem_append.mp hya with h2 | h2
        · exact hd c hc y (List.mem_cons_of_mem _ hy) h2
        · rw [List.mem_singleton.mp h2] at hy
          exact hl.1 hy
theorem parts_nodup {l : Lot} (h : l.Nodup) : (partsA l).Nodup := parts_nd l [[]] h (by simp) (by simp)

/-- the things a family may have -/
def seven : Lot := [0, 1, 2, 3, 4, 5, 6]
theorem hashes_of (ds : List D) : ∀ hs, hashsD ds = some hs → hs = ds.map fun d => (hashD d).getD 0 := by
  induction ds with
  | nil => intro hs h; cases h; rfl
  | cons d ds ih =>
    intro hs h
    simp only [hashsD] at h
    cases h1 : hashD d with
    | none => rw [h1] at h; exact nomatch h
    | some k =>
      cases h2 : hashsD ds with
      | none => rw [h1, h2] at h; exact nomatch h
      | some ks =>
        rw [h1, h2] at h
        cases h
        rw [List.map_cons, h1, ih ks h2]
        rfl
theorem hash_lot (l : Lot) : ∃ k, hashD (lotD l) = some k := by
  have : ∀ l : Lot, ∃ ks, hashsD (l.map D.int) = some ks := fun l => by
    induction l with
    | nil => exact ⟨[], rfl⟩
    | cons x l ih =>
      obtain ⟨ks, e⟩ := ih
      exact ⟨hashInt x :: ks, by simp only [List.map_cons, hashsD, hashD, e]⟩
  obtain ⟨ks, e⟩ := this l
  exact ⟨_, by simp only [lotD, hashD, e]; rfl⟩
theorem hash_lots (L : List Lot) : hashsD (L.map lotD) = some (L.map fun l => (hashD (lotD l)).getD 0) := by
  induction L with
  | nil => rfl
  | cons l L ih =>
    obtain ⟨k, e⟩ := hash_lot l
    simp only [List.map_cons, hashsD, ih, e, Option.getD_some]
theorem seven_apart : (((partsA seven).map fun l => (hashD (lotD l)).getD 0)).Nodup := by decide +kernel
theorem seven_inj {a b : Lot} (ha : List.Sublist a seven) (hb : List.Sublist b seven) (e : (hashD (lotD a)).getD 0 = (hashD (lotD b)).getD 0) : a = b := by
  have hn := seven_apart
  rw [List.nodup_iff_pairwise_ne, List.pairwise_map] at hn
  have ha' := mem_parts.mpr ha
  have hb' := mem_parts.mpr hb
  apply Classical.byContradiction
  intro hab
  obtain ⟨i, hi, rfl⟩ := List.getElem_of_mem ha'
  obtain ⟨j, hj, rfl⟩ := List.getElem_of_mem hb'
  rcases Nat.lt_trichotomy i j with h | h | h
  · exact (List.pairwise_iff_getElem.mp hn i j hi hj h) e
  · subst h; exact hab rfl
  · exact (List.pairwise_iff_getElem.mp hn j i hj hi h) e.symm
theorem lots_apart {L : List Lot} (hn : L.Nodup) (hs : ∀ l ∈ L, List.Sublist l seven) : hashApart (numD (L.map fun l => (l, 0))) = true := by
  unfold hashApart
  have : (numD (L.map fun l => (l, 0))).map (·.1) = L.map lotD := by
    unfold numD
    rw [List.map_map, List.map_map]; rfl
  rw [this, hash_lots]
  refine decide_eq_true ?_
  rw [List.nodup_iff_pairwise_ne, List.pairwise_map]
  refine List.Pairwise.imp_of_mem ?_ hn
  intro a b ha hb hab e
  exact hab (seven_inj (hs a ha) (hs b hb) e)
end Co

set_option linter.all false
set_option maxRecDepth 100000
set_option autoImplicit false
/-! Core42: families. -/
namespace Co
open PySem

def Parts (fns : List Fn) (f : Nat) : Prop := ∀ (k : Nat) (h : Hh) (l : Lot), l.length ≤ 16 → CQ (callN fns (k + 1)) f [lotD l] h fun d h' => ∃ n g, d = .ref n ∧ h' = h ++ g ∧ look h' n = some (.lst ((partsA l).map lotD)) ∧ h.length ≤ n
def putZ (acc : Num) (p : Lot) : Num := aput acc p 0
def madeStep (acc : Num) (l : Lot) : Num := (partsA l).foldl putZ acc
def madeA (L : List Lot) : List Lot := ((L.foldl madeStep []).map (·.1)).mergeSort lotLe
theorem putZ_len : ∀ (ps : List Lot) (acc : Num), (ps.foldl putZ acc).length ≤ acc.length + ps.length
  | [], acc => Nat.le_refl _
  | p :: ps, acc => by
    have h1 := putZ_len ps (putZ acc p)
    have h2 := aput_len acc p 0
    simp only [List.foldl_cons, List.length_cons]
    unfold putZ at h1 ⊢
    omega
theorem made_len (c : Nat) : ∀ (L : List Lot) (acc : Num), (∀ l ∈ L, (partsA l).length ≤ c) → (L.foldl madeStep acc).length ≤ acc.length + L.length * c
  | [], acc, _ => by simp
  | l :: L, acc, h => by
    have h1 := made_len c L (madeStep acc l) fun q hq => h q (List.mem_cons_of_mem _ hq)
    have h2 := putZ_len (partsA l) acc
    have h3 := h l List.mem_cons_self
    simp only [List.length_cons, List.foldl_cons]
    have h4 : (L.length + 1) * c = L.length * c + c := by rw [Nat.add_mul, Nat.one_mul]
    unfold madeStep at h1 ⊢
    omega
theorem num_more : ∀ (ps : List Lot) (acc : Num), (numD (ps.map fun l => (l, 0))).foldl (fun acc p => dput acc p.1 p.2) (numD acc) = numD (ps.foldl putZ acc)
  | [], acc => rfl
  | p :: ps, acc => by
    show (numD (ps.map fun l => (l, 0))).foldl _ (dput (numD acc) (lotD p) (.int 0)) = _
    rw [num_put, num_more ps]
    rfl
def updBody (pi : Nat) : List S := [(.ex (.me .update (.var 2) [(.bi .dict [(.lc (.nm 4) (.of (.call pi [(.var 3)])) none (.tup [(.var 4), (.int 0)]) [("part", 4)])])]))]
def madeBody (pi : Nat) : List S := [(.asg (.nm 2) .dnew), (.for (.nm 3) (.of (.var 1)) (updBody pi)), (.ret (.tup [(.var 0), (.bi .tuple [(.bi .sorted [(.var 2)])])]))]
theorem upd_ok {fns : List Fn} {pi k : Nat} {h g : Hh} {a b : D} {l : Lot} {x : Option D} {acc : Num} (hP : Parts fns pi) (hs : List.Sublist l seven) (ha : acc.length ≤ 1000000) :
    ∃ g', SsQ (callN fns (k + 1)) (updBody pi) [some a, some b, some (.ref h.length), some (lotD l), x] (h ++ .dct (numD acc) :: g) fun o => o = .nx [some a, some b, some (.ref h.length), some (lotD l), x] (h ++ .dct (numD (madeStep acc l)) :: g') := by
  have hl7 : l.length ≤ 7 := hs.length_le
  have hpl : (partsA l).length ≤ 128 := by
    unfold partsA
    rw [parts_len]
    have := Nat.pow_le_pow_right (n := 2) (by decide) hl7
    simpa using this
  have hln : l.Nodup := hs.nodup (by decide)
  obtain ⟨d, h', e0, n, g2, rfl, rfl, hk, hn⟩ := hP k (h ++ .dct (numD acc) :: g) l (by omega)
  have hre : ∀ y : Cell, (h ++ Cell.dct (numD acc) :: g ++ g2) ++ [y] = h ++ Cell.dct (numD acc) :: (g ++ g2 ++ [y]) := fun y => by simp
  obtain ⟨h2, e, rfl⟩ := lc_fm (test := fun ρ h => evT (callN fns (k + 1)) none ρ h) (elt := fun ρ h => asD (ev (callN fns (k + 1)) (.tup [(.var 4), (.int 0)]) ρ h)) (tg := .nm 4)
    (w := ⟨(partsA l).map lotD, some (n, (partsA l).map lotD), none⟩) (ρ := wipeR [some a, some b, some (.ref h.length), some (lotD l), x] [("part", 4)]) lotD (fun p => some (pairD (p, 0))) (fun h1 => h1 = h ++ Cell.dct (numD acc) :: g ++ g2) (partsA l) [] _ rfl (by
      rintro h1 rfl
      simp only [Walk.ok, stays, hk]
      simp) (by simp; omega) (by
      rintro p hp h1 rfl
      refine ⟨_, rfl, true, _, rfl, fun _ => ?_, fun hz => nomatch hz⟩
      have : EQ (callN fns (k + 1)) (.tup [(.var 4), (.int 0)]) [some a, some b, some (.ref h.length), some (lotD l), some (lotD p)] (h ++ Cell.dct (numD acc) :: g ++ g2) fun r h2 => r = .v (pairD (p, 0)) ∧ h2 = h ++ Cell.dct (numD acc) :: g ++ g2 :=
        q_tup (q_escons (q_var rfl (q_escons (q_int (q_esnil ⟨rfl, rfl, rfl⟩)))))
      obtain ⟨r, h2, e2, rfl, rfl⟩ := this
      refine ⟨_, _, ?_, rfl, rfl⟩
      show asD (ev _ _ [some a, some b, some (.ref h.length), some (lotD l), some (lotD p)] _) = _
      rw [e2]; rfl)
  have hfm : ([] : List D) ++ (partsA l).filterMap (fun p => some (pairD (p, 0))) = ((partsA l).map fun l => ((l, 0) : Lot × Int)).map pairD := by
    rw [List.nil_append, List.map_map, ← List.filterMap_eq_map]; rfl
  rw [hfm] at e
  have hnd : (((partsA l).map fun l => ((l, 0) : Lot × Int)).map (·.1)).Nodup := by
    rw [List.map_map]
    have : ((fun p : Lot × Int => p.1) ∘ fun l : Lot => ((l, 0) : Lot × Int)) = id := rfl
    rw [this, List.map_id]
    exact parts_nodup hln
  have hap := lots_apart (parts_nodup hln) fun p hp => (mem_parts.mp hp).trans hs
  have hne : (numD ((partsA l).map fun l => ((l, 0) : Lot × Int))).isEmpty = false := by
    have : [] ∈ partsA l := mem_parts.mpr (List.nil_sublist _)
    cases hq : partsA l with
    | nil => rw [hq] at this; exact nomatch this
    | cons p ps => rfl
  have hwk : walkOf (h ++ Cell.dct (numD acc) :: g ++ g2) (.v (.ref n)) = some ⟨(partsA l).map lotD, some (n, (partsA l).map lotD), none⟩ := by
    simp only [walkOf, seqOf, guardOf, hk]
  have hup : methd .update (h ++ Cell.dct (numD acc) :: (g ++ g2 ++ [Cell.dct (numD ((partsA l).map fun l => ((l, 0) : Lot × Int)))])) (.ref h.length) [.v (.ref (h ++ Cell.dct (numD acc) :: g ++ g2).length)]
      = some (.v .non, h ++ Cell.dct (numD (madeStep acc l)) :: (g ++ g2 ++ [Cell.dct (numD ((partsA l).map fun l => ((l, 0) : Lot × Int)))])) := by
    have h1 : look (h ++ Cell.dct (numD acc) :: (g ++ g2 ++ [Cell.dct (numD ((partsA l).map fun l => ((l, 0) : Lot × Int)))])) (h ++ Cell.dct (numD acc) :: g ++ g2).length = some (Cell.dct (numD ((partsA l).map fun l => ((l, 0) : Lot × Int)))) := by
      rw [← hre]; exact last_look
    simp only [methd, mid_look, mDct, h1]
    rw [if_pos, num_more, mid_set]
    · rfl
    · have hlen : h.length ≠ (h ++ Cell.dct (numD acc) :: g ++ g2).length := by simp
      have hsm : small ((numD acc).length + (numD ((partsA l).map fun l => ((l, 0) : Lot × Int))).length) = true := by
        unfold small numD
        refine decide_eq_true ?_
        simp
        omega
      rw [hsm, hne, hap, num_keys, num_keys, decide_eq_true hlen]
      simp
  refine ⟨g ++ g2 ++ [Cell.dct (numD ((partsA l).map fun l => ((l, 0) : Lot × Int)))], ?_⟩
  refine q_cons (q_ex (q_me (q_var rfl ⟨_, rfl, q_rscons (q_bi (q_rscons (q_lc (q_wof (q_call (q_escons (q_var rfl (q_esnil ⟨_, _, e0, ?_⟩))))))))⟩)))
  refine ⟨_, hwk, _, _, e, q_rsnil ⟨_, _, dict_list hnd, q_rsnil ⟨?_, ?_⟩⟩⟩
  · rw [hre]
    simp only [mkd, mid_look]
  · rw [hre]
    exact ⟨_, _, hup, q_nil rfl⟩
end Co

set_option linter.all false
set_option maxRecDepth 100000
set_option autoImplicit false
/-! Core43: families made of lots. -/
namespace Co
open PySem

theorem sorted_num {h : Hh} {n : Nat} {A : Num} (hA : look h n = some (.dct (numD A))) (hl : A.length ≤ 1000000) : bltn .sorted h [.v (.ref n)] = some (.f (((A.map (·.1)).mergeSort lotLe).map lotD), h) := by
  have hit : iterOf h (.v (.ref n)) = some ((A.map (·.1)).map lotD) := by
    simp only [iterOf, seqOf, hA, keysOf]
    simp only [numD, List.map_map]
    rfl
  simp only [bltn, biSorted, hit, sort_lots (ls := A.map (·.1)) (by simp; omega)]
  rfl
theorem made_ok {fns : List Fn} {f pi k nl : Nat} {fn : Fn} {h : Hh} {m : Int} {L : List Lot} (hP : Parts fns pi) (hf : fns[f]? = some fn) (hb : fn.body = madeBody pi) (hN : fn.N.length = 5) (hnp : fn.np = 2) (hL : look h nl = some (.lst (L.map lotD))) (hs : ∀ l ∈ L, List.Sublist l seven) (hl : L.length ≤ 1000) :
    CQ (callN fns (k + 2)) f [.int m, .ref nl] h fun d h' => d = famD m (madeA L) ∧ ∃ g, h' = h ++ g := by
  refine q_fn hf hnp.symm ?_
  rw [hb, hN]
  show SsQ (callN fns (k + 1)) (madeBody pi) [some (.int m), some (.ref nl), none, none, none] h _
  have hnl : nl < h.length := (List.getElem?_eq_some_iff.mp hL).1
  have hLk : ∀ (x : Cell) (g : Hh), look (h ++ x :: g) nl = some (.lst (L.map lotD)) := fun x g => by
    unfold look at hL ⊢
    rw [List.getElem?_append_left hnl]; exact hL
  have hc : ∀ l ∈ L, (partsA l).length ≤ 128 := fun l hl => by
    unfold partsA
    rw [parts_len]
    have := Nat.pow_le_pow_right (n := 2) (by decide) (show l.length ≤ 7 from (hs l hl).length_le)
    simpa using this
  refine q_cons (q_asg (q_dnew ⟨_, rfl, ?_⟩))
  show SsQ (callN fns (k + 1)) _ [some (.int m), some (.ref nl), some (.ref h.length), none, none] (h ++ [Cell.dct []]) _
  have hwk : walkOf (h ++ [Cell.dct []]) (.v (.ref nl)) = some ⟨L.map lotD, some (nl, L.map lotD), none⟩ := by
    simp only [walkOf, seqOf, guardOf, hLk]
  refine q_cons (q_for (q_wof (q_var rfl ⟨_, hwk, ?_⟩)))
  obtain ⟨ρ', h', e, ⟨x, y, rfl⟩, g, rfl⟩ := for_ls (body := fun ρ h => exs (callN fns (k + 1)) (updBody pi) ρ h) (tg := .nm 3) (w := ⟨L.map lotD, some (nl, L.map lotD), none⟩) lotD
    (fun done ρ h1 => (∃ x y, ρ = [some (.int m), some (.ref nl), some (.ref h.length), x, y]) ∧ ∃ g, h1 = h ++ Cell.dct (numD (done.foldl madeStep [])) :: g) L [] [some (.int m), some (.ref nl), some (.ref h.length), none, none] (h ++ [Cell.dct []]) ⟨⟨none, none, rfl⟩, [], rfl⟩ (by
      rintro ls1 ρ h1 ⟨_, g, rfl⟩
      simp only [Walk.ok, stays, hLk]
      simp) (by
      rintro ls1 l ls2 hls ρ h1 ⟨⟨x, y, rfl⟩, g, rfl⟩
      simp only [List.nil_append] at hls
      have hlen := made_len 128 ls1 [] fun q hq => hc q (by rw [hls]; exact List.mem_append_left _ hq)
      have hle : ls1.length ≤ L.length := by rw [hls]; simp
      simp only [List.length_nil, Nat.zero_add] at hlen
      obtain ⟨g', o, e1, rfl⟩ := upd_ok (k := k) (h := h) (g := g) (a := .int m) (b := .ref nl) (l := l) (x := y) (acc := ls1.foldl madeStep []) hP (hs l (by rw [hls]; simp)) (by omega)
      refine ⟨_, rfl, _, e1, _, _, rfl, ⟨_, _, rfl⟩, g', ?_⟩
      simp only [List.foldl_append, List.foldl_cons, List.foldl_nil])
  have hlen := made_len 128 L [] hc
  simp only [List.length_nil, Nat.zero_add] at hlen
  refine ⟨_, e, ?_⟩
  refine q_cons (q_ret (q_tup (q_escons (q_var rfl (q_escons (q_bi (q_rscons (q_bi (q_rscons (q_var rfl (q_rsnil ⟨_, _, sorted_num mid_look (by simp only [List.nil_append]; omega), q_rsnil ⟨_, _, rfl, q_esnil ⟨rfl, rfl, _, rfl⟩⟩⟩)))))))))))
/-! what a family is: sorted lots, each once, with all their sides -/
theorem putZ_keys : ∀ (ps : List Lot) (acc : Num) (p : Lot), p ∈ (ps.foldl putZ acc).map (·.1) ↔ p ∈ acc.map (·.1) ∨ p ∈ ps
  | [], acc, p => by simp
  | q :: ps, acc, p => by
    rw [List.foldl_cons, putZ_keys ps]
    unfold putZ
    rw [aput_keys]
    by_cases hq : q ∈ acc.map (·.1)
    · rw [if_pos hq]
      constructor
      · rintro (h | h)
        · exact Or.inl h
        · exact Or.inr (List.mem_cons_of_mem _ h)
      · rintro (h | h)
        · exact Or.inl h
        · rcases List.mem_cons.mp h with rfl | h
          · exact Or.inl hq
          · exact Or.inr h
    · rw [if_neg hq, List.mem_append, List.mem_singleton, List.mem_cons, or_assoc]
theorem made_keys : ∀ (L : List Lot) (acc : Num) (p : Lot), p ∈ (L.foldl madeStep acc).map (·.1) ↔ p ∈ acc.map (·.1) ∨ ∃ l ∈ L, List.Sublist p l
  | [], acc, p => by simp
  | q :: L, acc, p => by
    rw [List.foldl_cons, made_keys L]
    unfold madeStep
    rw [putZ_keys, mem_parts, or_assoc]
    simp
theorem putZ_nd : ∀ (ps : List Lot) (acc : Num), (acc.map (·.1)).Nodup → ((ps.foldl putZ acc).map (·.1)).Nodup
  | [], acc, h => h
  | q :: ps, acc, h => putZ_nd ps _ (aput_nodup h)
theorem made_nd : ∀ (L : List Lot) (acc : Num), (acc.map (·.1)).Nodup → ((L.foldl madeStep acc).map (·.1)).Nodup
  | [], acc, h => h
  | q :: L, acc, h => made_nd L _ (putZ_nd _ _ h)
theorem mem_made {L : List Lot} {p : Lot} : p ∈ madeA L ↔ ∃ l ∈ L, List.Sublist p l := by
  unfold madeA
  rw [(List.mergeSort_perm _ _).mem_iff, made_keys]
  simp
theorem made_nodup (L : List Lot) : (madeA L).Nodup := by
  unfold madeA
  exact (List.mergeSort_perm _ _).nodup_iff.mpr (made_nd L [] (by simp))
end Co

set_option linter.all false
set_option maxRecDepth 100000
set_option autoImplicit false
/-! Core44: for _law_family: the plane, sorted ints, sublists of seven. -/
namespace Co
open PySem
def planeL : List Lot := [[0,1,2],[0,1,3],[0,2,4],[0,3,5],[0,4,5],[1,2,5],[1,3,4],[1,4,5],[2,3,4],[2,3,5]]
def planeBody : List S := [(.asg (.nm 0) (.str "012 013 024 035 045 125 134 145 234 235")), (.ret (.lc (.nm 1) (.of (.me .split (.var 0) [(.str " ")])) none (.bi .tuple [(.lc (.nm 2) (.of (.var 1)) none (.bi .int [(.var 2)]) [("sign", 2)])]) [("word", 1)]))]
theorem plane_ok {fns : List Fn} {f k : Nat} {fn : Fn} {h : Hh} (hf : fns[f]? = some fn) (hb : fn.body = planeBody) (hN : fn.N.length = 3) (hnp : fn.np = 0) :
    CQ (callN fns (k + 1)) f [] h fun d h' => d = .ref h.length ∧ h' = h ++ [.lst (planeL.map lotD)] := by
  refine q_fn hf hnp.symm ?_
  rw [hb, hN]
  have : ∀ cl : Call, exs cl planeBody [none, none, none] h = some (.rt (.ref h.length) (h ++ [.lst (planeL.map lotD)])) := fun cl => by
    with_unfolding_all rfl
  exact ⟨_, this _, rfl, rfl⟩
theorem lt_int2 (a b : Int) : PySem.W.dataLt (py (.int a)) (py (.int b)) = decide (a < b) := by
  show (PyProof.Rows.itemOrd.blt (.inl a) (.inl b) || (!PyProof.Rows.itemOrd.blt (.inl b) (.inl a) && false)) = _
  rw [Bool.and_false, Bool.or_false]
  rfl
def leI (a b : Int) : Bool := decide (a ≤ b)
theorem le_int2 (a b : Int) : leD (.int a) (.int b) = leI a b := by
  unfold leD leI
  rw [lt_int2]
  by_cases h : a ≤ b
  · rw [decide_eq_true h, decide_eq_false (by omega)]; rfl
  · rw [decide_eq_false h, decide_eq_true (by omega)]; rfl
theorem sort_ints {ls : List Int} (h : ls.length ≤ 16777216) : sortD (ls.map D.int) = some ((ls.mergeSort leI).map D.int) := by
  unfold sortD
  have ok : sortOk (ls.map D.int) = true := by
    unfold sortOk
    simp only [Bool.and_eq_true, List.all_map, List.all_eq_true, Function.comp]
    refine ⟨⟨⟨fun l _ => ⟨rfl, ?_⟩, fun a _ b _ => ?_⟩, fun a _ => ?_⟩, ?_⟩
    · unfold SeqAt.shaped
      simp [py, PyData.canLay0, PyData.depth]
    · simp [py, PySem.W.alike]
    · trivial
    · unfold small; rw [List.length_map]; exact decide_eq_true h
  rw [if_pos ok]
  congr 1
  refine (List.map_mergeSort ?_).symm
  intro a _ b _
  exact (le_int2 a b).symm
/-- rising lists of numbers from a on lie in a, a+1, .. -/
theorem up_sub : ∀ (n : Nat) (a : Int) (l : Lot), l.Pairwise (· < ·) → (∀ x ∈ l, a ≤ x ∧ x < a + n) → List.Sublist l ((List.range n).map fun i : Nat => a + i)
  | 0, a, l, _, h => by
    cases l with
    | nil => exact .slnil
    | cons x l => have := h x List.mem_cons_self; omega
  | n + 1, a, l, hp, h => by
    have hr : ((List.range (n + 1)).map fun i : Nat => a + i) = a :: (List.range n).map fun i : Nat => (a + 1) + i := by
      rw [List.range_succ_eq_map, List.map_cons, List.map_map]
      congr 1
      · simp
      · apply List.map_congr_left
        intro i _
        simp only [Function.comp]
        omega
    rw [hr]
    cases l with
    | nil => exact List.nil_sublist _
    | cons x l =>
      rw [List.pairwise_cons] at hp
      by_cases hx : x = a
      · subst hx
        refine List.Sublist.cons_cons _ (up_sub n (x + 1) l hp.2 fun y hy => ?_)
        have h1 := hp.1 y hy
        have h2 := h y (List.mem_cons_of_mem _ hy)
        omega
      · have hxa := h x List.mem_cons_self
        refine List.Sublist.cons _ (up_sub n (a + 1) (x :: l) (List.pairwise_cons.mpr hp) fun y hy => ?_)
        rcases List.mem_cons.mp hy with rfl | hy
        · omega
        · have h1 := hp.1 y hy
          have h2 := h y (List.mem_cons_of_mem _ hy)
          omega
theorem up_seven {l : Lot} (hp : l.Pairwise (· < ·)) (h : ∀ x ∈ l, 0 ≤ x ∧ x < 7) : List.Sublist l seven :=
  up_sub 7 0 l hp fun x hx => by have := h x hx; omega
theorem sorted_up {l : Lot} (hn : l.Nodup) : (l.mergeSort leI).Pairwise (· < ·) := by
  have h1 : (l.mergeSort leI).Pairwise fun a b => leI a b = true := List.pairwise_mergeSort (by
    intro a b c h1 h2
    have := of_decide_eq_true h1
    have := of_decide_eq_true h2
    exact decide_eq_true (by omega)) (by
    intro a b
    unfold leI
    by_cases h : a ≤ b
    · simp [h]
    · simp; omega) l
  have h2 : (l.mergeSort leI).Nodup := (List.mergeSort_perm _ _).nodup_iff.mpr hn
  rw [List.nodup_iff_pairwise_ne] at h2
  refine (h1.and h2).imp ?_
  rintro a b ⟨h1, h2⟩
  have := of_decide_eq_true h1
  omega
end Co

set_option linter.all false
set_option maxRecDepth 100000
set_option autoImplicit false
/-! Core45: shuffled numbers, cut and sorted. -/
namespace Co
open PySem
def toI : D → Int
  | .int i => i
  | _ => 0
theorem perm_ints {ds : List D} {ls : List Int} (h : ds.Perm (ls.map D.int)) : ∃ Q : List Int, ds = Q.map D.int ∧ Q.Perm ls := by
  refine ⟨ds.map toI, ?_, ?_⟩
  · rw [List.map_map]
    have : ∀ d ∈ ds, (D.int ∘ toI) d = d := fun d hd => by
      obtain ⟨i, _, rfl⟩ := List.mem_map.mp (h.mem_iff.mp hd)
      rfl
    rw [List.map_congr_left this, List.map_id']
  · have := h.map toI
    rw [List.map_map] at this
    have e : (toI ∘ D.int) = id := rfl
    rwa [e, List.map_id] at this
def nums (m : Nat) : List Int := (List.range m).map fun i : Nat => (i : Int)
theorem nums_nodup (m : Nat) : (nums m).Nodup := by
  unfold nums
  rw [List.nodup_iff_pairwise_ne, List.pairwise_map]
  have := List.nodup_range (n := m)
  rw [List.nodup_iff_pairwise_ne] at this
  exact this.imp fun {a b} h e => h (by omega)
theorem nums_in {m : Nat} {x : Int} (h : x ∈ nums m) : 0 ≤ x ∧ x < m := by
  obtain ⟨i, hi, rfl⟩ := List.mem_map.mp h
  have := List.mem_range.mp hi
  omega
/-- some of a shuffle of 0 .. m-1, sorted, lies in seven -/
theorem shuffled_sub {Q : List Int} {m p : Nat} (h : Q.Perm (nums m)) (hm : m ≤ 7) : List.Sublist ((Q.take p).mergeSort leI) seven := by
  have hq : Q.Nodup := h.nodup_iff.mpr (nums_nodup m)
  refine up_seven (sorted_up (hq.sublist (List.take_sublist _ _))) fun x hx => ?_
  have h1 := (List.mergeSort_perm _ _).mem_iff.mp hx
  have h2 := nums_in (h.mem_iff.mp (List.mem_of_mem_take h1))
  omega
end Co

set_option linter.all false
set_option maxRecDepth 100000
set_option autoImplicit false
/-! Core46: one turn of _law_family's loop. -/
namespace Co
open PySem
def famTurn (ip im : Nat) : List S := [(.asg (.nm 9) (.sl (.call im [(.var 0), (.lstR [(.var 6)])]) none (some (.call ip [(.var 0), (.bin .add (.bi .min [(.var 6), (.var 2)]) (.int 1))])))), (.ex (.me .append (.var 3) [(.bi .tuple [(.bi .sorted [(.var 9)])])]))]
theorem fam_turn_ok {fns : List Fn} {ip im k s c n3 m : Nat} {h h1 : Hh} {most : D} {size way : Int} {x4 x7 x8 x9 x10 x11 : Option D} {L : List Lot} (hP : fns[ip]? = some pickFn) (hM : fns[im]? = some (mixedFn ip)) (hm : m ≤ 7) (hz0 : 0 ≤ size) (hz : size ≤ 7)
    (G : Grow s c h h1) (SS : Src h1 s c) (hs : s < h.length) (hc : c < h.length) (h3 : look h1 n3 = some (.lst (L.map lotD))) (hn3 : h.length ≤ n3) (hl : L.length ≤ 1000) :
    SsQ (callN fns (k + 2)) (famTurn ip im) [some (.ref s), some most, some (.int size), some (.ref n3), x4, some (.int way), some (.int (m : Int)), x7, x8, x9, x10, x11] h1 fun o =>
      ∃ y l h2, o = .nx [some (.ref s), some most, some (.int size), some (.ref n3), x4, some (.int way), some (.int (m : Int)), x7, x8, some y, x10, x11] h2 ∧ List.Sublist l seven ∧ look h2 n3 = some (.lst ((L ++ [l]).map lotD)) ∧ Grow s c h h2 ∧ Src h2 s c := by
  have hr : rangeOf [.v (.int (m : Int))] = some ((nums m).map D.int) := by
    rw [range_nat (by omega)]
    unfold nums
    rw [List.map_map]; rfl
  have hnm : (nums m).length = m := by simp [nums]
  refine q_cons (q_asg (q_sl (q_call (q_escons (q_var rfl (q_escons (q_lstR (q_rscons (q_var rfl (q_rsnil ⟨_, hr, q_esnil ((mixed_ok (ds := (nums m).map D.int) hP hM (SS.app (g := [Cell.lst ((nums m).map D.int)])) ?_ (by simp [nums]; omega)).mono ?_)⟩))))))))))
  · show seqOf (h1 ++ [Cell.lst ((nums m).map D.int)]) (.v (.ref h1.length)) = _
    simp only [seqOf, last_look]
  rintro d h2 ⟨n, ds', rfl, hd, hp, hn, G2, S2⟩
  have hn' : h1.length ≤ n := by simp at hn; omega
  obtain ⟨Q, rfl, hQ⟩ := perm_ints hp
  have hmin : bltn .min h2 [.v (.int (m : Int)), .v (.int size)] = some (.v (.int (if size < m then size else m)), h2) := rfl
  have hQm : Q.length = m := by rw [hQ.length_eq, hnm]
  refine q_onone (q_osome (q_call (q_escons (q_var rfl (q_escons (q_bin (q_bi (q_rscons (q_var rfl (q_rscons (q_var rfl (q_rsnil ⟨_, _, hmin, q_int ⟨_, rfl, q_esnil ((pick_ok hP S2 ?_).mono ?_)⟩⟩))))))))))))
  · split <;> omega
  rintro d h4 ⟨p, rfl, p0, p1, G4, S4⟩
  have hG1 := G.len
  have hd4 : h4[n]? = some (.lst (Q.map D.int)) := G4.keep _ _ hd (by omega) (by omega)
  have hsl : slice h4 (.v (.ref n)) none (some p) = some (.f ((Q.take p.toNat).map D.int)) := by
    have hp' : p = (p.toNat : Int) := by omega
    simp only [slice, listOf, look, hd4]
    have hch := cut_head (l := Q) (k := p.toNat)
    rw [← hp'] at hch
    rw [hch]
  refine ⟨_, rfl, _, hsl, _, rfl, ?_⟩
  show SsQ (callN fns (k + 2)) _ [some (.ref s), some most, some (.int size), some (.ref n3), x4, some (.int way), some (.int (m : Int)), x7, x8, some (.ref h4.length), x10, x11] (h4 ++ [Cell.lst ((Q.take p.toNat).map D.int)]) _
  have h3a : look (h4 ++ [Cell.lst ((Q.take p.toNat).map D.int)]) n3 = some (.lst (L.map lotD)) := by
    have a1 : (h1 ++ [Cell.lst ((nums m).map D.int)])[n3]? = some (.lst (L.map lotD)) := (Grow.app (s := s) (c := c)).keep _ _ h3 (by omega) (by omega)
    have a2 := G2.keep _ _ a1 (by omega) (by omega)
    have a3 := G4.keep _ _ a2 (by omega) (by omega)
    exact (Grow.app (s := s) (c := c)).keep _ _ a3 (by omega) (by omega)
  have hso : bltn .sorted (h4 ++ [Cell.lst ((Q.take p.toNat).map D.int)]) [.v (.ref h4.length)] = some (.f (((Q.take p.toNat).mergeSort leI).map D.int), h4 ++ [Cell.lst ((Q.take p.toNat).map D.int)]) := by
    simp only [bltn, biSorted, iterOf, seqOf, last_look]
    rw [sort_ints (by simp; omega)]
    rfl
  have hap : methd .append (h4 ++ [Cell.lst ((Q.take p.toNat).map D.int)]) (.ref n3) [.v (lotD ((Q.take p.toNat).mergeSort leI))] = some (.v .non, (h4 ++ [Cell.lst ((Q.take p.toNat).map D.int)]).set n3 (.lst ((L ++ [(Q.take p.toNat).mergeSort leI]).map lotD))) := by
    simp only [methd, h3a, mLst]
    rw [if_pos (decide_eq_true (by simp; omega)), List.map_append]
    rfl
  refine q_cons (q_ex (q_me (q_var rfl ⟨_, rfl, q_rscons (q_bi (q_rscons (q_bi (q_rscons (q_var rfl (q_rsnil ⟨_, _, hso, q_rsnil ⟨_, _, rfl, q_rsnil ⟨rfl, _, _, hap, q_nil ?_⟩⟩⟩))))))⟩)))
  refine ⟨_, (Q.take p.toNat).mergeSort leI, _, rfl, shuffled_sub hQ hm, ?_, ?_, ?_⟩
  · unfold look at h3a ⊢; rw [List.getElem?_set_self (List.getElem?_eq_some_iff.mp h3a).1]
  · exact (((G.trans .app).trans (G2.trans G4)).trans .app).setAt hn3
  · exact S4.app.set (by omega) (by omega)
end Co

set_option linter.all false
set_option maxRecDepth 100000
set_option autoImplicit false
/-! Core47: the third way of _law_family. -/
namespace Co
open PySem
def Made (fns : List Fn) (f : Nat) : Prop := ∀ (k nl : Nat) (h : Hh) (m : Int) (L : List Lot), look h nl = some (.lst (L.map lotD)) → (∀ l ∈ L, List.Sublist l seven) → L.length ≤ 1000 → CQ (callN fns (k + 2)) f [.int m, .ref nl] h fun d h' => d = famD m (madeA L) ∧ ∃ g, h' = h ++ g
def fam3 (ip im mi : Nat) : List S := [(.asg (.nm 3) (.lst [])), (.for (.nm 4) (.range [(.call ip [(.var 0), (.int 7)])]) (famTurn ip im)), (.ret (.call mi [(.var 6), (.var 3)]))]
/-- what a family is -/
def FamOut (s c : Nat) (h : Hh) (d : D) (h' : Hh) : Prop := ∃ (m : Nat) (L : List Lot), d = famD m (madeA L) ∧ m ≤ 7 ∧ (∀ l ∈ L, List.Sublist l seven) ∧ L.length ≤ 128 ∧ Grow s c h h' ∧ Src h' s c
theorem fam3_ok {fns : List Fn} {ip im mi k s c m : Nat} {h : Hh} {most : D} {size way : Int} {x3 x4 x7 x8 x9 x10 x11 : Option D} (hP : fns[ip]? = some pickFn) (hM : fns[im]? = some (mixedFn ip)) (hMd : Made fns mi) (hm : m ≤ 7) (hz0 : 0 ≤ size) (hz : size ≤ 7) (SS : Src h s c) :
    SsQ (callN fns (k + 2)) (fam3 ip im mi) [some (.ref s), some most, some (.int size), x3, x4, some (.int way), some (.int (m : Int)), x7, x8, x9, x10, x11] h fun o => ∃ d h', o = .rt d h' ∧ FamOut s c h d h' := by
  obtain ⟨hs, hc⟩ := SS.lt
  refine q_cons (q_asg (q_lst (q_esnil ⟨rfl, _, rfl, ?_⟩)))
  show SsQ (callN fns (k + 2)) _ [some (.ref s), some most, some (.int size), some (.ref h.length), x4, some (.int way), some (.int (m : Int)), x7, x8, x9, x10, x11] (h ++ [Cell.lst []]) _
  refine q_cons (q_for (q_wrange (q_rscons (q_call (q_escons (q_var rfl (q_escons (q_int (q_esnil ((pick_ok hP (SS.app (g := [Cell.lst []])) (by decide)).mono ?_))))))))))
  rintro d h1 ⟨p, rfl, p0, p1, G1, S1⟩
  have hp' : p = (p.toNat : Int) := by omega
  have hp7 : p.toNat ≤ 7 := by omega
  have hr : rangeOf [.v (.int p)] = some ((List.range p.toNat).map fun k : Nat => D.int (k : Int)) := by
    have := range_nat (n := p.toNat) (by omega)
    rwa [← hp'] at this
  have hG := G1.len
  have h3 : look h1 h.length = some (.lst (([] : List Lot).map lotD)) := G1.keep _ _ last_look (by omega) (by omega)
  have hnil : ∀ l ∈ ([] : List Lot), List.Sublist l seven := by simp
  refine q_rsnil ⟨_, hr, ?_⟩
  obtain ⟨ρ', h', e, ⟨y4, y9, rfl⟩, L, hL, hsub, hlen, G, S'⟩ := for_ls (body := fun ρ h => exs (callN fns (k + 2)) (famTurn ip im) ρ h) (tg := .nm 4) (w := ⟨(List.range p.toNat).map fun k : Nat => D.int (k : Int), none, none⟩) (fun k : Nat => D.int (k : Int))
    (fun done ρ h1 => (∃ y4 y9, ρ = [some (.ref s), some most, some (.int size), some (.ref h.length), y4, some (.int way), some (.int (m : Int)), x7, x8, y9, x10, x11]) ∧ ∃ L : List Lot, look h1 h.length = some (.lst (L.map lotD)) ∧ (∀ l ∈ L, List.Sublist l seven) ∧ L.length = done.length ∧ Grow s c h h1 ∧ Src h1 s c) (List.range p.toNat) [] [some (.ref s), some most, some (.int size), some (.ref h.length), x4, some (.int way), some (.int (m : Int)), x7, x8, x9, x10, x11] h1
    ⟨⟨_, _, rfl⟩, [], h3, hnil, rfl, Grow.trans .app G1, S1⟩ (fun _ _ _ _ => rfl) (by
      rintro ls1 t ls2 hls ρ h2 ⟨⟨y4, y9, rfl⟩, L, hL, hsub, hlen, G, S2⟩
      simp only [List.nil_append] at hls
      have hle : ls1.length ≤ 7 := by
        have := congrArg List.length hls
        simp at this
        omega
      refine ⟨_, rfl, ?_⟩
      obtain ⟨o, e1, y, l, h3, rfl, hl, hL3, G3, S3⟩ := fam_turn_ok (k := k) (most := most) (size := size) (way := way) (x4 := some (.int (t : Int))) (x7 := x7) (x8 := x8) (x9 := y9) (x10 := x10) (x11 := x11) (n3 := h.length) (L := L) hP hM hm hz0 hz G S2 hs hc hL (Nat.le_refl _) (by omega)
      refine ⟨_, e1, _, _, rfl, ⟨_, _, rfl⟩, L ++ [l], hL3, fun q hq => ?_, by simp [hlen], G3, S3⟩
      rcases List.mem_append.mp hq with hq | hq
      · exact hsub q hq
      · rw [List.mem_singleton.mp hq]; exact hl)
  have hl7 : L.length ≤ 7 := by rw [hlen]; simp; omega
  refine ⟨_, e, ?_⟩
  refine q_cons (q_ret (q_call (q_escons (q_var rfl (q_escons (q_var rfl (q_esnil ((hMd k h.length h' m L hL hsub (by omega)).mono ?_))))))))
  rintro d h2 ⟨rfl, g, rfl⟩
  exact ⟨_, _, rfl, m, L, rfl, hm, hsub, by omega, G.trans .app, S'.app⟩
end Co

set_option linter.all false
set_option maxRecDepth 100000
set_option autoImplicit false
/-! Core48: the second way of _law_family. -/
namespace Co
open PySem
def fam2 (ip pi mi : Nat) : List S := [(.asg (.nm 8) (.call ip [(.var 0), (.bin .add (.bi .min [(.var 6), (.var 2)]) (.int 1))])), (.asg (.nm 3) (.lc (.nm 10) (.of (.call pi [(.tupR [(.var 6)])])) (some (.cmp .eq (.bi .len [(.var 10)]) (.var 8))) (.var 10) [("lot", 10)])), (.ret (.call mi [(.var 6), (.lc (.nm 10) (.of (.var 3)) (some (.cmp .gt (.call ip [(.var 0), (.int 5)]) (.int 0))) (.var 10) [("lot", 10)])]))]
theorem nums_seven {m : Nat} (hm : m ≤ 7) : List.Sublist (nums m) seven := by
  refine up_seven ?_ fun x hx => by have := nums_in hx; omega
  unfold nums
  rw [List.pairwise_map]
  exact (List.pairwise_lt_range (n := m)).imp fun {a b} h => by omega
theorem fam2_ok {fns : List Fn} {ip pi mi k s c m : Nat} {h : Hh} {most : D} {size way : Int} {x3 x4 x7 x8 x9 x10 x11 : Option D} (hP : fns[ip]? = some pickFn) (hPa : Parts fns pi) (hMd : Made fns mi) (hm : m ≤ 7) (hz0 : 0 ≤ size) (hz : size ≤ 7) (SS : Src h s c) :
    SsQ (callN fns (k + 2)) (fam2 ip pi mi) [some (.ref s), some most, some (.int size), x3, x4, some (.int way), some (.int (m : Int)), x7, x8, x9, x10, x11] h fun o => ∃ d h', o = .rt d h' ∧ FamOut s c h d h' := by
  obtain ⟨hs, hc⟩ := SS.lt
  have hnm : (nums m).length = m := by simp [nums]
  have hmin : bltn .min h [.v (.int (m : Int)), .v (.int size)] = some (.v (.int (if size < m then size else m)), h) := rfl
  refine q_cons (q_asg (q_call (q_escons (q_var rfl (q_escons (q_bin (q_bi (q_rscons (q_var rfl (q_rscons (q_var rfl (q_rsnil ⟨_, _, hmin, q_int ⟨_, rfl, q_esnil ((pick_ok hP SS ?_).mono ?_)⟩⟩))))))))))))
  · split <;> omega
  rintro d h1 ⟨p, rfl, p0, p1, G1, S1⟩
  refine ⟨_, rfl, ?_⟩
  show SsQ (callN fns (k + 2)) _ [some (.ref s), some most, some (.int size), x3, x4, some (.int way), some (.int (m : Int)), x7, some (.int p), x9, x10, x11] h1 _
  have hr : rangeOf [.v (.int (m : Int))] = some ((nums m).map D.int) := by
    rw [range_nat (by omega)]
    unfold nums
    rw [List.map_map]; rfl
  obtain ⟨d, h2, e0, n, g, rfl, rfl, hk, hn⟩ := hPa (k + 1) h1 (nums m) (by omega)
  have hpl : (partsA (nums m)).length ≤ 128 := by
    unfold partsA
    rw [parts_len, hnm]
    have := Nat.pow_le_pow_right (n := 2) (by decide) hm
    simpa using this
  have hwk : walkOf (h1 ++ g) (.v (.ref n)) = some ⟨(partsA (nums m)).map lotD, some (n, (partsA (nums m)).map lotD), none⟩ := by
    simp only [walkOf, seqOf, guardOf, hk]
  obtain ⟨h2, e, rfl⟩ := lc_fm (test := fun ρ h => evT (callN fns (k + 2)) (some (.cmp .eq (.bi .len [(.var 10)]) (.var 8))) ρ h) (elt := fun ρ h => asD (ev (callN fns (k + 2)) (.var 10) ρ h)) (tg := .nm 10)
    (w := ⟨(partsA (nums m)).map lotD, some (n, (partsA (nums m)).map lotD), none⟩) (ρ := wipeR [some (.ref s), some most, some (.int size), x3, x4, some (.int way), some (.int (m : Int)), x7, some (.int p), x9, x10, x11] [("lot", 10)]) lotD (fun l => if (l.length : Int) = p then some (lotD l) else none) (fun hh => hh = h1 ++ g) (partsA (nums m)) [] _ rfl (by
      rintro hh rfl
      simp only [Walk.ok, stays, hk]
      simp) (by simp; omega) (by
      rintro l hl hh rfl
      refine ⟨_, rfl, decide ((l.length : Int) = p), h1 ++ g, ?_, fun hz => ?_, fun hz => ?_⟩
      · have : TQ (callN fns (k + 2)) (some (.cmp .eq (.bi .len [(.var 10)]) (.var 8))) [some (.ref s), some most, some (.int size), x3, x4, some (.int way), some (.int (m : Int)), x7, some (.int p), x9, some (lotD l), x11] (h1 ++ g) fun b h2 => b = decide ((l.length : Int) = p) ∧ h2 = h1 ++ g :=
          q_tsome (q_cmp (q_bi (q_rscons (q_var rfl (q_rsnil ⟨_, _, len_lot, q_var rfl ⟨_, int_eq, _, rfl, rfl, rfl⟩⟩)))))
        obtain ⟨b, h2, e2, rfl, rfl⟩ := this
        exact e2
      · exact ⟨lotD l, _, rfl, by rw [if_pos (of_decide_eq_true hz)], rfl⟩
      · exact ⟨by rw [if_neg (of_decide_eq_false hz)], rfl⟩)
  rw [List.nil_append, sized_fm] at e
  refine q_cons (q_asg (q_lc (q_wof (q_call (q_escons (q_tupR (q_rscons (q_var rfl (q_rsnil ⟨_, hr, q_esnil ⟨_, _, e0, _, hwk, _, _, e, _, rfl, ?_⟩⟩)))))))))
  show SsQ (callN fns (k + 2)) _ [some (.ref s), some most, some (.int size), some (.ref (h1 ++ g).length), x4, some (.int way), some (.int (m : Int)), x7, some (.int p), x9, x10, x11] ((h1 ++ g) ++ [Cell.lst ((sizedA (partsA (nums m)) p).map lotD)]) _
  generalize hh2 : (h1 ++ g) ++ [Cell.lst ((sizedA (partsA (nums m)) p).map lotD)] = h2
  have hn2 : h.length ≤ (h1 ++ g).length := by have := G1.len; simp; omega
  have hk2 : look h2 (h1 ++ g).length = some (.lst ((sizedA (partsA (nums m)) p).map lotD)) := by rw [← hh2]; exact last_look
  have G2 : Grow s c h h2 := by rw [← hh2]; exact (G1.trans .app).trans .app
  have S2 : Src h2 s c := by rw [← hh2]; exact S1.app.app
  generalize (h1 ++ g).length = n2 at hn2 hk2 ⊢
  generalize hL1 : sizedA (partsA (nums m)) p = L1 at hk2 ⊢
  have hsub1 : ∀ l ∈ L1, List.Sublist l seven := fun l hl => by
    rw [← hL1] at hl
    exact (mem_parts.mp (List.mem_filter.mp hl).1).trans (nums_seven hm)
  have hlen1 : L1.length ≤ 128 := by rw [← hL1]; exact Nat.le_trans (List.length_filter_le _ _) hpl
  have hwk2 : walkOf h2 (.v (.ref n2)) = some ⟨L1.map lotD, some (n2, L1.map lotD), none⟩ := by
    simp only [walkOf, seqOf, guardOf, hk2]
  obtain ⟨ds, h3, e3, L2, rfl, hsub2, hlen2, hk3, G3, S3⟩ := lc_by (test := fun ρ h => evT (callN fns (k + 2)) (some (.cmp .gt (.call ip [(.var 0), (.int 5)]) (.int 0))) ρ h) (elt := fun ρ h => asD (ev (callN fns (k + 2)) (.var 10) ρ h)) (tg := .nm 10)
    (w := ⟨L1.map lotD, some (n2, L1.map lotD), none⟩) (ρ := wipeR [some (.ref s), some most, some (.int size), some (.ref n2), x4, some (.int way), some (.int (m : Int)), x7, some (.int p), x9, x10, x11] [("lot", 10)])
    (fun done acc hh => ∃ L2 : List Lot, acc = L2.map lotD ∧ (∀ l ∈ L2, List.Sublist l seven) ∧ L2.length ≤ done.length ∧ look hh n2 = some (.lst (L1.map lotD)) ∧ Grow s c h hh ∧ Src hh s c) (L1.map lotD) [] [] h2 ⟨[], rfl, by simp, Nat.le_refl _, hk2, G2, S2⟩ (by simp; omega) (by
      rintro done acc hh ⟨L2, rfl, _, _, hk, _⟩
      simp only [Walk.ok, stays, hk]
      simp) (by
      rintro d done rest acc hh hd ⟨L2, rfl, hsub2, hlen2, hk, G, SS⟩
      simp only [List.nil_append] at hd
      have hdm : d ∈ L1.map lotD := by rw [hd]; simp
      obtain ⟨l, hl, rfl⟩ := List.mem_map.mp hdm
      refine ⟨_, rfl, ?_⟩
      have : TQ (callN fns (k + 2)) (some (.cmp .gt (.call ip [(.var 0), (.int 5)]) (.int 0))) [some (.ref s), some most, some (.int size), some (.ref n2), x4, some (.int way), some (.int (m : Int)), x7, some (.int p), x9, some (lotD l), x11] hh fun b h4 => look h4 n2 = some (.lst (L1.map lotD)) ∧ Grow s c h h4 ∧ Src h4 s c := by
        refine q_tsome (q_cmp (q_call (q_escons (q_var rfl (q_escons (q_int (q_esnil ((pick_ok hP SS (by decide)).mono ?_))))))))
        rintro d h4 ⟨q, rfl, q0, q1, G4, S4⟩
        exact q_int ⟨_, rfl, _, rfl, G4.keep _ _ hk (by omega) (by omega), G.trans G4, S4⟩
      obtain ⟨b, h4, e4, hk4, G4, S4⟩ := this
      refine ⟨b, h4, e4, fun _ => ⟨lotD l, h4, rfl, L2 ++ [l], by simp, fun q hq => ?_, by simp; omega, hk4, G4, S4⟩, fun _ => ⟨L2, rfl, hsub2, by simp; omega, hk4, G4, S4⟩⟩
      rcases List.mem_append.mp hq with hq | hq
      · exact hsub2 q hq
      · rw [List.mem_singleton.mp hq]; exact hsub1 l hl)
  simp only [List.nil_append, List.length_map] at hlen2
  refine q_cons (q_ret (q_call (q_escons (q_var rfl (q_escons (q_lc (q_wof (q_var rfl ⟨_, hwk2, _, _, e3, q_esnil ((hMd k h3.length (h3 ++ [Cell.lst (L2.map lotD)]) m L2 last_look hsub2 (by omega)).mono ?_)⟩))))))))
  rintro d h5 ⟨rfl, g5, rfl⟩
  exact ⟨_, _, rfl, m, L2, rfl, hm, hsub2, by omega, (G3.trans .app).trans .app, S3.app.app⟩
end Co

set_option linter.all false
set_option maxRecDepth 100000
set_option autoImplicit false
/-! Core49: the first way of _law_family. -/
namespace Co
open PySem
def fam1 (ip im li mi : Nat) : List S := [(.asg (.nm 7) (.call im [(.var 0), (.lstR [(.int 6)])])), (.asg (.nm 3) (.lc (.nm 10) (.of (.call li [])) none (.bi .tuple [(.bi .sorted [(.lc (.nm 11) (.of (.var 10)) none (.ix (.var 7) (.var 11)) [("x", 11)])])]) [("lot", 10)])), (.ret (.call mi [(.int 6), (.bin .add (.var 3) (.bin .mul (.lst [(.tup [(.int 0)])]) (.call ip [(.var 0), (.int 2)])))]))]
theorem getD_at {Q : List Int} {i : Nat} (h : i < Q.length) : Q.getD i 0 = Q[i] := by
  rw [List.getD_eq_getElem?_getD, List.getElem?_eq_getElem h, Option.getD_some]
/-- the lot under a renaming -/
def img (Q : List Int) (l : Lot) : List Int := l.map fun x => Q.getD x.toNat 0
theorem img_nodup {Q : List Int} {l : Lot} (hQ : Q.Nodup) (hl : l.Nodup) (h : ∀ x ∈ l, 0 ≤ x ∧ x < Q.length) : (img Q l).Nodup := by
  unfold img
  rw [List.nodup_iff_pairwise_ne, List.pairwise_map]
  rw [List.nodup_iff_pairwise_ne] at hl
  refine List.Pairwise.imp_of_mem ?_ hl
  intro a b ha hb hab e
  have h1 := h a ha
  have h2 := h b hb
  rw [getD_at (by omega), getD_at (by omega)] at e
  rw [List.nodup_iff_pairwise_ne] at hQ
  rcases Nat.lt_trichotomy a.toNat b.toNat with hlt | heq | hlt
  · exact List.pairwise_iff_getElem.mp hQ _ _ (by omega) (by omega) hlt e
  · omega
  · exact List.pairwise_iff_getElem.mp hQ _ _ (by omega) (by omega) hlt e.symm
theorem img_sub {Q : List Int} {l : Lot} (hQ : Q.Perm (nums 6)) (hl : l.Nodup) (h : ∀ x ∈ l, 0 ≤ x ∧ x < 6) : List.Sublist ((img Q l).mergeSort leI) seven := by
  have hlen : Q.length = 6 := by rw [hQ.length_eq]; rfl
  have hn : Q.Nodup := hQ.nodup_iff.mpr (nums_nodup 6)
  refine up_seven (sorted_up (img_nodup hn hl fun x hx => by have := h x hx; omega)) fun x hx => ?_
  have h1 := (List.mergeSort_perm _ _).mem_iff.mp hx
  obtain ⟨y, hy, rfl⟩ := List.mem_map.mp h1
  have h2 := h y hy
  have h3 : Q.getD y.toNat 0 ∈ Q := by rw [getD_at (by omega)]; exact List.getElem_mem _
  have := nums_in (hQ.mem_iff.mp h3)
  omega
theorem plane_good : ∀ l ∈ planeL, l.Nodup ∧ ∀ x ∈ l, 0 ≤ x ∧ x < 6 := by decide
end Co

set_option linter.all false
set_option maxRecDepth 100000
set_option autoImplicit false
/-! Core50: chains, borders, readings in plain Lean. -/
namespace Co

def val (A : Num) (l : Lot) : Int := (aget A l).getD 0
def lin (A : Num) (f : Lot → Int) : Int := (A.map fun p => p.2 * f p.1).sum
abbrev Nd (A : Num) : Prop := (A.map (·.1)).Nodup
theorem lin_nil (f : Lot → Int) : lin [] f = 0 := rfl
theorem lin_cons (p : Lot × Int) (A : Num) (f : Lot → Int) : lin (p :: A) f = p.2 * f p.1 + lin A f := by simp [lin]
theorem lin_app (A B : Num) (f : Lot → Int) : lin (A ++ B) f = lin A f + lin B f := by simp [lin]
theorem lin_congr {A : Num} {f g : Lot → Int} (h : ∀ p ∈ A, f p.1 = g p.1) : lin A f = lin A g := by
  unfold lin
  congr 1
  exact List.map_congr_left fun p hp => by rw [h p hp]
theorem lin_zero {A : Num} {f : Lot → Int} (h : ∀ p ∈ A, f p.1 = 0) : lin A f = 0 := by
  induction A with
  | nil => rfl
  | cons p A ih => rw [lin_cons, h p List.mem_cons_self, ih fun q hq => h q (List.mem_cons_of_mem _ hq)]; omega
theorem val_nil (l : Lot) : val [] l = 0 := rfl
theorem val_cons (p : Lot × Int) (A : Num) (l : Lot) : val (p :: A) l = if p.1 = l then p.2 else val A l := by
  unfold val aget
  rw [List.find?_cons]
  by_cases h : p.1 = l
  · rw [if_pos h, decide_eq_true h]; rfl
  · rw [if_neg h, decide_eq_false h]
theorem val_put (A : Num) (l m : Lot) (x : Int) : val (aput A l x) m = if m = l then x else val A m := by
  unfold val; rw [aget_put]; split <;> rfl
theorem val_out {A : Num} {l : Lot} (h : l ∉ A.map (·.1)) : val A l = 0 := by
  induction A with
  | nil => rfl
  | cons p A ih =>
    simp only [List.map_cons, List.mem_cons, not_or] at h
    rw [val_cons, if_neg (Ne.symm h.1), ih h.2]
def dl (l : Lot) : Lot → Int := fun m => if m = l then 1 else 0
theorem lin_dl_out {A : Num} {l : Lot} (h : l ∉ A.map (·.1)) : lin A (dl l) = 0 :=
  lin_zero fun p hp => by
    unfold dl
    rw [if_neg]
    intro e
    exact h (e ▸ List.mem_map_of_mem hp)
theorem lin_dl {A : Num} (nd : Nd A) (l : Lot) : lin A (dl l) = val A l := by
  induction A with
  | nil => rfl
  | cons p A ih =>
    have nd' : p.1 ∉ A.map (·.1) ∧ (A.map (·.1)).Nodup := List.nodup_cons.mp nd
    rw [lin_cons, val_cons]
    unfold dl
    by_cases h : p.1 = l
    · rw [if_pos h, if_pos h]
      have := lin_dl_out (l := l) (h ▸ nd'.1)
      unfold dl at this
      rw [this]; omega
    · rw [if_neg h, if_neg h]
      have := ih nd'.2
      unfold dl at this
      rw [this]; omega
theorem aput_cons_eq {A : Num} {l : Lot} {x y : Int} (h : l ∉ A.map (·.1)) : aput ((l, y) :: A) l x = (l, x) :: A := by
  unfold aput
  rw [if_pos (by simp)]
  rw [List.map_cons, if_pos rfl]
  congr 1
  rw [List.map_congr_left (g := id) fun p hp => ?_, List.map_id]
  rw [if_neg]; rfl
  intro e
  exact h (e ▸ List.mem_map_of_mem hp)
theorem aput_cons_ne {A : Num} {p : Lot × Int} {l : Lot} {x : Int} (h : p.1 ≠ l) : aput (p :: A) l x = p :: aput A l x := by
  unfold aput
  rw [List.any_cons, decide_eq_false h, Bool.false_or, List.map_cons, if_neg h]
  split <;> rfl
theorem lin_put {A : Num} (nd : Nd A) (l : Lot) (x : Int) (f : Lot → Int) : lin (aput A l x) f = lin A f + (x - val A l) * f l := by
  induction A with
  | nil => simp [aput, lin, val_nil]
  | cons p A ih =>
    have nd' : p.1 ∉ A.map (·.1) ∧ (A.map (·.1)).Nodup := List.nodup_cons.mp nd
    obtain ⟨q, y⟩ := p
    by_cases h : q = l
    · subst h
      rw [aput_cons_eq nd'.1, lin_cons, lin_cons, val_cons, if_pos rfl, Int.sub_mul]; simp only; omega
    · rw [aput_cons_ne h, lin_cons, lin_cons, val_cons, if_neg h, ih nd'.2]; omega
theorem lin_add {A : Num} (nd : Nd A) (l : Lot) (x : Int) (f : Lot → Int) : lin (aput A l ((aget A l).getD 0 + x)) f = lin A f + x * f l := by
  rw [lin_put nd]
  show _ + (val A l + x - val A l) * _ = _
  rw [show val A l + x - val A l = x by omega]

/-! told -/
theorem lin_vals {A : Num} (nd : Nd A) (f : Lot → Int) : lin A f = ((A.map (·.1)).map fun l => val A l * f l).sum := by
  unfold lin
  rw [List.map_map]
  congr 1
  refine List.map_congr_left fun p hp => ?_
  simp only [Function.comp]
  congr 1
  induction A with
  | nil => cases hp
  | cons q A ih =>
    have nd' : q.1 ∉ A.map (·.1) ∧ (A.map (·.1)).Nodup := List.nodup_cons.mp nd
    rw [val_cons]
    rcases List.mem_cons.mp hp with rfl | hp
    · rw [if_pos rfl]
    · rw [if_neg, ih nd'.2 hp]
      intro e
      exact nd'.1 (e ▸ List.mem_map_of_mem hp)
theorem perm_sum {a b : List Int} (h : a.Perm b) : a.sum = b.sum := by
  induction h with
  | nil => rfl
  | cons x _ ih => simp [ih]
  | swap x y l => simp; omega
  | trans _ _ h1 h2 => rw [h1, h2]
def keysT (A : Num) : List Lot := (A.map (·.1)).mergeSort lotLe
theorem told_eq (A : Num) : told A = ((keysT A).filter fun l => decide (val A l ≠ 0)).map fun l => (l, val A l) := by
  unfold told
  show (keysT A).filterMap _ = _
  generalize keysT A = ks
  induction ks with
  | nil => rfl
  | cons k ks ih =>
    rw [List.filterMap_cons, List.filter_cons]
    by_cases h : (aget A k).getD 0 = 0
    · rw [if_pos h, if_neg (by unfold val; simpa using h)]; exact ih
    · rw [if_neg h, if_pos (by unfold val; simpa using h), List.map_cons, ← ih]; rfl
theorem keys_perm (A : Num) : (keysT A).Perm (A.map (·.1)) := List.mergeSort_perm _ _
theorem keys_nd {A : Num} (nd : Nd A) : (keysT A).Nodup := (keys_perm A).nodup_iff.mpr nd
theorem told_keys (A : Num) : (told A).map (·.1) = (keysT A).filter fun l => decide (val A l ≠ 0) := by
  rw [told_eq, List.map_map]
  show List.map id _ = _
  exact List.map_id _
theorem told_nd {A : Num} (nd : Nd A) : Nd (told A) := by
  show ((told A).map (·.1)).Nodup
  rw [told_keys]; exact (keys_nd nd).filter _
theorem sum_filter (g : Lot → Int) (p : Lot → Bool) (h : ∀ l, p l = false → g l = 0) : ∀ ks : List Lot, ((ks.filter p).map g).sum = (ks.map g).sum
  | [] => rfl
  | k :: ks => by
    have ih := sum_filter g p h ks
    rw [List.filter_cons]
    cases hp : p k with
    | true => rw [if_pos rfl]; simp [ih]
    | false => rw [if_neg (by simp)]; simp [ih, h k hp]
theorem lin_told {A : Num} (nd : Nd A) (f : Lot → Int) : lin (told A) f = lin A f := by
  rw [lin_vals nd, ← perm_sum ((keys_perm A).map _), told_eq]
  unfold lin
  rw [List.map_map]
  refine sum_filter (fun l => val A l * f l) _ ?_ _
  intro l hl
  have : val A l = 0 := by simpa using hl
  rw [this]; simp
theorem val_told {A : Num} (nd : Nd A) (l : Lot) : val (told A) l = val A l := by
  rw [← lin_dl (told_nd nd), lin_told nd, lin_dl nd]
theorem told_ext {A B : Num} (na : Nd A) (nb : Nd B) (h : ∀ l, val A l = val B l) : told A = told B := by
  rw [told_eq, told_eq]
  have e : ((keysT A).filter fun l => decide (val A l ≠ 0)) = (keysT B).filter fun l => decide (val B l ≠ 0) := by
    have pw : ∀ C : Num, List.Pairwise (fun a b => lotLe a b = true) ((keysT C).filter fun l => decide (val C l ≠ 0)) := fun C =>
      (List.pairwise_mergeSort (fun a b c => lotLe_trans a b c) lotLe_total _).filter _
    refine List.Perm.eq_of_pairwise (le := fun a b => lotLe a b = true) (fun a b _ _ => lotLe_anti) (pw A) (pw B) ?_
    refine (List.perm_ext_iff_of_nodup ((keys_nd na).filter _) ((keys_nd nb).filter _)).mpr fun l => ?_
    have key : ∀ C : Num, l ∈ (keysT C).filter (fun l => decide (val C l ≠ 0)) ↔ val C l ≠ 0 := fun C => by
      rw [List.mem_filter, decide_eq_true_iff]
      refine ⟨fun z => z.2, fun z => ⟨?_, z⟩⟩
      rw [(keys_perm C).mem_iff]
      exact Classical.byContradiction fun q => z (val_out q)
    rw [key A, key B, h]
  rw [e]
  exact List.map_congr_left fun l _ => by rw [h]
theorem told_nil {A : Num} (h : ∀ l, val A l = 0) : told A = [] := by
  rw [told_eq]
  rw [List.filter_eq_nil_iff.mpr]; rfl
  intro l _
  simp [h]
theorem told_told {A : Num} (nd : Nd A) : told (told A) = told A := told_ext (told_nd nd) nd (val_told nd)

/-! borders -/
def dd (f : Lot → Int) (m : Lot) : Int := ((List.range m.length).map fun k => sgn k 1 * f (m.eraseIdx k)).sum
theorem sgn_mul (k : Nat) (x : Int) : sgn k x = x * sgn k 1 := by
  unfold sgn; split <;> omega
theorem sgn_succ (k : Nat) (x : Int) : sgn (k + 1) x = - sgn k x := by
  unfold sgn; split <;> split <;> omega
theorem sum_neg {α : Type} (g : α → Int) : ∀ ks : List α, (ks.map fun k => - g k).sum = - (ks.map g).sum
  | [] => rfl
  | k :: ks => by simp [sum_neg g ks]; omega
theorem dd_nil (f : Lot → Int) : dd f [] = 0 := rfl
theorem dd_cons (f : Lot → Int) (a : Int) (m : Lot) : dd f (a :: m) = f m - dd (fun r => f (a :: r)) m := by
  unfold dd
  rw [List.length_cons, List.range_succ_eq_map, List.map_cons, List.map_map, List.sum_cons]
  have e : ((fun k => sgn k 1 * f ((a :: m).eraseIdx k)) ∘ Nat.succ) = fun k => -(sgn k 1 * f (a :: m.eraseIdx k)) := by
    funext k
    simp only [Function.comp, Nat.succ_eq_add_one, List.eraseIdx_cons_succ, sgn_succ, Int.neg_mul]
  rw [e, sum_neg (fun k => sgn k 1 * f (a :: m.eraseIdx k))]
  simp [sgn]
  omega
theorem dd_sub (f g : Lot → Int) (m : Lot) : dd (fun r => f r - g r) m = dd f m - dd g m := by
  unfold dd
  generalize List.range m.length = ks
  induction ks with
  | nil => rfl
  | cons k ks ih =>
    simp only [List.map_cons, List.sum_cons, Int.mul_sub] at ih ⊢
    omega
theorem dd_dd : ∀ (m : Lot) (f : Lot → Int), dd (dd f) m = 0
  | [], f => rfl
  | a :: m, f => by
    rw [dd_cons]
    have e : (fun r => dd f (a :: r)) = fun r => f r - dd (fun s => f (a :: s)) r := by funext r; rw [dd_cons]
    rw [e, dd_sub, dd_dd m]
    omega
theorem dd_congr {f g : Lot → Int} {m : Lot} (h : ∀ k, k < m.length → f (m.eraseIdx k) = g (m.eraseIdx k)) : dd f m = dd g m := by
  unfold dd
  congr 1
  exact List.map_congr_left fun k hk => by rw [h k (List.mem_range.mp hk)]
theorem sides_lin (x : Int) (l : Lot) (f : Lot → Int) : ∀ (ks : List Nat) (acc : Num), Nd acc → Nd (ks.foldl (sideStep x l) acc) ∧ lin (ks.foldl (sideStep x l) acc) f = lin acc f + x * (ks.map fun k => sgn k 1 * f (l.eraseIdx k)).sum
  | [], acc, nd => ⟨nd, by simp⟩
  | k :: ks, acc, nd => by
    have nd1 : Nd (sideStep x l acc k) := aput_nodup nd
    obtain ⟨h1, h2⟩ := sides_lin x l f ks _ nd1
    refine ⟨h1, ?_⟩
    rw [List.foldl_cons, h2]
    unfold sideStep
    rw [lin_add nd, List.map_cons, List.sum_cons, Int.mul_add, sgn_mul k x, Int.mul_assoc]
    omega
theorem lots_lin (f : Lot → Int) : ∀ (A acc : Num), Nd acc → Nd (A.foldl lotStep acc) ∧ lin (A.foldl lotStep acc) f = lin acc f + lin A (dd f)
  | [], acc, nd => ⟨nd, by simp [lin]⟩
  | p :: A, acc, nd => by
    obtain ⟨h1, h2⟩ := sides_lin p.2 p.1 f (List.range p.1.length) acc nd
    obtain ⟨h3, h4⟩ := lots_lin f A (lotStep acc p) h1
    refine ⟨h3, ?_⟩
    rw [List.foldl_cons, h4, lin_cons]
    show lin (List.foldl _ _ _) f + _ = _
    rw [h2]
    unfold dd
    omega
theorem bord_nd (A : Num) : Nd (bordA A) := (lots_lin (fun _ => 0) A [] List.nodup_nil).1
theorem lin_bord (A : Num) (f : Lot → Int) : lin (bordA A) f = lin A (dd f) := by
  have := (lots_lin f A [] List.nodup_nil).2
  rw [lin_nil, Int.zero_add] at this
  exact this
theorem val_bord (A : Num) (l : Lot) : val (bordA A) l = lin A (dd (dl l)) := by rw [← lin_dl (bord_nd A), lin_bord]
theorem lin_dd_dd (A : Num) (f : Lot → Int) : lin A (dd (dd f)) = 0 := lin_zero fun p _ => dd_dd _ _
/-- a border's border -/
theorem bord_bord (A : Num) : told (bordA (told (bordA A))) = [] :=
  told_nil fun l => by rw [val_bord, lin_told (bord_nd A), lin_bord, lin_dd_dd]
/-! sums -/
theorem sum_lin (t : Int) (f : Lot → Int) : ∀ (B A : Num), Nd A → Nd (sumA A B t) ∧ lin (sumA A B t) f = lin A f + t * lin B f
  | [], A, nd => ⟨nd, by simp [sumA, lin]⟩
  | p :: B, A, nd => by
    obtain ⟨h1, h2⟩ := sum_lin t f B (addTo t A p) (aput_nodup nd)
    refine ⟨h1, ?_⟩
    show lin (sumA (addTo t A p) B t) f = _
    rw [h2, lin_cons, Int.mul_add]
    unfold addTo
    rw [lin_add nd, Int.mul_assoc]
    omega
theorem sum_nd {A : Num} (nd : Nd A) (B : Num) (t : Int) : Nd (sumA A B t) := (sum_lin t (fun _ => 0) B A nd).1
theorem lin_sum {A : Num} (nd : Nd A) (B : Num) (t : Int) (f : Lot → Int) : lin (sumA A B t) f = lin A f + t * lin B f := (sum_lin t f B A nd).2
/-- the border of a sum -/
theorem bord_sum {A : Num} (nd : Nd A) (B : Num) (t : Int) : told (bordA (told (sumA A B t))) = told (sumA (told (bordA A)) (told (bordA B)) t) := by
  refine told_ext (bord_nd _) (sum_nd (told_nd (bord_nd A)) _ _) fun l => ?_
  rw [val_bord, lin_told (sum_nd nd _ _), lin_sum nd, ← lin_dl (sum_nd (told_nd (bord_nd A)) _ _), lin_sum (told_nd (bord_nd A)), lin_told (bord_nd A), lin_told (bord_nd B), lin_bord, lin_bord]
/-! readings -/
theorem reads_lin (A B : Num) : readsA A B = lin B (val A) := rfl
theorem reads_bord (row : Num) (A : Num) : readsA row (told (bordA A)) = lin A (dd (val row)) := by
  rw [reads_lin, lin_told (bord_nd A), lin_bord]
theorem step_keys (F : List Lot) (s : Int) (row : Num) : (stepA F s row).map (·.1) = sizedA F s := by
  unfold stepA
  rw [List.map_map]
  show List.map id _ = _
  exact List.map_id _
theorem step_nd {F : List Lot} (hF : F.Nodup) (s : Int) (row : Num) : Nd (stepA F s row) := by
  show ((stepA F s row).map (·.1)).Nodup
  rw [step_keys]; exact hF.filter _
theorem val_map (g : Lot → Int) : ∀ (L : List Lot) (l : Lot), val (L.map fun m => (m, g m)) l = if l ∈ L then g l else 0
  | [], l => by simp [val_nil]
  | m :: L, l => by
    rw [List.map_cons, val_cons, val_map g L l]
    by_cases h : m = l
    · subst h; simp
    · rw [if_neg h]; simp [Ne.symm h]
theorem val_step (F : List Lot) (s : Int) (row : Num) (l : Lot) : val (stepA F s row) l = if l ∈ sizedA F s then dd (val row) l else 0 := by
  unfold stepA
  rw [val_map]
  split
  · rw [reads_bord, lin_cons, lin_nil]; simp
  · rfl
theorem mem_sized {F : List Lot} {s : Int} {l : Lot} : l ∈ sizedA F s ↔ l ∈ F ∧ (l.length : Int) = s := by
  unfold sizedA; rw [List.mem_filter, decide_eq_true_iff]
/-- a step up, stepped up again -/
theorem step_step {F : List Lot} (hF : F.Nodup) (hc : ∀ l ∈ F, ∀ k, k < l.length → l.eraseIdx k ∈ F) (s : Int) (row : Num) : told (stepA F (s + 1) (told (stepA F s row))) = [] := by
  refine told_nil fun l => ?_
  rw [val_step]
  split
  · rename_i hl
    obtain ⟨h1, h2⟩ := mem_sized.mp hl
    rw [dd_congr (g := dd (val row)), dd_dd]
    intro k hk
    rw [val_told (step_nd hF _ _), val_step, if_pos]
    refine mem_sized.mpr ⟨hc l h1 k hk, ?_⟩
    rw [List.length_eraseIdx, if_pos hk]
    omega
  · rfl
/-- a row stepped up reads as the row reads the border -/
theorem step_reads {F : List Lot} (hF : F.Nodup) (s : Int) (row late : Num) (h : ∀ p ∈ late, p.1 ∈ sizedA F s) : readsA (told (stepA F s row)) late = readsA row (told (bordA late)) := by
  rw [reads_bord, reads_lin]
  refine lin_congr fun p hp => ?_
  rw [val_told (step_nd hF _ _), val_step, if_pos (h p hp)]
/-! how large -/
theorem dd_bound {f : Lot → Int} {c : Int} (hc : ∀ l, -c ≤ f l ∧ f l ≤ c) (m : Lot) : -(c * m.length) ≤ dd f m ∧ dd f m ≤ c * m.length := by
  unfold dd
  have : ∀ ks : List Nat, -(c * ks.length) ≤ (ks.map fun k => sgn k 1 * f (m.eraseIdx k)).sum ∧ (ks.map fun k => sgn k 1 * f (m.eraseIdx k)).sum ≤ c * ks.length := by
    intro ks
    induction ks with
    | nil => simp
    | cons k ks ih =>
      rw [List.map_cons, List.sum_cons, List.length_cons]
      have h1 := hc (m.eraseIdx k)
      have e : c * ((ks.length + 1 : Nat) : Int) = c * ks.length + c := by rw [Int.natCast_add, Int.mul_add]; simp
      rw [e]
      generalize f (m.eraseIdx k) = y at h1 ⊢
      generalize c * (ks.length : Int) = z at ih ⊢
      have hs : sgn k 1 = 1 ∨ sgn k 1 = -1 := by unfold sgn; split <;> simp
      rcases hs with hs | hs <;> rw [hs] <;> omega
  have := this (List.range m.length)
  rw [List.length_range] at this
  exact this
theorem mem_told {A : Num} {p : Lot × Int} (h : p ∈ told A) : p.1 ∈ A.map (·.1) ∧ p.2 = val A p.1 ∧ p.2 ≠ 0 := by
  rw [told_eq] at h
  obtain ⟨l, hl, rfl⟩ := List.mem_map.mp h
  obtain ⟨h1, h2⟩ := List.mem_filter.mp hl
  exact ⟨(keys_perm A).mem_iff.mp h1, rfl, by simpa using h2⟩
theorem val_in {A : Num} {c : Int} (c0 : 0 ≤ c) (h : ∀ p ∈ A, -c ≤ p.2 ∧ p.2 ≤ c) (l : Lot) : -c ≤ val A l ∧ val A l ≤ c := by
  unfold val
  cases e : aget A l with
  | none => simp; omega
  | some v => exact h _ (aget_in e)
end Co

set_option linter.all false
set_option maxRecDepth 100000
set_option autoImplicit false
/-! Core51: _law_family. -/
namespace Co
open PySem
theorem fm_some {α β : Type} (f : α → β) (l : List α) : l.filterMap (fun a => some (f a)) = l.map f := by
  rw [← List.filterMap_eq_map]; rfl
theorem fam1_ok {fns : List Fn} {ip im li mi k s c m : Nat} {h : Hh} {most : D} {size way : Int} {x3 x4 x7 x8 x9 x10 x11 : Option D} {ln : Fn} (hP : fns[ip]? = some pickFn) (hM : fns[im]? = some (mixedFn ip)) (hMd : Made fns mi)
    (hl : fns[li]? = some ln) (hlb : ln.body = planeBody) (hlN : ln.N.length = 3) (hlp : ln.np = 0) (SS : Src h s c) :
    SsQ (callN fns (k + 2)) (fam1 ip im li mi) [some (.ref s), some most, some (.int size), x3, x4, some (.int way), some (.int (m : Int)), x7, x8, x9, x10, x11] h fun o => ∃ d h', o = .rt d h' ∧ FamOut s c h d h' := by
  obtain ⟨hs, hc⟩ := SS.lt
  have hr : rangeOf [.v (.int 6)] = some ((nums 6).map D.int) := by
    rw [show (6 : Int) = ((6 : Nat) : Int) from rfl, range_nat (by omega)]
    unfold nums
    rw [List.map_map]; rfl
  refine q_cons (q_asg (q_call (q_escons (q_var rfl (q_escons (q_lstR (q_rscons (q_int (q_rsnil ⟨_, hr, q_esnil ((mixed_ok (ds := (nums 6).map D.int) hP hM (SS.app (g := [Cell.lst ((nums 6).map D.int)])) ?_ (by simp [nums])).mono ?_)⟩)))))))))
  · show seqOf (h ++ [Cell.lst ((nums 6).map D.int)]) (.v (.ref h.length)) = _
    simp only [seqOf, last_look]
  rintro d h2 ⟨n, ds', rfl, hd, hp, hn, G2, S2⟩
  have hn' : h.length ≤ n := by simp at hn; omega
  obtain ⟨Q, rfl, hQ⟩ := perm_ints hp
  have hQl : Q.length = 6 := by rw [hQ.length_eq]; rfl
  refine ⟨_, rfl, ?_⟩
  show SsQ (callN fns (k + 2)) _ [some (.ref s), some most, some (.int size), x3, x4, some (.int way), some (.int (m : Int)), some (.ref n), x8, x9, x10, x11] h2 _
  obtain ⟨d, h3, e0, rfl, rfl⟩ := plane_ok (k := k + 1) (h := h2) hl hlb hlN hlp
  have hk : look (h2 ++ [Cell.lst (planeL.map lotD)]) h2.length = some (.lst (planeL.map lotD)) := last_look
  have hwk : walkOf (h2 ++ [Cell.lst (planeL.map lotD)]) (.v (.ref h2.length)) = some ⟨planeL.map lotD, some (h2.length, planeL.map lotD), none⟩ := by
    simp only [walkOf, seqOf, guardOf, hk]
  have hnk : look (h2 ++ [Cell.lst (planeL.map lotD)]) n = some (.lst (Q.map D.int)) := by
    unfold look
    rw [List.getElem?_append_left (List.getElem?_eq_some_iff.mp hd).1]; exact hd
  have hG2 : Grow s c h h2 := Grow.trans .app G2
  generalize hh3 : h2 ++ [Cell.lst (planeL.map lotD)] = h3 at e0 hk hwk hnk
  have G3 : Grow s c h h3 := by rw [← hh3]; exact hG2.trans .app
  have S3 : Src h3 s c := by rw [← hh3]; exact S2.app
  obtain ⟨h3', e, hq3⟩ := lc_fm (test := fun ρ h => evT (callN fns (k + 2)) none ρ h) (elt := fun ρ h => asD (ev (callN fns (k + 2)) (.bi .tuple [(.bi .sorted [(.lc (.nm 11) (.of (.var 10)) none (.ix (.var 7) (.var 11)) [("x", 11)])])]) ρ h)) (tg := .nm 10)
    (w := ⟨planeL.map lotD, some (h2.length, planeL.map lotD), none⟩) (ρ := wipeR [some (.ref s), some most, some (.int size), x3, x4, some (.int way), some (.int (m : Int)), some (.ref n), x8, x9, x10, x11] [("lot", 10)]) lotD (fun l => some (lotD ((img Q l).mergeSort leI))) (fun hh => hh = h3) planeL [] _ rfl (by
      rintro hh rfl
      simp only [Walk.ok, stays, hk]
      simp) (by decide) (by
      rintro l hl hh rfl
      refine ⟨_, rfl, true, hh, rfl, fun _ => ?_, fun hz => nomatch hz⟩
      have hin := (plane_good l hl).2
      have hlen : l.length ≤ 3 := by
        have : ∀ l ∈ planeL, l.length ≤ 3 := by decide
        exact this l hl
      have : EQ (callN fns (k + 2)) (.bi .tuple [(.bi .sorted [(.lc (.nm 11) (.of (.var 10)) none (.ix (.var 7) (.var 11)) [("x", 11)])])]) [some (.ref s), some most, some (.int size), x3, x4, some (.int way), some (.int (m : Int)), some (.ref n), x8, x9, some (lotD l), x11] hh fun r h4 => r = .v (lotD ((img Q l).mergeSort leI)) ∧ h4 = hh := by
        obtain ⟨h4, e4, rfl⟩ := lc_fm (test := fun ρ h => evT (callN fns (k + 2)) none ρ h) (elt := fun ρ h => asD (ev (callN fns (k + 2)) (.ix (.var 7) (.var 11)) ρ h)) (tg := .nm 11)
          (w := ⟨l.map D.int, none, none⟩) (ρ := wipeR [some (.ref s), some most, some (.int size), x3, x4, some (.int way), some (.int (m : Int)), some (.ref n), x8, x9, some (lotD l), x11] [("x", 11)]) D.int (fun x => some (.int (Q.getD x.toNat 0))) (fun h5 => h5 = hh) l [] _ rfl (fun _ _ => rfl) (by simp; omega) (by
            rintro x hx h5 rfl
            refine ⟨_, rfl, true, _, rfl, fun _ => ?_, fun hz => nomatch hz⟩
            have hx' := hin x hx
            have hat : item h5 (.v (.ref n)) (.v (.int x)) = some (.int (Q.getD x.toNat 0)) := by
              simp only [item, hnk, seqOf]
              unfold L2.atI L2.ixN
              rw [if_pos hx'.1, if_pos (by simp [hQl]; omega)]
              simp only [Option.bind_some]
              rw [List.getElem?_map, List.getElem?_eq_getElem (by omega), getD_at (by omega)]
              rfl
            have : EQ (callN fns (k + 2)) (.ix (.var 7) (.var 11)) [some (.ref s), some most, some (.int size), x3, x4, some (.int way), some (.int (m : Int)), some (.ref n), x8, x9, some (lotD l), some (.int x)] h5 fun r h6 => r = .v (.int (Q.getD x.toNat 0)) ∧ h6 = h5 :=
              q_ix (q_var rfl (q_var rfl ⟨_, hat, rfl, rfl⟩))
            obtain ⟨r, h6, e6, rfl, rfl⟩ := this
            refine ⟨_, _, ?_, rfl, rfl⟩
            show asD (ev _ _ [some (.ref s), some most, some (.int size), x3, x4, some (.int way), some (.int (m : Int)), some (.ref n), x8, x9, some (lotD l), some (.int x)] _) = _
            rw [e6]; rfl)
        have hso : bltn .sorted h4 [.f ([] ++ l.filterMap fun x => some (D.int (Q.getD x.toNat 0)))] = some (.f (((img Q l).mergeSort leI).map D.int), h4) := by
          rw [List.nil_append, fm_some (fun x : Int => D.int (Q.getD x.toNat 0)), show (l.map fun x => D.int (Q.getD x.toNat 0)) = (img Q l).map D.int by unfold img; rw [List.map_map]; rfl]
          simp only [bltn, biSorted, iterOf, seqOf]
          rw [sort_ints (by unfold img; simp; omega)]
          rfl
        exact q_bi (q_rscons (q_bi (q_rscons (q_lc (q_wof (q_var rfl ⟨_, rfl, _, _, e4, q_rsnil ⟨_, _, hso, q_rsnil ⟨_, _, rfl, rfl, rfl⟩⟩⟩))))))
      obtain ⟨r, h4, e4, rfl, rfl⟩ := this
      refine ⟨_, _, ?_, rfl, rfl⟩
      show asD (ev _ _ [some (.ref s), some most, some (.int size), x3, x4, some (.int way), some (.int (m : Int)), some (.ref n), x8, x9, some (lotD l), x11] _) = _
      rw [e4]; rfl)
  rw [hq3] at e
  rw [List.nil_append, fm_some (fun l => lotD ((img Q l).mergeSort leI)), show (planeL.map fun l => lotD ((img Q l).mergeSort leI)) = (planeL.map fun l => (img Q l).mergeSort leI).map lotD by rw [List.map_map]; rfl] at e
  generalize hL1 : (planeL.map fun l => (img Q l).mergeSort leI) = L1 at e
  have hL1l : L1.length = 10 := by rw [← hL1]; rfl
  have hsub1 : ∀ l ∈ L1, List.Sublist l seven := fun l hl => by
    rw [← hL1] at hl
    obtain ⟨x, hx, rfl⟩ := List.mem_map.mp hl
    exact img_sub hQ (plane_good x hx).1 (plane_good x hx).2
  refine q_cons (q_asg (q_lc (q_wof (q_call (q_esnil ⟨_, _, e0, _, hwk, _, _, e, _, rfl, ?_⟩)))))
  show SsQ (callN fns (k + 2)) _ [some (.ref s), some most, some (.int size), some (.ref h3.length), x4, some (.int way), some (.int (m : Int)), some (.ref n), x8, x9, x10, x11] (h3 ++ [Cell.lst (L1.map lotD)]) _
  have hG3 := G3.len
  refine q_cons (q_ret (q_call (q_escons (q_int (q_escons (q_bin (q_var rfl (q_bin (q_lst (q_escons (q_tup (q_escons (q_int (q_esnil ⟨rfl, q_esnil ⟨rfl, q_call (q_escons (q_var rfl (q_escons (q_int (q_esnil ((pick_ok hP (S3.app (g := [Cell.lst (L1.map lotD)])) (by decide)).mono ?_))))))⟩⟩))))))))))))))
  rintro d h4 ⟨p, rfl, p0, p1, G4, S4⟩
  have hk4 : look h4 h3.length = some (.lst (L1.map lotD)) := G4.keep _ _ last_look (by omega) (by omega)
  have hp : p = 0 ∨ p = 1 := by omega
  have fin : ∀ L2 : List Lot, (∀ l ∈ L2, List.Sublist l seven) → L2.length ≤ 20 → CQ (callN fns (k + 2)) mi [.int 6, .ref h4.length] (h4 ++ [Cell.lst (L2.map lotD)]) fun d h' => FamOut s c h d h' := fun L2 h1 h2 => by
    refine (hMd k h4.length _ 6 L2 last_look h1 (by omega)).mono ?_
    rintro d h5 ⟨rfl, g5, rfl⟩
    exact ⟨6, L2, rfl, by decide, h1, by omega, ((G3.trans .app).trans G4).trans (Grow.trans .app .app), S4.app.app⟩
  rcases hp with rfl | rfl
  · have h1 : binop .mul h4 (.f [.tup [.int 0]]) (.v (.int 0)) = some (.f []) := rfl
    have h2 : binop .add h4 (.v (.ref h3.length)) (.f []) = some (.f (L1.map lotD)) := by
      simp only [binop, lstOf, hk4]
      rw [List.append_nil, if_pos (by simp [small, hL1l])]
    refine ⟨_, h1, _, h2, q_esnil ((fin L1 hsub1 (by omega)).mono ?_)⟩
    intro d h5 q
    exact ⟨_, _, rfl, q⟩
  · have h1 : binop .mul h4 (.f [.tup [.int 0]]) (.v (.int 1)) = some (.f [.tup [.int 0]]) := rfl
    have h2 : binop .add h4 (.v (.ref h3.length)) (.f [.tup [.int 0]]) = some (.f ((L1 ++ [[0]]).map lotD)) := by
      simp only [binop, lstOf, hk4]
      rw [if_pos (by simp [small, hL1l]), List.map_append]
      rfl
    refine ⟨_, h1, _, h2, q_esnil ((fin (L1 ++ [[0]]) (fun l hl => ?_) (by simp [hL1l])).mono ?_)⟩
    · rcases List.mem_append.mp hl with hl | hl
      · exact hsub1 l hl
      · rw [List.mem_singleton.mp hl]; decide
    · intro d h5 q
      exact ⟨_, _, rfl, q⟩
end Co

set_option linter.all false
set_option maxRecDepth 100000
set_option autoImplicit false
/-! Core52: _law_family, all ways. -/
namespace Co
open PySem
def famBody (ip im li pi mi : Nat) : List S := (.par [5, 6] [(.call ip [(.var 0), (.int 6)]), (.call ip [(.var 0), (.bin .add (.var 1) (.int 1))])]) :: (.ite (.and (.cmp .eq (.var 5) (.int 0)) (.and (.cmp .gt (.var 1) (.int 5)) (.cmp .gt (.var 2) (.int 2)))) (fam1 ip im li mi) []) :: (.ite (.cmp .eq (.var 5) (.int 1)) (fam2 ip pi mi) []) :: fam3 ip im mi
theorem FamOut.after {s c : Nat} {h h1 : Hh} {d : D} {h' : Hh} (G : Grow s c h h1) (F : FamOut s c h1 d h') : FamOut s c h d h' := by
  obtain ⟨m, L, e, a, b, e2, G2, S2⟩ := F
  exact ⟨m, L, e, a, b, e2, G.trans G2, S2⟩
theorem int_gt {h : Hh} {i j : Int} : cmpop .gt h (.v (.int i)) (.v (.int j)) = some (decide (j < i)) := rfl
theorem family_ok {fns : List Fn} {f ip im li pi mi k s c : Nat} {h : Hh} {most size : Int} {fn ln : Fn} (hP : fns[ip]? = some pickFn) (hM : fns[im]? = some (mixedFn ip)) (hPa : Parts fns pi) (hMd : Made fns mi)
    (hl : fns[li]? = some ln) (hlb : ln.body = planeBody) (hlN : ln.N.length = 3) (hlp : ln.np = 0) (hf : fns[f]? = some fn) (hb : fn.body = famBody ip im li pi mi) (hN : fn.N.length = 12) (hnp : fn.np = 3)
    (m0 : 0 ≤ most) (m1 : most ≤ 7) (z0 : 0 ≤ size) (z1 : size ≤ 7) (SS : Src h s c) :
    CQ (callN fns (k + 3)) f [.ref s, .int most, .int size] h fun d h' => FamOut s c h d h' := by
  refine q_fn hf hnp.symm ?_
  rw [hb, hN]
  show SsQ (callN fns (k + 2)) (famBody ip im li pi mi) [some (.ref s), some (.int most), some (.int size), none, none, none, none, none, none, none, none, none] h _
  refine q_cons (q_par (q_escons (q_call (q_escons (q_var rfl (q_escons (q_int (q_esnil ((pick_ok hP SS (by decide)).mono ?_)))))))))
  rintro d h1 ⟨way, rfl, w0, w1, G1, S1⟩
  refine q_escons (q_call (q_escons (q_var rfl (q_escons (q_bin (q_var rfl (q_int ⟨_, rfl, q_esnil ((pick_ok hP S1 (by omega)).mono ?_)⟩)))))))
  rintro d h2 ⟨m, rfl, p0, p1, G2, S2⟩
  have hm : m = (m.toNat : Int) := by omega
  have hm7 : m.toNat ≤ 7 := by omega
  rw [hm]
  refine q_esnil ⟨_, rfl, ?_⟩
  show SsQ (callN fns (k + 2)) _ [some (.ref s), some (.int most), some (.int size), none, none, some (.int way), some (.int (m.toNat : Int)), none, none, none, none, none] h2 _
  have G := G1.trans G2
  have last : SsQ (callN fns (k + 2)) (fam3 ip im mi) [some (.ref s), some (.int most), some (.int size), none, none, some (.int way), some (.int (m.toNat : Int)), none, none, none, none, none] h2 fun o => match o with
    | .nx _ h' => FamOut s c h .non h'
    | .rt d h' => FamOut s c h d h'
    | _ => False := (fam3_ok hP hM hMd hm7 z0 z1 S2).mono fun o ⟨d, h', e, F⟩ => by subst e; exact F.after G
  have second : SsQ (callN fns (k + 2)) ((.ite (.cmp .eq (.var 5) (.int 1)) (fam2 ip pi mi) []) :: fam3 ip im mi) [some (.ref s), some (.int most), some (.int size), none, none, some (.int way), some (.int (m.toNat : Int)), none, none, none, none, none] h2 fun o => match o with
    | .nx _ h' => FamOut s c h .non h'
    | .rt d h' => FamOut s c h d h'
    | _ => False := by
    refine q_cons (q_if (q_cmp (q_var rfl (q_int ⟨_, int_eq, _, rfl, fun _ => ?_, fun _ => q_nil last⟩))))
    refine (fam2_ok hP hPa hMd hm7 z0 z1 S2).mono fun o ⟨d, h', e, F⟩ => ?_
    subst e
    exact F.after G
  refine q_cons (q_if (q_and (q_cmp (q_var rfl (q_int ⟨_, int_eq, _, rfl, fun _ => ?_, fun _ => ⟨_, rfl, fun hz => (nomatch hz), fun _ => q_nil second⟩⟩)))))
  refine q_and (q_cmp (q_var rfl (q_int ⟨_, int_gt, _, rfl, fun _ => ?_, fun _ => ⟨_, rfl, fun hz => (nomatch hz), fun _ => q_nil second⟩⟩)))
  refine q_cmp (q_var rfl (q_int ⟨_, int_gt, _, rfl, fun _ => ?_, fun _ => q_nil second⟩))
  refine (fam1_ok hP hM hMd hl hlb hlN hlp S2).mono fun o ⟨d, h', e, F⟩ => ?_
  subst e
  exact F.after G
end Co

set_option linter.all false
set_option maxRecDepth 100000
set_option autoImplicit false
/-! Core53: judging things and lots. -/
namespace Co
open PySem

/-- anything whose kind is known -/
def kn (h : Hh) (d : D) : Bool := knownTy h (.v d)
mutual
/-- .. also within tuples -/
def vl (h : Hh) : D → Bool
  | .tup xs => decide (xs.length ≤ 1000000) && vls h xs
  | .fl xs => vls h xs
  | d => knownTy h (.v d)
def vls (h : Hh) : List D → Bool
  | [] => true
  | x :: xs => vl h x && vls h xs
end
theorem vl_kn {h : Hh} {d : D} (v : vl h d = true) : knownTy h (.v d) = true := by
  cases d <;> first | rfl | exact v
theorem vl_len {h : Hh} {xs : List D} (v : vl h (.tup xs) = true) : xs.length ≤ 1000000 := by
  rw [vl, Bool.and_eq_true] at v
  exact of_decide_eq_true v.1
theorem vl_vls {h : Hh} {xs : List D} (v : vl h (.tup xs) = true) : vls h xs = true := by
  rw [vl, Bool.and_eq_true] at v
  exact v.2
theorem vls_mem {h : Hh} : ∀ {xs : List D}, vls h xs = true → ∀ x ∈ xs, vl h x = true
  | [], _, x, hx => nomatch hx
  | y :: ys, v, x, hx => by
    simp only [vls, Bool.and_eq_true] at v
    rcases List.mem_cons.mp hx with rfl | hx
    · exact v.1
    · exact vls_mem v.2 x hx
theorem kn_app {h g : Hh} {r : Res} (v : knownTy h r = true) : knownTy (h ++ g) r = true := by
  unfold knownTy at v ⊢
  split
  · rename_i n
    simp only at v
    have : ∀ x, look h n = some x → look (h ++ g) n = some x := fun x e => by
      unfold look at *
      rw [List.getElem?_append_left (List.getElem?_eq_some_iff.mp e).1]; exact e
    split at v
    · rename_i e; rw [this _ e]
    · rename_i e; rw [this _ e]
    · cases v
  · rfl
mutual
theorem vl_app {h g : Hh} : ∀ d : D, vl h d = true → vl (h ++ g) d = true
  | .tup xs, v => by
    rw [vl, Bool.and_eq_true] at v ⊢
    exact ⟨v.1, vls_app xs v.2⟩
  | .fl xs, v => by rw [vl] at v ⊢; exact vls_app xs v
  | .non, _ => rfl
  | .bl _, _ => rfl
  | .int _, _ => rfl
  | .str _, _ => rfl
  | .ref n, v => kn_app (r := .v (.ref n)) v
theorem vls_app {h g : Hh} : ∀ ds : List D, vls h ds = true → vls (h ++ g) ds = true
  | [], _ => rfl
  | d :: ds, v => by
    simp only [vls, Bool.and_eq_true] at v ⊢
    exact ⟨vl_app d v.1, vls_app ds v.2⟩
end
/-- isinstance -/
def isD (h : Hh) (d : D) (t : Ty) : Bool := tyIs (tyOf h (.v d)) t
def thingB (m : Int) : D → Bool
  | .int i => decide (0 ≤ i) && decide (i < m)
  | _ => false
def numB : D → Bool
  | .int _ => true
  | _ => false
theorem is_num {h : Hh} {d : D} (v : knownTy h (.v d) = true) : (isD h d .int && !isD h d .bool) = numB d := by
  cases d <;> try rfl
  rename_i n
  unfold isD tyOf
  unfold knownTy at v
  simp only at v ⊢
  split <;> rfl
theorem is_tup {h : Hh} {d : D} : isD h d .tuple = true ↔ ∃ xs, d = .tup xs := by
  constructor
  · intro e
    cases d with
    | tup xs => exact ⟨xs, rfl⟩
    | ref n =>
      unfold isD tyOf at e
      simp only at e
      split at e <;> exact absurd e (by simp [tyIs])
    | _ => exact absurd e (by simp [isD, tyOf, tyIs])
  · rintro ⟨xs, rfl⟩; rfl
theorem num_is {d : D} (e : numB d = true) : ∃ i, d = .int i := by
  cases d <;> first | exact ⟨_, rfl⟩ | exact nomatch e
/-- a number, by two looks -/
theorem numq {cl : Call} {ρ : Rho} {h : Hh} {i : Nat} {d : D} {Q : Res → Hh → Prop} (e : ρ[i]? = some (some d)) (v : knownTy h (.v d) = true) (q : Q (.v (.bl (numB d))) h) : EQ cl (.and (.isi .int (.var i)) (.not (.isi .bool (.var i)))) ρ h Q := by
  have hn := is_num v
  refine q_and (q_isi (q_var e ⟨v, _, rfl, fun z => ?_, fun z => ?_⟩))
  · refine q_not (q_isi (q_var e ⟨v, _, rfl, ?_⟩))
    have z' : isD h d .int = true := z
    rw [z', Bool.true_and] at hn
    show Q (.v (.bl (!isD h d .bool))) h
    rw [hn]; exact q
  · have z' : isD h d .int = false := z
    rw [z', Bool.false_and] at hn
    rw [hn]; exact q
def thingBody : List S := [(.ret (.and (.isi .int (.var 0)) (.and (.not (.isi .bool (.var 0))) (.chn .le .lt (.int 0) (.var 0) (.var 1)))))]
theorem int_le {h : Hh} {i j : Int} : cmpop .le h (.v (.int i)) (.v (.int j)) = some (decide (i ≤ j)) := rfl
theorem int_lt {h : Hh} {i j : Int} : cmpop .lt h (.v (.int i)) (.v (.int j)) = some (decide (i < j)) := rfl
theorem range_chn {cl : Call} {ρ : Rho} {h : Hh} {a b : Nat} {i m : Int} {Q : Res → Hh → Prop} (ea : ρ[a]? = some (some (.int i))) (eb : ρ[b]? = some (some (.int m))) (q : Q (.v (.bl (thingB m (.int i)))) h) : EQ cl (.chn .le .lt (.int 0) (.var a) (.var b)) ρ h Q := by
  refine q_chn (q_int (q_var ea ⟨_, int_le, fun z => ?_, fun z => q_var eb ⟨_, int_lt, ?_⟩⟩))
  · simp only [thingB, z, Bool.false_and] at q; exact q
  · simp only [thingB, z, Bool.true_and] at q; exact q
theorem thing_ok {fns : List Fn} {f k : Nat} {fn : Fn} {h : Hh} {d : D} {m : Int} (hf : fns[f]? = some fn) (hb : fn.body = thingBody) (hN : fn.N.length = 2) (hnp : fn.np = 2) (v : knownTy h (.v d) = true) :
    CQ (callN fns (k + 1)) f [d, .int m] h fun r h' => r = .bl (thingB m d) ∧ h' = h := by
  refine q_fn hf hnp.symm ?_
  rw [hb, hN]
  show SsQ (callN fns k) thingBody [some d, some (.int m)] h _
  have hn := is_num v
  have e0 : ([some d, some (D.int m)] : Rho)[0]? = some (some d) := rfl
  refine q_cons (q_ret (q_and (q_isi (q_var e0 ⟨v, _, rfl, fun z => ?_, fun z => ?_⟩))))
  · refine q_and (q_not (q_isi (q_var e0 ⟨v, _, rfl, _, rfl, fun z2 => ?_, fun z2 => ?_⟩)))
    · have hn' : numB d = true := by
        rw [← hn]
        show (isD h d .int && !isD h d .bool) = true
        rw [show isD h d .int = true from z, show (!isD h d .bool) = true from z2]; rfl
      obtain ⟨i, rfl⟩ := num_is hn'
      exact range_chn (i := i) (m := m) rfl rfl ⟨rfl, rfl⟩
    · have hn' : numB d = false := by
        rw [← hn]
        show (isD h d .int && !isD h d .bool) = false
        rw [show (!isD h d .bool) = false from z2]; simp
      refine ⟨?_, rfl⟩
      show D.bl false = _
      cases d <;> first | rfl | exact nomatch hn'
  · have hn' : numB d = false := by
      rw [← hn]
      show (isD h d .int && !isD h d .bool) = false
      rw [show isD h d .int = false from z]; rfl
    refine ⟨?_, rfl⟩
    show D.bl false = _
    cases d <;> first | rfl | exact nomatch hn'
def numBody : List S := [(.ret (.and (.isi .int (.var 0)) (.not (.isi .bool (.var 0)))))]
theorem number_ok {fns : List Fn} {f k : Nat} {fn : Fn} {h : Hh} {d : D} (hf : fns[f]? = some fn) (hb : fn.body = numBody) (hN : fn.N.length = 1) (hnp : fn.np = 1) (v : knownTy h (.v d) = true) :
    CQ (callN fns (k + 1)) f [d] h fun r h' => r = .bl (numB d) ∧ h' = h := by
  refine q_fn hf hnp.symm ?_
  rw [hb, hN]
  show SsQ (callN fns k) numBody [some d] h _
  exact q_cons (q_ret (numq rfl v ⟨rfl, rfl⟩))
/-- places at which laws call them -/
def Thing (fns : List Fn) (f : Nat) : Prop := ∀ (k : Nat) (h : Hh) (d : D) (m : Int), knownTy h (.v d) = true → CQ (callN fns (k + 1)) f [d, .int m] h fun r h' => r = .bl (thingB m d) ∧ h' = h
def Number (fns : List Fn) (f : Nat) : Prop := ∀ (k : Nat) (h : Hh) (d : D), knownTy h (.v d) = true → CQ (callN fns (k + 1)) f [d] h fun r h' => r = .bl (numB d) ∧ h' = h

/-- a lot of m things -/
def IsLot (m : Int) (d : D) : Prop := ∃ l : Lot, d = lotD l ∧ (∀ x ∈ l, 0 ≤ x ∧ x < m) ∧ l.Pairwise (· < ·)
theorem things_lot {m : Int} : ∀ {xs : List D}, (xs.all (thingB m)) = true → ∃ l : Lot, xs = l.map D.int ∧ ∀ x ∈ l, 0 ≤ x ∧ x < m
  | [], _ => ⟨[], rfl, fun x hx => (nomatch hx)⟩
  | d :: ds, h => by
    simp only [List.all_cons, Bool.and_eq_true] at h
    obtain ⟨l, rfl, hl⟩ := things_lot h.2
    cases d with
    | int i =>
      have h1 := h.1
      simp only [thingB, Bool.and_eq_true, decide_eq_true_eq] at h1
      refine ⟨i :: l, rfl, fun x hx => ?_⟩
      rcases List.mem_cons.mp hx with rfl | hx
      · exact h1
      · exact hl x hx
    | _ => exact nomatch h.1
theorem lot_things {m : Int} {l : Lot} (h : ∀ x ∈ l, 0 ≤ x ∧ x < m) : ((l.map D.int).all (thingB m)) = true := by
  rw [List.all_map, List.all_eq_true]
  intro x hx
  simp only [Function.comp, thingB, Bool.and_eq_true, decide_eq_true_eq]
  exact h x hx
theorem bools_ok : ∀ bs : List Bool, bools (bs.map D.bl) = some bs
  | [] => rfl
  | b :: bs => by rw [List.map_cons, bools, bools_ok bs]; rfl
/-- one after the other is larger -/
theorem up_iff (l : Lot) : l.Pairwise (· < ·) ↔ ∀ k, 1 ≤ k → k < l.length → l.getD (k - 1) 0 < l.getD k 0 := by
  induction l with
  | nil => simp
  | cons a l ih =>
    cases l with
    | nil => simp; intro k h1 h2; omega
    | cons b l =>
      rw [List.pairwise_cons, ih]
      constructor
      · rintro ⟨h1, h2⟩ k hk1 hk2
        cases k with
        | zero => omega
        | succ k =>
          cases k with
          | zero => exact h1 b List.mem_cons_self
          | succ k => exact h2 (k + 1) (by omega) (by simpa using hk2)
      · intro h
        have hp : (b :: l).Pairwise (· < ·) := ih.mpr fun k h1 h2 => by
          have := h (k + 1) (by omega) (by simpa using h2)
          cases k with
          | zero => omega
          | succ k => exact this
        refine ⟨fun x hx => ?_, fun k h1 h2 => by
          have := h (k + 1) (by omega) (by simpa using h2)
          cases k with
          | zero => omega
          | succ k => exact this⟩
        have h0 : a < b := h 1 (by omega) (by simp)
        rcases List.mem_cons.mp hx with rfl | hx
        · exact h0
        · have := (List.pairwise_cons.mp hp).1 x hx
          omega
end Co

set_option linter.all false
set_option maxRecDepth 100000
set_option autoImplicit false
/-! Core54: is_thing_lot_of. -/
namespace Co
open PySem

theorem eq_nil {h : Hh} {ds : List D} : cmpop .eq h (.f ds) (.f []) = some ds.isEmpty := by
  simp only [cmpop, eqRes, listOf]
  cases ds with
  | nil => rfl
  | cons d ds => rw [if_neg (by simp)]; rfl
theorem ne_nil {h : Hh} {ds : List D} : cmpop .ne h (.f ds) (.f []) = some (!ds.isEmpty) := by
  have := eq_nil (h := h) (ds := ds)
  simp only [cmpop] at this ⊢
  rw [this]; rfl
theorem fm_empty {α β : Type} (g : α → Option β) (ls : List α) : (ls.filterMap g).isEmpty = true ↔ ∀ a ∈ ls, g a = none := by
  rw [List.isEmpty_iff, List.filterMap_eq_nil_iff]
theorem range_from {a n : Nat} (ha : a ≤ 1000000) (hn : n ≤ 1000000) : rangeOf [.v (.int (a : Int)), .v (.int (n : Int))] = some ((List.range (n - a)).map fun i : Nat => D.int ((a + i : Nat) : Int)) := by
  show (if rangeOk (a : Int) (n : Int) then some (rangeD (a : Int) (n : Int)) else none) = _
  rw [if_pos (by unfold rangeOk; simp only [Bool.and_eq_true, decide_eq_true_eq]; omega)]
  unfold rangeD
  rw [show ((n : Int) - (a : Int)).toNat = n - a by omega]
  congr 1
theorem at_lot {l : Lot} {i : Nat} {h : Hh} (hi : i < l.length) : item h (.v (lotD l)) (.v (.int (i : Int))) = some (.int (l.getD i 0)) := by
  show L2.atI (l.map D.int) _ = _
  unfold L2.atI L2.ixN
  rw [if_pos (by omega), if_pos (by simp; omega)]
  simp only [Int.toNat_natCast, Option.bind_some, List.getElem?_map, List.getD_eq_getElem?_getD, List.getElem?_eq_getElem hi]
  rfl
def isLotBody (ti : Nat) : List S := [(.ite (.or (.not (.isi .tuple (.var 1))) (.not (.bi .all [(.lc (.nm 3) (.of (.var 1)) none (.call ti [(.var 3), (.var 0)]) [("one", 3)])]))) [(.ret (.bl false))] []), (.ret (.cmp .eq (.lc (.nm 2) (.range [(.int 1), (.bi .len [(.var 1)])]) (some (.cmp .le (.ix (.var 1) (.var 2)) (.ix (.var 1) (.bin .sub (.var 2) (.int 1))))) (.var 2) [("k", 2)]) (.lst [])))]
def LotQ (fns : List Fn) (f : Nat) : Prop := ∀ (k : Nat) (h : Hh) (d : D) (m : Int), vl h d = true → CQ (callN fns (k + 2)) f [.int m, d] h fun r h' => (∃ b, r = .bl b ∧ (b = true ↔ IsLot m d)) ∧ ∃ g, h' = h ++ g
theorem is_lot_ok {fns : List Fn} {f ti : Nat} {fn : Fn} (hT : Thing fns ti) (hf : fns[f]? = some fn) (hb : fn.body = isLotBody ti) (hN : fn.N.length = 4) (hnp : fn.np = 2) : LotQ fns f := by
  intro k h d m v
  refine q_fn hf hnp.symm ?_
  rw [hb, hN]
  show SsQ (callN fns (k + 1)) (isLotBody ti) [some (.int m), some d, none, none] h _
  by_cases ht : ∃ xs, d = .tup xs
  · obtain ⟨xs, rfl⟩ := ht
    have hl := vl_len v
    obtain ⟨h1, e, rfl⟩ := lc_fm (test := fun ρ h => evT (callN fns (k + 1)) none ρ h) (elt := fun ρ h => asD (ev (callN fns (k + 1)) (.call ti [(.var 3), (.var 0)]) ρ h)) (tg := .nm 3)
      (w := ⟨xs, none, none⟩) (ρ := wipeR [some (.int m), some (.tup xs), none, none] [("one", 3)]) (id : D → D) (fun x => some (.bl (thingB m x))) (fun hh => hh = h) xs [] h rfl (fun _ _ => rfl) (by simp; omega) (by
        rintro x hx hh rfl
        refine ⟨_, rfl, true, _, rfl, fun _ => ?_, fun hz => nomatch hz⟩
        have hv : vls hh xs = true := vl_vls v
        have : EQ (callN fns (k + 1)) (.call ti [(.var 3), (.var 0)]) [some (.int m), some (.tup xs), none, some x] hh fun r h2 => r = .v (.bl (thingB m x)) ∧ h2 = hh := by
          refine q_call (q_escons (q_var rfl (q_escons (q_var rfl (q_esnil ((hT k _ x m (vl_kn (vls_mem hv x hx))).mono ?_))))))
          rintro r h2 ⟨rfl, rfl⟩
          exact ⟨rfl, rfl⟩
        obtain ⟨r, h2, e2, rfl, rfl⟩ := this
        refine ⟨_, _, ?_, rfl, rfl⟩
        show asD (ev _ _ [some (.int m), some (.tup xs), none, some x] _) = _
        rw [e2]; rfl)
    rw [List.map_id, List.nil_append, fm_some (fun x => D.bl (thingB m x)), show (xs.map fun x => D.bl (thingB m x)) = (xs.map (thingB m)).map D.bl by rw [List.map_map]; rfl] at e
    have hall : bltn .all h1 [.f ((xs.map (thingB m)).map D.bl)] = some (.v (.bl (xs.all (thingB m))), h1) := by
      simp only [bltn, biAll, bools1, listOf, bools_ok]
      rw [List.all_map]; rfl
    refine q_cons (q_if (q_or (q_not (q_isi (q_var rfl ⟨rfl, _, rfl, _, rfl, fun _ => ?_, fun z => (nomatch z)⟩)))))
    refine q_not (q_bi (q_rscons (q_lc (q_wof (q_var rfl ⟨_, rfl, _, _, e, q_rsnil ⟨_, _, hall, _, rfl, _, rfl, fun z => ?_, fun z => q_nil ?_⟩⟩)))))
    · refine q_cons (q_ret (q_bl ⟨⟨false, rfl, fun z => (nomatch z), fun ⟨l, el, hin, _⟩ => ?_⟩, [], by rw [List.append_nil]; rfl⟩))
      have : xs = l.map D.int := by unfold lotD at el; injection el
      rw [this, lot_things hin] at z
      exact nomatch z
    · obtain ⟨l, rfl, hin⟩ := things_lot (by simpa using z)
      rw [List.length_map] at hl
      have hlenb : bltn .len h1 [.v (.tup (l.map D.int))] = some (.v (.int (l.length : Nat)), h1) := len_lot
      have hrng : rangeOf [.v (.int 1), .v (.int (l.length : Nat))] = some ((List.range (l.length - 1)).map fun i : Nat => D.int ((1 + i : Nat) : Int)) := range_from (a := 1) (by decide) hl
      obtain ⟨h2, e2, rfl⟩ := lc_fm (test := fun ρ h => evT (callN fns (k + 1)) (some (.cmp .le (.ix (.var 1) (.var 2)) (.ix (.var 1) (.bin .sub (.var 2) (.int 1))))) ρ h) (elt := fun ρ h => asD (ev (callN fns (k + 1)) (.var 2) ρ h)) (tg := .nm 2)
        (w := ⟨(List.range (l.length - 1)).map fun i : Nat => D.int ((1 + i : Nat) : Int), none, none⟩) (ρ := wipeR [some (.int m), some (.tup (l.map D.int)), none, none] [("k", 2)]) (fun i : Nat => D.int ((1 + i : Nat) : Int)) (fun i => if l.getD (1 + i) 0 ≤ l.getD i 0 then some (.int ((1 + i : Nat) : Int)) else none) (fun hh => hh = h1) (List.range (l.length - 1)) [] h1 rfl (fun _ _ => rfl) (by simp; omega) (by
          rintro i hi hh rfl
          have hi' := List.mem_range.mp hi
          refine ⟨_, rfl, decide (l.getD (1 + i) 0 ≤ l.getD i 0), hh, ?_, fun z => ?_, fun z => ?_⟩
          · have : TQ (callN fns (k + 1)) (some (.cmp .le (.ix (.var 1) (.var 2)) (.ix (.var 1) (.bin .sub (.var 2) (.int 1))))) [some (.int m), some (lotD l), some (.int ((1 + i : Nat) : Int)), none] hh fun b h2 => b = decide (l.getD (1 + i) 0 ≤ l.getD i 0) ∧ h2 = hh := by
              have hsub : binop .sub hh (.v (.int ((1 + i : Nat) : Int))) (.v (.int 1)) = some (.v (.int ((i : Nat) : Int))) := by
                simp only [binop]
                rw [show ((1 + i : Nat) : Int) - 1 = (i : Int) by omega]
              exact q_tsome (q_cmp (q_ix (q_var rfl (q_var rfl ⟨_, at_lot (by omega), q_ix (q_var rfl (q_bin (q_var rfl (q_int ⟨_, hsub, _, at_lot (by omega), _, int_le, _, rfl, rfl, rfl⟩))))⟩))))
            obtain ⟨b, h3, e3, rfl, rfl⟩ := this
            exact e3
          · exact ⟨_, _, rfl, by rw [if_pos (of_decide_eq_true z)], rfl⟩
          · exact ⟨by rw [if_neg (of_decide_eq_false z)], rfl⟩)
      rw [List.nil_append] at e2
      refine q_cons (q_ret (q_cmp (q_lc (q_wrange (q_rscons (q_int (q_rscons (q_bi (q_rscons (q_var rfl (q_rsnil ⟨_, _, hlenb, q_rsnil ⟨_, hrng, _, _, e2, q_lst (q_esnil ⟨rfl, _, eq_nil, ⟨_, rfl, ?_⟩, [], by rw [List.append_nil]; rfl⟩)⟩⟩)))))))))))
      rw [fm_empty]
      constructor
      · intro hz
        refine ⟨l, rfl, hin, (up_iff l).mpr fun j h1 h2 => ?_⟩
        have := hz (j - 1) (List.mem_range.mpr (by omega))
        split at this
        · cases this
        · rw [show 1 + (j - 1) = j by omega] at *
          omega
      · rintro ⟨l', el, _, hup⟩ i hi
        have el' := lotD_inj (a := l) el
        subst el'
        have := (up_iff l).mp hup (1 + i) (by omega) (by have := List.mem_range.mp hi; omega)
        rw [show 1 + i - 1 = i by omega] at this
        rw [if_neg (by omega)]
  · refine q_cons (q_if (q_or (q_not (q_isi (q_var rfl ⟨vl_kn v, _, rfl, _, rfl, fun z => ?_, fun z => ?_⟩)))))
    · exfalso
      have z' : (!isD h d .tuple) = false := z
      exact ht (is_tup.mp (by simpa using z'))
    · refine ⟨_, rfl, fun _ => ?_, fun z => (nomatch z)⟩
      refine q_cons (q_ret (q_bl ⟨⟨false, rfl, fun z => (nomatch z), fun ⟨l, el, _⟩ => (ht ⟨_, el⟩).elim⟩, [], by rw [List.append_nil]; rfl⟩))
end Co

set_option linter.all false
set_option maxRecDepth 100000
set_option autoImplicit false
/-! Core55: _law_is_lot. -/
namespace Co
open PySem

mutual
theorem nat_dat1 {h : Hh} {k : List D → Option (List PyData)} : ∀ d : D, nat? d = true → dat1 h k d = some (py d)
  | .int i, _ => rfl
  | .tup xs, v => by
    have := nats_dat1 (h := h) (k := k) xs (by simpa only [nat?] using v)
    simp only [dat1, this, py]; rfl
  | .non, v => nomatch v
  | .bl _, v => nomatch v
  | .str _, v => nomatch v
  | .fl _, v => nomatch v
  | .ref _, v => nomatch v
theorem nats_dat1 {h : Hh} {k : List D → Option (List PyData)} : ∀ ds : List D, nats ds = true → dats1 h k ds = some (pys ds)
  | [], _ => rfl
  | d :: ds, v => by
    simp only [nats, Bool.and_eq_true] at v
    simp only [dats1, nat_dat1 d v.1, nats_dat1 ds v.2, pys]
end
theorem ref_dat {h : Hh} {n : Nat} {xs : List D} (e : look h n = some (.lst xs)) (v : nats xs = true) : datR h (.v (.ref n)) = some (.list (pys xs)) := by
  simp only [datR, dat]
  rw [if_neg (show ¬ pure? (D.ref n) = true from Bool.false_ne_true)]
  simp only [dat1, e, datsN, nats_dat1 xs v]
  rfl
theorem f_dat {h : Hh} {xs : List D} (v : nats xs = true) : datR h (.f xs) = some (.list (pys xs)) := by
  simp only [datR, dats, (nats_pure xs v).1, if_true]
  rfl
theorem eq_lists {h : Hh} {r q : Res} {as bs : List D} (ha : listOf h r = some as) (hb : listOf h q = some bs) (ea : datR h r = some (.list (pys as))) (eb : datR h q = some (.list (pys bs))) (va : nats as = true) (vb : nats bs = true)
    (da : PyData.depthAll (pys as) ≤ 63) (db : PyData.depthAll (pys bs) ≤ 63) : cmpop .eq h r q = some (decide (as = bs)) := by
  simp only [cmpop, eqRes, ha, hb]
  by_cases hl : as.length = bs.length
  · rw [if_pos hl]
    simp only [eqGen, ea, eb]
    have p1 := nats_pure as va
    have p2 := nats_pure bs vb
    have hs : (SeqAt.shaped (.list (pys as)) && SeqAt.shaped (.list (pys bs))) = true := by
      unfold SeqAt.shaped
      simp only [PyData.canLay0, PyData.depth, p1.2, p2.2, Bool.true_and, Bool.and_eq_true, decide_eq_true_eq]
      exact ⟨decide_eq_true (by omega), decide_eq_true (by omega)⟩
    rw [if_pos hs]
    congr 1
    by_cases e : as = bs
    · subst e
      rw [decide_eq_true rfl]
      exact PySem.SeqAt.eqv_refl _ (by simp only [PyData.canLay0, p1.2])
    · rw [decide_eq_false e]
      cases q : PyData.eqv (.list (pys as)) (.list (pys bs)) with
      | false => rfl
      | true =>
        simp only [PyData.eqv] at q
        exact absurd (nats_eqv as bs va vb q) e
  · rw [if_neg hl, decide_eq_false]
    exact fun e => hl (by rw [e])
theorem nats_ints (l : List Int) : nats (l.map D.int) = true := nats_all _ (fun _ => rfl) l
theorem deps_ints (l : List Int) : PyData.depthAll (pys (l.map D.int)) ≤ 1 := by
  refine depth_all 1 _ fun d hd => ?_
  obtain ⟨i, _, rfl⟩ := List.mem_map.mp hd
  simp [py, PyData.depth]
theorem ints_inj {a b : List Int} : (a.map D.int = b.map D.int) ↔ a = b :=
  ⟨fun e => (List.map_inj_right (f := D.int) (fun x y e => by injection e)).mp e, fun e => by rw [e]⟩
/-- a dict's int keys, each once -/
def addI (acc : List Int) (x : Int) : List Int := if x ∈ acc then acc else acc ++ [x]
def kvI (ks : List Int) : List (D × D) := ks.map fun x => (D.int x, D.int 0)
theorem put_kvI (ks : List Int) (x : Int) : dput (kvI ks) (.int x) (.int 0) = kvI (addI ks x) := by
  unfold dput addI
  have e : ((kvI ks).any fun p => decide (p.1 = D.int x)) = decide (x ∈ ks) := by
    rw [Bool.eq_iff_iff]
    unfold kvI
    simp only [List.any_map, List.any_eq_true, Function.comp, decide_eq_true_eq]
    constructor
    · rintro ⟨y, hy, e⟩; injection e with e; subst e; exact hy
    · exact fun hx => ⟨x, hx, rfl⟩
  rw [e]
  by_cases hx : x ∈ ks
  · rw [if_pos (decide_eq_true hx), if_pos hx]
    unfold kvI
    rw [List.map_map]
    refine List.map_congr_left fun y _ => ?_
    simp only [Function.comp]
    split <;> rfl
  · rw [if_neg (by simpa using hx), if_neg hx]
    unfold kvI
    rw [List.map_append]; rfl
theorem mk_kvI_from : ∀ (l acc : List Int), (kvI l).foldl (fun acc p => dput acc p.1 p.2) (kvI acc) = kvI (l.foldl addI acc)
  | [], acc => rfl
  | x :: l, acc => by
    show (kvI l).foldl _ (dput (kvI acc) (.int x) (.int 0)) = _
    rw [put_kvI, mk_kvI_from l]; rfl
theorem mk_kvI (l : List Int) : mkDict (kvI l) = kvI (l.foldl addI []) := mk_kvI_from l []
theorem addI_nd : ∀ (l acc : List Int), acc.Nodup → (l.foldl addI acc).Nodup
  | [], acc, h => h
  | x :: l, acc, h => by
    refine addI_nd l _ ?_
    unfold addI
    split
    · exact h
    · rename_i hx
      rw [List.nodup_append]
      exact ⟨h, by simp, fun a ha b hb => by simp at hb; subst hb; exact fun z => hx (z ▸ ha)⟩
theorem addI_same : ∀ (l acc : List Int), (acc ++ l).Nodup → l.foldl addI acc = acc ++ l
  | [], acc, h => by simp
  | x :: l, acc, h => by
    have hx : x ∉ acc := by
      rw [List.nodup_append] at h
      exact fun z => h.2.2 x z x List.mem_cons_self rfl
    rw [List.foldl_cons, show addI acc x = acc ++ [x] from if_neg hx, addI_same l _ (by simpa using h)]
    simp
theorem pairs_kvI : ∀ l : List Int, pairsOf (l.map fun x => D.tup [.int x, .int 0]) = some (kvI l)
  | [] => rfl
  | x :: l => by
    show (pairsOf (l.map _)).map _ = _
    rw [pairs_kvI l]; rfl
theorem dict_ints {h : Hh} {l : List Int} : bltn .dict h [.f (l.map fun x => D.tup [.int x, .int 0])] = some (.v (.ref h.length), h ++ [.dct (kvI (l.foldl addI []))]) := by
  simp only [bltn, biDict, dictBi, seqOf, pairs_kvI]
  rw [if_pos, mk_kvI]
  unfold dictOk
  rw [Bool.or_eq_true]; left
  unfold kvI
  rw [List.all_map, List.all_eq_true]
  intro x _; rfl
theorem up_nodup {l : List Int} (h : l.Pairwise (· < ·)) : l.Nodup := by
  rw [List.nodup_iff_pairwise_ne]
  exact h.imp fun {a b} z => by omega
theorem sorted_self {l : List Int} : l = (l.foldl addI []).mergeSort leI ↔ l.Pairwise (· < ·) := by
  constructor
  · intro e
    rw [e]
    exact sorted_up (addI_nd l [] List.nodup_nil)
  · intro h
    rw [addI_same l [] (by simpa using up_nodup h), List.nil_append, List.mergeSort_of_pairwise]
    exact h.imp fun {a b} z => decide_eq_true (by omega)
theorem keys_kvI (l : List Int) : (kvI l).map (·.1) = l.map D.int := by
  unfold kvI; rw [List.map_map]; rfl

def lawLotBody (ni : Nat) : List S := [(.ite (.or (.not (.isi .tuple (.var 1))) (.cmp .ne (.lc (.nm 2) (.of (.var 1)) (some (.or (.not (.call ni [(.var 2)])) (.not (.chn .le .lt (.int 0) (.var 2) (.var 0))))) (.var 2) [("x", 2)]) (.lst []))) [(.ret (.bl false))] []), (.ret (.cmp .eq (.bi .list [(.var 1)]) (.bi .sorted [(.bi .dict [(.lc (.nm 2) (.of (.var 1)) none (.tup [(.var 2), (.int 0)]) [("x", 2)])])])))]
theorem addI_len : ∀ (l acc : List Int), (l.foldl addI acc).length ≤ acc.length + l.length
  | [], acc => by simp
  | x :: l, acc => by
    have h1 := addI_len l (addI acc x)
    have h2 : (addI acc x).length ≤ acc.length + 1 := by unfold addI; split <;> simp
    simp only [List.foldl_cons, List.length_cons]
    omega
theorem law_lot_ok {fns : List Fn} {f ni : Nat} {fn : Fn} (hT : Number fns ni) (hf : fns[f]? = some fn) (hb : fn.body = lawLotBody ni) (hN : fn.N.length = 3) (hnp : fn.np = 2) : LotQ fns f := by
  intro k h d m v
  refine q_fn hf hnp.symm ?_
  rw [hb, hN]
  show SsQ (callN fns (k + 1)) (lawLotBody ni) [some (.int m), some d, none] h _
  by_cases ht : ∃ xs, d = .tup xs
  · obtain ⟨xs, rfl⟩ := ht
    have hl := vl_len v
    obtain ⟨h1, e, rfl⟩ := lc_fm (test := fun ρ h => evT (callN fns (k + 1)) (some (.or (.not (.call ni [(.var 2)])) (.not (.chn .le .lt (.int 0) (.var 2) (.var 0))))) ρ h) (elt := fun ρ h => asD (ev (callN fns (k + 1)) (.var 2) ρ h)) (tg := .nm 2)
      (w := ⟨xs, none, none⟩) (ρ := wipeR [some (.int m), some (.tup xs), none] [("x", 2)]) (id : D → D) (fun x => if thingB m x then none else some x) (fun hh => hh = h) xs [] h rfl (fun _ _ => rfl) (by simp; omega) (by
        rintro x hx hh rfl
        refine ⟨_, rfl, !thingB m x, hh, ?_, fun z => ?_, fun z => ?_⟩
        · have hv : vls hh xs = true := vl_vls v
          have : TQ (callN fns (k + 1)) (some (.or (.not (.call ni [(.var 2)])) (.not (.chn .le .lt (.int 0) (.var 2) (.var 0))))) [some (.int m), some (.tup xs), some x] hh fun b h2 => b = (!thingB m x) ∧ h2 = hh := by
            refine q_tsome (q_or (q_not (q_call (q_escons (q_var rfl (q_esnil ((hT k _ x (vl_kn (vls_mem hv x hx))).mono ?_)))))))
            rintro r h2 ⟨rfl, rfl⟩
            refine ⟨_, rfl, _, rfl, fun z => ?_, fun z => ⟨_, rfl, ?_, rfl⟩⟩
            · have z' : numB x = true := by simpa using z
              obtain ⟨i, rfl⟩ := num_is z'
              exact q_not (range_chn (i := i) (m := m) rfl rfl ⟨_, rfl, _, rfl, rfl, rfl⟩)
            · have z' : numB x = false := by simpa using z
              cases x <;> first | rfl | exact nomatch z'
          obtain ⟨b, h3, e3, rfl, rfl⟩ := this
          exact e3
        · exact ⟨x, hh, rfl, by rw [if_neg (by simpa using z)], rfl⟩
        · exact ⟨by rw [if_pos (by simpa using z)], rfl⟩)
    rw [List.map_id, List.nil_append] at e
    refine q_cons (q_if (q_or (q_not (q_isi (q_var rfl ⟨rfl, _, rfl, _, rfl, fun _ => ?_, fun z => (nomatch z)⟩)))))
    refine q_cmp (q_lc (q_wof (q_var rfl ⟨_, rfl, _, _, e, q_lst (q_esnil ⟨rfl, _, ne_nil, _, rfl, fun z => ?_, fun z => q_nil ?_⟩)⟩)))
    · refine q_cons (q_ret (q_bl ⟨⟨false, rfl, fun z => (nomatch z), fun ⟨l, el, hin, _⟩ => ?_⟩, [], by rw [List.append_nil]; rfl⟩))
      have hx : xs = l.map D.int := by unfold lotD at el; injection el
      have : (xs.filterMap fun x => if thingB m x then none else some x).isEmpty = true := by
        rw [fm_empty]
        intro a ha
        have := List.all_eq_true.mp (lot_things hin) a (hx ▸ ha)
        rw [if_pos this]
      rw [this] at z
      exact nomatch z
    · have hall : xs.all (thingB m) = true := by
        have z' : (xs.filterMap fun x => if thingB m x then none else some x).isEmpty = true := by simpa using z
        rw [fm_empty] at z'
        rw [List.all_eq_true]
        intro a ha
        have := z' a ha
        split at this
        · assumption
        · cases this
      obtain ⟨l, rfl, hin⟩ := things_lot hall
      rw [List.length_map] at hl
      obtain ⟨h2, e2, rfl⟩ := lc_fm (test := fun ρ h => evT (callN fns (k + 1)) none ρ h) (elt := fun ρ h => asD (ev (callN fns (k + 1)) (.tup [(.var 2), (.int 0)]) ρ h)) (tg := .nm 2)
        (w := ⟨l.map D.int, none, none⟩) (ρ := wipeR [some (.int m), some (.tup (l.map D.int)), none] [("x", 2)]) D.int (fun x => some (.tup [.int x, .int 0])) (fun hh => hh = h1) l [] h1 rfl (fun _ _ => rfl) (by simp; omega) (by
          rintro x hx hh rfl
          exact ⟨_, rfl, true, _, rfl, fun _ => ⟨_, _, rfl, rfl, rfl⟩, fun hz => nomatch hz⟩)
      rw [List.nil_append, fm_some (fun x : Int => D.tup [.int x, .int 0])] at e2
      have hso : bltn .sorted (h2 ++ [.dct (kvI (l.foldl addI []))]) [.v (.ref h2.length)] = some (.f (((l.foldl addI []).mergeSort leI).map D.int), h2 ++ [.dct (kvI (l.foldl addI []))]) := by
        simp only [bltn, biSorted, iterOf, seqOf, keysOf, last_look, keys_kvI]
        rw [sort_ints (Nat.le_trans (addI_len l []) (by simp; omega))]
        rfl
      have hli : bltn .list h2 [.v (.tup (l.map D.int))] = some (.f (l.map D.int), h2) := rfl
      have heq : cmpop .eq (h2 ++ [.dct (kvI (l.foldl addI []))]) (.f (l.map D.int)) (.f (((l.foldl addI []).mergeSort leI).map D.int)) = some (decide (l.map D.int = ((l.foldl addI []).mergeSort leI).map D.int)) :=
        eq_lists rfl rfl (f_dat (nats_ints _)) (f_dat (nats_ints _)) (nats_ints _) (nats_ints _) (Nat.le_trans (deps_ints _) (by decide)) (Nat.le_trans (deps_ints _) (by decide))
      refine q_cons (q_ret (q_cmp (q_bi (q_rscons (q_var rfl (q_rsnil ⟨_, _, hli, q_bi (q_rscons (q_bi (q_rscons (q_lc (q_wof (q_var rfl ⟨_, rfl, _, _, e2, q_rsnil ⟨_, _, dict_ints, q_rsnil ⟨_, _, hso, _, heq, ⟨_, rfl, ?_⟩, _, rfl⟩⟩⟩))))))⟩))))))
      rw [decide_eq_true_iff, ints_inj, sorted_self]
      constructor
      · exact fun hz => ⟨l, rfl, hin, hz⟩
      · rintro ⟨l', el, _, hup⟩
        have el' := lotD_inj (a := l) el
        subst el'
        exact hup
  · refine q_cons (q_if (q_or (q_not (q_isi (q_var rfl ⟨vl_kn v, _, rfl, _, rfl, fun z => ?_, fun z => ?_⟩)))))
    · exfalso
      have z' : (!isD h d .tuple) = false := z
      exact ht (is_tup.mp (by simpa using z'))
    · refine ⟨_, rfl, fun _ => ?_, fun z => (nomatch z)⟩
      refine q_cons (q_ret (q_bl ⟨⟨false, rfl, fun z => (nomatch z), fun ⟨l, el, _⟩ => (ht ⟨_, el⟩).elim⟩, [], by rw [List.append_nil]; rfl⟩))
end Co

set_option linter.all false
set_option maxRecDepth 100000
set_option autoImplicit false
/-! Core56: is_chain. -/
namespace Co
open PySem

def GoodP (m : Int) (F : List Lot) (z : Int) (p : Lot × Int) : Prop := (∀ x ∈ p.1, 0 ≤ x ∧ x < m) ∧ p.1.Pairwise (· < ·) ∧ (p.1.length : Int) = z ∧ p.1 ∈ F ∧ p.2 ≠ 0
def GoodD (m : Int) (F : List Lot) (z : Int) (d : D) : Prop := ∃ p, d = pairD p ∧ GoodP m F z p
def IsChain (m : Int) (F : List Lot) (z : Int) (d : D) : Prop := ∃ A : Num, d = chD A ∧ (∀ p ∈ A, GoodP m F z p) ∧ A.Pairwise fun p q => lexI p.1 q.1 = true
theorem chain_good {m z : Int} {F : List Lot} {xs : List D} (c : IsChain m F z (.tup xs)) : ∀ d ∈ xs, GoodD m F z d := by
  obtain ⟨A, e, hg, _⟩ := c
  unfold chD at e
  injection e with e
  subst e
  intro d hd
  obtain ⟨p, hp, rfl⟩ := List.mem_map.mp hd
  exact ⟨p, rfl, hg p hp⟩
theorem any_lots (l : Lot) : ∀ F : List Lot, ((pys (F.map lotD)).any fun z => PyData.eqv z (py (lotD l))) = decide (l ∈ F)
  | [] => by simp [pys]
  | a :: F => by
    rw [List.map_cons, pys, List.any_cons, any_lots l F, nat_eq (nat_lot a) (nat_lot l), lot_dec]
    by_cases h : l = a
    · subst h; simp
    · simp [h, Ne.symm h]
theorem in_lots {h : Hh} {l : Lot} {F : List Lot} : isIn h (.v (lotD l)) (.v (.tup (F.map lotD))) = some (decide (l ∈ F)) := by
  have p2 := nats_pure _ (nats_all lotD nat_lot F)
  have hd : PyData.depthAll (pys (F.map lotD)) ≤ 2 := by
    refine depth_all 2 _ fun d hd => ?_
    obtain ⟨a, _, rfl⟩ := List.mem_map.mp hd
    exact depth_lot a
  have hs : (SeqAt.shaped (py (lotD l)) && SeqAt.shaped (.tuple (pys (F.map lotD)))) = true := by
    rw [shaped_lot]
    unfold SeqAt.shaped
    simp only [PyData.canLay0, PyData.depth, p2.2, Bool.true_and]
    exact decide_eq_true (by omega)
  have e1 : datR h (.v (lotD l)) = some (py (lotD l)) := by
    simp only [datR, dat, pure_lot, if_true]
  have e2 : datR h (.v (.tup (F.map lotD))) = some (.tuple (pys (F.map lotD))) := by
    have hp : pure? (.tup (F.map lotD)) = true := by rw [pure?]; exact p2.1
    simp only [datR, dat, hp, if_true, py]
  have : inSeq h (.v (lotD l)) (.v (.tup (F.map lotD))) = some (decide (l ∈ F)) := by
    simp only [inSeq, e1, e2]
    rw [if_pos hs, any_lots]
  exact this
theorem notin_lots {h : Hh} {l : Lot} {F : List Lot} : cmpop .notin h (.v (lotD l)) (.v (.tup (F.map lotD))) = some (!decide (l ∈ F)) := by
  simp only [cmpop, in_lots]; rfl
theorem int_ne {h : Hh} {i j : Int} : cmpop .ne h (.v (.int i)) (.v (.int j)) = some (!decide (i = j)) := by
  have := int_eq (h := h) (i := i) (j := j)
  simp only [cmpop] at this ⊢
  rw [this]; rfl
theorem le_lot {h : Hh} {a b : Lot} : cmpop .le h (.v (lotD a)) (.v (lotD b)) = some (lotLe a b) := by
  show ordop .le (.v (.tup (a.map D.int))) (.v (.tup (b.map D.int))) = _
  have hc : cmpOk (py (lotD a)) (py (lotD b)) = true := by
    unfold cmpOk
    rw [shaped_lot, shaped_lot, py_lot, py_lot]
    simp only [PySem.W.alike]
    exact alike_ints a b
  unfold lotD at hc
  simp only [ordop, pures_ints, hc, Bool.and_self, if_true, ltData]
  congr 1
  have := lt_ints b a
  unfold lotD at this
  rw [this]; rfl

section
variable {fns : List Fn} {k : Nat} {ρ : Rho} {h : Hh} {m z : Int} {F : List Lot} {d x : D} {l : Lot}
/-- the first look at a pair -/
theorem pair_test {pv ci : Nat} (hQ : LotQ fns ci) (e0 : ρ[0]? = some (some (famD m F))) (e1 : ρ[pv]? = some (some d)) (v : vl h d = true) :
    EQ (callN fns (k + 2)) (.or (.not (.isi .tuple (.var pv))) (.or (.cmp .ne (.bi .len [(.var pv)]) (.int 2)) (.not (.call ci [(.ix (.var 0) (.int 0)), (.ix (.var pv) (.int 0))])))) ρ h
      fun r h' => ∃ b, r = .v (.bl b) ∧ (b = false → ∃ l x, d = .tup [lotD l, x] ∧ (∀ y ∈ l, 0 ≤ y ∧ y < m) ∧ l.Pairwise (· < ·)) ∧ (b = true → ¬ GoodD m F z d) ∧ ∃ g, h' = h ++ g := by
  refine q_or (q_not (q_isi (q_var e1 ⟨vl_kn v, _, rfl, _, rfl, fun hz => ?_, fun hz => ⟨_, rfl, fun q => (nomatch q), fun _ => ?_, [], (List.append_nil _).symm⟩⟩)))
  · have hz' : (!isD h d .tuple) = false := hz
    obtain ⟨xs, rfl⟩ := is_tup.mp (show isD h d .tuple = true by simpa using hz')
    have hlen : bltn .len h [.v (.tup xs)] = some (.v (.int (xs.length : Nat)), h) := rfl
    refine q_or (q_cmp (q_bi (q_rscons (q_var e1 (q_rsnil ⟨_, _, hlen, q_int ⟨_, int_ne, _, rfl, fun hz => ?_, fun hz => ⟨_, rfl, fun q => (nomatch q), fun _ => ?_, [], (List.append_nil _).symm⟩⟩⟩)))))
    · have h2 : xs.length = 2 := by simp at hz; omega
      match xs, h2 with
      | [y, x], _ =>
        have hi0 : item h (.v (famD m F)) (.v (.int 0)) = some (.int m) := rfl
        have hi1 : item h (.v (.tup [y, x])) (.v (.int 0)) = some y := rfl
        refine q_not (q_call (q_escons (q_ix (q_var e0 (q_int ⟨_, hi0, q_escons (q_ix (q_var e1 (q_int ⟨_, hi1, q_esnil ((hQ k h y m (vls_mem (vl_vls v) y List.mem_cons_self)).mono ?_)⟩)))⟩)))))
        rintro r h' ⟨⟨b, rfl, hb⟩, g, rfl⟩
        refine ⟨_, rfl, _, rfl, fun q => ?_, fun q => ?_, g, rfl⟩
        · obtain ⟨l, rfl, a1, a2⟩ := hb.mp (by simpa using q)
          exact ⟨l, x, rfl, a1, a2⟩
        · rintro ⟨p, e, hp⟩
          unfold pairD at e
          injection e with e
          injection e with e2 e3
          have : b = true := hb.mpr ⟨p.1, e2, hp.1, hp.2.1⟩
          rw [this] at q
          exact nomatch q
    · rintro ⟨p, e, hp⟩
      unfold pairD at e
      injection e with e
      rw [e] at hz
      exact nomatch hz
  · rintro ⟨p, e, hp⟩
    have hz' : (!isD h d .tuple) = true := hz
    rw [is_tup.mpr ⟨_, e⟩] at hz'
    exact nomatch hz'
theorem ix0 {l : Lot} {x : D} : item h (.v (.tup [lotD l, x])) (.v (.int 0)) = some (lotD l) := rfl
theorem ix1 {l : Lot} {x : D} : item h (.v (.tup [lotD l, x])) (.v (.int 1)) = some x := rfl
/-- the second -/
theorem len_test {pv : Nat} {cl : Call} {Q : Res → Hh → Prop} (e1 : ρ[pv]? = some (some (.tup [lotD l, x]))) (e2 : ρ[1]? = some (some (.int z))) (q : Q (.v (.bl (!decide ((l.length : Int) = z)))) h) :
    EQ cl (.cmp .ne (.bi .len [(.ix (.var pv) (.int 0))]) (.var 1)) ρ h Q :=
  q_cmp (q_bi (q_rscons (q_ix (q_var e1 (q_int ⟨_, ix0, q_rsnil ⟨_, _, len_lot, q_var e2 ⟨_, int_ne, q⟩⟩⟩)))))
theorem in_test {pv : Nat} {cl : Call} {Q : Res → Hh → Prop} (e0 : ρ[0]? = some (some (famD m F))) (e1 : ρ[pv]? = some (some (.tup [lotD l, x]))) (q : Q (.v (.bl (!decide (l ∈ F)))) h) :
    EQ cl (.cmp .notin (.ix (.var pv) (.int 0)) (.ix (.var 0) (.int 1))) ρ h Q :=
  q_cmp (q_ix (q_var e1 (q_int ⟨_, ix0, q_ix (q_var e0 (q_int ⟨_, fam_ix, _, notin_lots, q⟩))⟩)))
end
def isChainLoop (ci : Nat) : List S := [
   (.ite (.or (.not (.isi .tuple (.var 3))) (.or (.cmp .ne (.bi .len [(.var 3)]) (.int 2)) (.not (.call ci [(.ix (.var 0) (.int 0)), (.ix (.var 3) (.int 0))])))) [(.ret (.bl false))] []),
   (.ite (.or (.cmp .ne (.bi .len [(.ix (.var 3) (.int 0))]) (.var 1)) (.cmp .notin (.ix (.var 3) (.int 0)) (.ix (.var 0) (.int 1)))) [(.ret (.bl false))] []),
   (.ite (.or (.not (.isi .int (.ix (.var 3) (.int 1)))) (.or (.isi .bool (.ix (.var 3) (.int 1))) (.cmp .eq (.ix (.var 3) (.int 1)) (.int 0)))) [(.ret (.bl false))] [])]
def isChainBody (ci : Nat) : List S := [(.ite (.not (.isi .tuple (.var 2))) [(.ret (.bl false))] []), (.for (.nm 3) (.of (.var 2)) (isChainLoop ci)),
 (.ret (.cmp .eq (.lc (.nm 4) (.range [(.int 1), (.bi .len [(.var 2)])]) (some (.cmp .le (.ix (.ix (.var 2) (.var 4)) (.int 0)) (.ix (.ix (.var 2) (.bin .sub (.var 4) (.int 1))) (.int 0)))) (.var 4) [("k", 4)]) (.lst [])))]
def ChainQ (fns : List Fn) (f : Nat) : Prop := ∀ (k : Nat) (h : Hh) (d : D) (m z : Int) (F : List Lot), vl h d = true → CQ (callN fns (k + 3)) f [famD m F, .int z, d] h fun r h' => (∃ b, r = .bl b ∧ (b = true ↔ IsChain m F z d)) ∧ ∃ g, h' = h ++ g
theorem retF {cl : Call} {ρ : Rho} {h : Hh} {P : Out → Prop} (p : P (.rt (.bl false) h)) : SsQ cl [(.ret (.bl false))] ρ h P := q_cons (q_ret (q_bl p))
theorem chain_loop_ok {fns : List Fn} {ci k : Nat} {h : Hh} {m z : Int} {F : List Lot} {d w : D} {y4 : Option D} (hQ : LotQ fns ci) (v : vl h d = true) :
    SsQ (callN fns (k + 2)) (isChainLoop ci) [some (famD m F), some (.int z), some w, some d, y4] h fun o => (∃ h' g, o = .rt (.bl false) h' ∧ h' = h ++ g ∧ ¬ GoodD m F z d) ∨ (∃ p h' g, o = .nx [some (famD m F), some (.int z), some w, some (pairD p), y4] h' ∧ h' = h ++ g ∧ d = pairD p ∧ GoodP m F z p) := by
  refine q_cons (q_if ((pair_test (m := m) (F := F) (z := z) hQ rfl rfl v).mono ?_))
  rintro r h1 ⟨b, rfl, hb0, hb1, g, rfl⟩
  refine ⟨b, rfl, fun z1 => retF (.inl ⟨_, g, rfl, rfl, hb1 z1⟩), fun z1 => q_nil ?_⟩
  obtain ⟨l, x, rfl, a1, a2⟩ := hb0 z1
  have bad : ∀ {P : Prop}, (∀ p : Lot × Int, x = .int p.2 → GoodP m F z (l, p.2) → False) → ¬ GoodD m F z (.tup [lotD l, x]) := fun {P} hf => by
    rintro ⟨p, e, hp⟩
    unfold pairD at e
    injection e with e
    injection e with e2 e3
    injection e3 with e3 _
    have e2' := lotD_inj e2
    exact hf p e3 (by rw [e2']; exact hp)
  refine q_cons (q_if (q_or (len_test rfl rfl ⟨_, rfl, fun z2 => ?_, fun z2 => ⟨_, rfl, fun _ => retF (.inl ⟨_, g, rfl, rfl, bad (P := True) fun p _ hp => ?_⟩), fun q => (nomatch q)⟩⟩)))
  · refine in_test rfl rfl ⟨_, rfl, fun z3 => retF (.inl ⟨_, g, rfl, rfl, bad (P := True) fun p _ hp => ?_⟩), fun z3 => q_nil ?_⟩
    · have : l ∈ F := hp.2.2.2.1
      simp [this] at z3
    have hx : knownTy h (.v x) = true := vl_kn (vls_mem (vl_vls v) x (by simp))
    have hx : knownTy (h ++ g) (.v x) = true := kn_app (r := .v x) hx
    have hn := is_num hx
    have nonum : numB x = false → ¬ GoodD m F z (.tup [lotD l, x]) := fun q => bad (P := True) fun p e _ => by rw [e] at q; exact nomatch q
    refine q_cons (q_if (q_or (q_not (q_isi (q_ix (q_var rfl (q_int ⟨_, ix1, hx, _, rfl, _, rfl, fun z4 => ?_, fun z4 => ⟨_, rfl, fun _ => retF (.inl ⟨_, g, rfl, rfl, nonum ?_⟩), fun q => (nomatch q)⟩⟩)))))))
    · have z4' : isD (h ++ g) x .int = true := by simpa using (show (!isD (h ++ g) x .int) = false from z4)
      rw [z4', Bool.true_and] at hn
      refine q_or (q_isi (q_ix (q_var rfl (q_int ⟨_, ix1, hx, _, rfl, fun z5 => ?_, fun z5 => ⟨_, rfl, fun _ => retF (.inl ⟨_, g, rfl, rfl, nonum ?_⟩), fun q => (nomatch q)⟩⟩))))
      · have z5' : isD (h ++ g) x .bool = false := z5
        rw [z5'] at hn
        obtain ⟨i, rfl⟩ := num_is hn.symm
        refine q_cmp (q_ix (q_var rfl (q_int ⟨_, ix1, q_int ⟨_, int_eq, _, rfl, fun z6 => ?_, fun z6 => ?_⟩⟩)))
        · refine retF (.inl ⟨_, g, rfl, rfl, bad (P := True) fun p e hp => ?_⟩)
          injection e with e
          have := of_decide_eq_true z6
          exact hp.2.2.2.2 (by rw [← e]; exact this)
        · refine q_nil (q_nil (.inr ⟨(l, i), _, g, rfl, rfl, rfl, a1, a2, ?_, ?_, ?_⟩))
          · simpa using z2
          · simpa using z3
          · exact of_decide_eq_false z6
      · have z5' : isD (h ++ g) x .bool = true := z5
        rw [← hn, z5']; rfl
    · have z4' : isD (h ++ g) x .int = false := by simpa using (show (!isD (h ++ g) x .int) = true from z4)
      rw [← hn, z4']; rfl
  · have : ((l.length : Nat) : Int) = z := hp.2.2.1
    simp [this] at z2
theorem lex_iff (A : Num) : (A.Pairwise fun p q => lexI p.1 q.1 = true) ↔ ∀ k, 1 ≤ k → k < A.length → lexI (A.getD (k - 1) ([], 0)).1 (A.getD k ([], 0)).1 = true := by
  induction A with
  | nil => simp
  | cons a l ih =>
    cases l with
    | nil => simp; intro k h1 h2; omega
    | cons b l =>
      rw [List.pairwise_cons, ih]
      constructor
      · rintro ⟨h1, h2⟩ k hk1 hk2
        cases k with
        | zero => omega
        | succ k =>
          cases k with
          | zero => exact h1 b List.mem_cons_self
          | succ k => exact h2 (k + 1) (by omega) (by simpa using hk2)
      · intro h
        have hp : (b :: l).Pairwise fun p q => lexI p.1 q.1 = true := ih.mpr fun k h1 h2 => by
          have := h (k + 1) (by omega) (by simpa using h2)
          cases k with
          | zero => omega
          | succ k => exact this
        refine ⟨fun x hx => ?_, fun k h1 h2 => by
          have := h (k + 1) (by omega) (by simpa using h2)
          cases k with
          | zero => omega
          | succ k => exact this⟩
        have h0 : lexI a.1 b.1 = true := h 1 (by omega) (by simp)
        rcases List.mem_cons.mp hx with rfl | hx
        · exact h0
        · exact lexI_trans h0 ((List.pairwise_cons.mp hp).1 x hx)
theorem at_ch {A : Num} {i : Nat} {h : Hh} (hi : i < A.length) : item h (.v (chD A)) (.v (.int (i : Int))) = some (pairD (A.getD i ([], 0))) := by
  show L2.atI (A.map pairD) _ = _
  unfold L2.atI L2.ixN
  rw [if_pos (by omega), if_pos (by simp; omega)]
  simp only [Int.toNat_natCast, Option.bind_some, List.getElem?_map, List.getD_eq_getElem?_getD, List.getElem?_eq_getElem hi]
  rfl
theorem ch0 {h : Hh} {p : Lot × Int} : item h (.v (pairD p)) (.v (.int 0)) = some (lotD p.1) := rfl
theorem is_chain_ok {fns : List Fn} {f ci : Nat} {fn : Fn} (hQ : LotQ fns ci) (hf : fns[f]? = some fn) (hb : fn.body = isChainBody ci) (hN : fn.N.length = 5) (hnp : fn.np = 3) : ChainQ fns f := by
  intro k h d m z F v
  refine q_fn hf hnp.symm ?_
  rw [hb, hN]
  show SsQ (callN fns (k + 2)) (isChainBody ci) [some (famD m F), some (.int z), some d, none, none] h _
  refine q_cons (q_if (q_not (q_isi (q_var rfl ⟨vl_kn v, _, rfl, _, rfl, fun z1 => ?_, fun z1 => q_nil ?_⟩))))
  · refine retF ⟨⟨false, rfl, fun q => (nomatch q), ?_⟩, [], (List.append_nil _).symm⟩
    rintro ⟨A, e, _⟩
    have z1' : (!isD h d .tuple) = true := z1
    rw [is_tup.mpr ⟨_, e⟩] at z1'
    exact nomatch z1'
  have z1' : (!isD h d .tuple) = false := z1
  obtain ⟨xs, rfl⟩ := is_tup.mp (show isD h d .tuple = true by simpa using z1')
  clear z1 z1'
  have hlx := vl_len v
  refine q_cons (q_for (q_wof (q_var rfl ⟨⟨xs, none, none⟩, rfl, ?_⟩)))
  refine for_by (fun done ρ h1 => ∃ (A : Num) (y : Option D) (g : Hh), ρ = [some (famD m F), some (.int z), some (.tup xs), y, none] ∧ h1 = h ++ g ∧ done = A.map pairD ∧ ∀ p ∈ A, GoodP m F z p) xs [] _ _ ⟨[], none, [], rfl, (List.append_nil _).symm, rfl, fun p hp => (nomatch hp)⟩ (fun _ _ _ _ => rfl) ?_ ?_
  · rintro d done rest ρ h1 e ⟨A, y, g, rfl, rfl, rfl, hg⟩
    refine ⟨_, rfl, ?_⟩
    have hd : d ∈ xs := by rw [List.nil_append] at e; rw [e]; simp
    have hv : vl (h ++ g) d = true := vl_app d (vls_mem (vl_vls v) d hd)
    obtain ⟨o, eo, ho⟩ := chain_loop_ok (k := k) (z := z) (m := m) (F := F) (w := .tup xs) (y4 := none) hQ hv
    refine ⟨o, eo, ?_⟩
    rcases ho with ⟨h', g2, rfl, rfl, nb⟩ | ⟨p, h', g2, rfl, rfl, rfl, gp⟩
    · exact ⟨⟨false, rfl, fun q => (nomatch q), fun c => (nb (chain_good c d hd)).elim⟩, g ++ g2, List.append_assoc _ _ _⟩
    · refine ⟨A ++ [p], _, g ++ g2, rfl, List.append_assoc _ _ _, by simp, fun q hq => ?_⟩
      rcases List.mem_append.mp hq with hq | hq
      · exact hg q hq
      · rw [List.mem_singleton.mp hq]; exact gp
  · rintro ρ h1 ⟨A, y, g, rfl, rfl, e, hg⟩
    rw [List.nil_append] at e
    subst e
    rw [List.length_map] at hlx
    have hlenb : bltn .len (h ++ g) [.v (.tup (A.map pairD))] = some (.v (.int (A.length : Nat)), h ++ g) := by
      show some (Res.v (.int ((A.map pairD).length : Nat)), h ++ g) = _
      rw [List.length_map]
    have hrng : rangeOf [.v (.int 1), .v (.int (A.length : Nat))] = some ((List.range (A.length - 1)).map fun i : Nat => D.int ((1 + i : Nat) : Int)) := range_from (a := 1) (by decide) hlx
    generalize hh0 : h ++ g = h0 at hlenb ⊢
    obtain ⟨h2, e2, hq2⟩ := lc_fm (test := fun ρ h => evT (callN fns (k + 2)) (some (.cmp .le (.ix (.ix (.var 2) (.var 4)) (.int 0)) (.ix (.ix (.var 2) (.bin .sub (.var 4) (.int 1))) (.int 0)))) ρ h) (elt := fun ρ h => asD (ev (callN fns (k + 2)) (.var 4) ρ h)) (tg := .nm 4)
      (w := ⟨(List.range (A.length - 1)).map fun i : Nat => D.int ((1 + i : Nat) : Int), none, none⟩) (ρ := wipeR [some (famD m F), some (.int z), some (.tup (A.map pairD)), y, none] [("k", 4)]) (fun i : Nat => D.int ((1 + i : Nat) : Int)) (fun i => if lotLe (A.getD (1 + i) ([], 0)).1 (A.getD i ([], 0)).1 then some (.int ((1 + i : Nat) : Int)) else none) (fun hh => hh = h0) (List.range (A.length - 1)) [] h0 rfl (fun _ _ => rfl) (by simp; omega) (by
        rintro i hi hh rfl
        have hi' := List.mem_range.mp hi
        refine ⟨_, rfl, lotLe (A.getD (1 + i) ([], 0)).1 (A.getD i ([], 0)).1, hh, ?_, fun z => ?_, fun z => ?_⟩
        · have : TQ (callN fns (k + 2)) (some (.cmp .le (.ix (.ix (.var 2) (.var 4)) (.int 0)) (.ix (.ix (.var 2) (.bin .sub (.var 4) (.int 1))) (.int 0)))) [some (famD m F), some (.int z), some (chD A), y, some (.int ((1 + i : Nat) : Int))] hh fun b h2 => b = lotLe (A.getD (1 + i) ([], 0)).1 (A.getD i ([], 0)).1 ∧ h2 = hh := by
            have hsub : binop .sub hh (.v (.int ((1 + i : Nat) : Int))) (.v (.int 1)) = some (.v (.int ((i : Nat) : Int))) := by
              simp only [binop]
              rw [show ((1 + i : Nat) : Int) - 1 = (i : Int) by omega]
            exact q_tsome (q_cmp (q_ix (q_ix (q_var rfl (q_var rfl ⟨_, at_ch (by omega), q_int ⟨_, ch0, q_ix (q_ix (q_var rfl (q_bin (q_var rfl (q_int ⟨_, hsub, _, at_ch (by omega), q_int ⟨_, ch0, _, le_lot, _, rfl, rfl, rfl⟩⟩)))))⟩⟩)))))
          obtain ⟨b, h3, e3, rfl, rfl⟩ := this
          exact e3
        · exact ⟨_, _, rfl, by rw [if_pos z], rfl⟩
        · exact ⟨by rw [if_neg (by rw [z]; exact Bool.false_ne_true)], rfl⟩)
    rw [List.nil_append, hq2] at e2
    refine q_cons (q_ret (q_cmp (q_lc (q_wrange (q_rscons (q_int (q_rscons (q_bi (q_rscons (q_var rfl (q_rsnil ⟨_, _, hlenb, q_rsnil ⟨_, hrng, _, _, e2, q_lst (q_esnil ⟨rfl, _, eq_nil, ⟨_, rfl, ?_⟩, g, hh0.symm⟩)⟩⟩)))))))))))
    rw [fm_empty]
    constructor
    · intro hz
      refine ⟨A, rfl, hg, (lex_iff A).mpr fun j h1 h2 => ?_⟩
      have := hz (j - 1) (List.mem_range.mpr (by omega))
      split at this
      · cases this
      · rename_i hn
        rw [show 1 + (j - 1) = j by omega] at hn
        unfold lotLe at hn
        simpa using hn
    · rintro ⟨A', el, _, hup⟩ i hi
      have el' := chD_inj (A := A) el
      subst el'
      have := (lex_iff A).mp hup (1 + i) (by omega) (by have := List.mem_range.mp hi; omega)
      rw [show 1 + i - 1 = i by omega] at this
      rw [if_neg]
      unfold lotLe
      rw [this]; simp
end Co

set_option linter.all false
set_option maxRecDepth 100000
set_option autoImplicit false
/-! Core57: _law_is_chain. -/
namespace Co
open PySem

theorem nats_lots (L : List Lot) : nats (L.map lotD) = true := nats_all _ nat_lot L
theorem deps_lots (L : List Lot) : PyData.depthAll (pys (L.map lotD)) ≤ 2 := by
  refine depth_all 2 _ fun d hd => ?_
  obtain ⟨i, _, rfl⟩ := List.mem_map.mp hd
  exact depth_lot i
theorem lots_inj {a b : List Lot} : (a.map lotD = b.map lotD) ↔ a = b :=
  ⟨fun e => (List.map_inj_right (f := lotD) (fun x y e => lotD_inj e)).mp e, fun e => by rw [e]⟩
/-- lots, each once, in order -/
def dedL (L : List Lot) : List Lot := ((L.foldl putZ []).map (·.1)).mergeSort lotLe
theorem ded_nd (L : List Lot) : (dedL L).Nodup := (List.mergeSort_perm _ _).nodup_iff.mpr (putZ_nd L [] List.nodup_nil)
theorem ded_mem (L : List Lot) (p : Lot) : p ∈ dedL L ↔ p ∈ L := by
  unfold dedL
  rw [(List.mergeSort_perm _ _).mem_iff, putZ_keys]
  simp
theorem ded_pw (L : List Lot) : (dedL L).Pairwise fun a b => lotLe a b = true := List.pairwise_mergeSort (fun a b c => lotLe_trans a b c) lotLe_total _
theorem lex_of_le {a b : Lot} (h : lotLe a b = true) (hn : a ≠ b) : lexI a b = true := by
  cases q : lexI a b with
  | true => rfl
  | false =>
    unfold lotLe at h
    exact absurd (lexI_total q (by simpa using h)) hn
theorem le_of_lex {a b : Lot} (h : lexI a b = true) : lotLe a b = true := by
  unfold lotLe; rw [lexI_asym h]; rfl
theorem ded_iff (L : List Lot) : L = dedL L ↔ L.Pairwise fun a b => lexI a b = true := by
  constructor
  · intro e
    rw [e]
    have h1 := ded_nd L
    rw [List.nodup_iff_pairwise_ne] at h1
    exact (ded_pw L).imp₂ (fun a b h2 h3 => lex_of_le h2 h3) h1
  · intro h
    have hn : L.Nodup := by
      rw [List.nodup_iff_pairwise_ne]
      refine h.imp fun {a b} z e => ?_
      rw [e, lexI_irr] at z
      exact nomatch z
    refine List.Perm.eq_of_pairwise (le := fun a b => lotLe a b = true) (fun a b _ _ => lotLe_anti) (h.imp fun {a b} z => le_of_lex z) (ded_pw L) ?_
    exact (List.perm_ext_iff_of_nodup hn (ded_nd L)).mpr fun p => (ded_mem L p).symm
theorem pairs_lots : ∀ L : List Lot, pairsOf (L.map fun l => D.tup [lotD l, .int 0]) = some (numD (L.map fun l => (l, 0)))
  | [] => rfl
  | x :: l => by
    show (pairsOf (l.map _)).map _ = _
    rw [pairs_lots l]; rfl
theorem dict_lots {h : Hh} {L : List Lot} : bltn .dict h [.f (L.map fun l => D.tup [lotD l, .int 0])] = some (.v (.ref h.length), h ++ [.dct (numD (L.foldl putZ []))]) := by
  have hm : mkDict (numD (L.map fun l => (l, 0))) = numD (L.foldl putZ []) := num_more L []
  simp only [bltn, biDict, dictBi, seqOf, pairs_lots]
  rw [if_pos, hm]
  unfold dictOk
  rw [Bool.or_eq_true]; right
  exact num_keys _
def lawChainLoop (li ni : Nat) : List S := [
   (.ite (.or (.not (.isi .tuple (.var 4))) (.or (.cmp .ne (.bi .len [(.var 4)]) (.int 2)) (.not (.call li [(.ix (.var 0) (.int 0)), (.ix (.var 4) (.int 0))])))) [(.ret (.bl false))] []),
   (.ite (.or (.cmp .ne (.bi .len [(.ix (.var 4) (.int 0))]) (.var 1)) (.or (.cmp .notin (.ix (.var 4) (.int 0)) (.ix (.var 0) (.int 1))) (.or (.not (.call ni [(.ix (.var 4) (.int 1))])) (.cmp .eq (.ix (.var 4) (.int 1)) (.int 0))))) [(.ret (.bl false))] []),
   (.ex (.me .append (.var 3) [(.ix (.var 4) (.int 0))]))]
def lawChainBody (li ni : Nat) : List S := [(.ite (.not (.isi .tuple (.var 2))) [(.ret (.bl false))] []), (.asg (.nm 3) (.lst [])), (.for (.nm 4) (.of (.var 2)) (lawChainLoop li ni)),
 (.ret (.cmp .eq (.var 3) (.bi .sorted [(.bi .dict [(.lc (.nm 5) (.of (.var 3)) none (.tup [(.var 5), (.int 0)]) [("lot", 5)])])])))]
theorem law_loop_ok {fns : List Fn} {li ni k : Nat} {h g0 : Hh} {m z : Int} {F : List Lot} {d w : D} {y5 : Option D} {L : List Lot} (hQ : LotQ fns li) (hNm : Number fns ni) (v : vl (h ++ Cell.lst (L.map lotD) :: g0) d = true) (hL : L.length ≤ 1000000) :
    SsQ (callN fns (k + 2)) (lawChainLoop li ni) [some (famD m F), some (.int z), some w, some (.ref h.length), some d, y5] (h ++ Cell.lst (L.map lotD) :: g0) fun o => (∃ h' g, o = .rt (.bl false) h' ∧ h' = h ++ g ∧ ¬ GoodD m F z d) ∨
      (∃ p h' g, o = .nx [some (famD m F), some (.int z), some w, some (.ref h.length), some (pairD p), y5] h' ∧ h' = h ++ Cell.lst ((L ++ [p.1]).map lotD) :: g ∧ d = pairD p ∧ GoodP m F z p) := by
  refine q_cons (q_if ((pair_test (m := m) (F := F) (z := z) hQ rfl rfl v).mono ?_))
  rintro r h1 ⟨b, rfl, hb0, hb1, g, rfl⟩
  rw [List.append_assoc, List.cons_append]
  refine ⟨b, rfl, fun z1 => retF (.inl ⟨_, _, rfl, rfl, hb1 z1⟩), fun z1 => q_nil ?_⟩
  obtain ⟨l, x, rfl, a1, a2⟩ := hb0 z1
  have bad : ∀ {P : Prop}, (∀ p : Lot × Int, x = .int p.2 → GoodP m F z (l, p.2) → False) → ¬ GoodD m F z (.tup [lotD l, x]) := fun {P} hf => by
    rintro ⟨p, e, hp⟩
    unfold pairD at e
    injection e with e
    injection e with e2 e3
    injection e3 with e3 _
    have e2' := lotD_inj e2
    exact hf p e3 (by rw [e2']; exact hp)
  have hx : knownTy (h ++ Cell.lst (L.map lotD) :: g0) (.v x) = true := vl_kn (vls_mem (vl_vls v) x (by simp))
  have hx : knownTy (h ++ Cell.lst (L.map lotD) :: (g0 ++ g)) (.v x) = true := by
    have := kn_app (g := g) (r := .v x) hx
    rwa [List.append_assoc, List.cons_append] at this
  have nonum : numB x = false → ¬ GoodD m F z (.tup [lotD l, x]) := fun q => bad (P := True) fun p e _ => by rw [e] at q; exact nomatch q
  refine q_cons (q_if (q_or (len_test rfl rfl ⟨_, rfl, fun z2 => ?_, fun z2 => ⟨_, rfl, fun _ => retF (.inl ⟨_, _, rfl, rfl, bad (P := True) fun p _ hp => ?_⟩), fun q => (nomatch q)⟩⟩)))
  · refine q_or (in_test rfl rfl ⟨_, rfl, fun z3 => ?_, fun z3 => ⟨_, rfl, fun _ => retF (.inl ⟨_, _, rfl, rfl, bad (P := True) fun p _ hp => ?_⟩), fun q => (nomatch q)⟩⟩)
    · refine q_or (q_not (q_call (q_escons (q_ix (q_var rfl (q_int ⟨_, ix1, q_esnil ((hNm (k + 1) _ x hx).mono ?_)⟩))))))
      rintro r h2 ⟨rfl, rfl⟩
      refine ⟨_, rfl, _, rfl, fun z4 => ?_, fun z4 => ⟨_, rfl, fun _ => retF (.inl ⟨_, _, rfl, rfl, nonum (by simpa using z4)⟩), fun q => (nomatch q)⟩⟩
      obtain ⟨i, rfl⟩ := num_is (d := x) (by simpa using z4)
      refine q_cmp (q_ix (q_var rfl (q_int ⟨_, ix1, q_int ⟨_, int_eq, _, rfl, fun z6 => ?_, fun z6 => q_nil ?_⟩⟩)))
      · refine retF (.inl ⟨_, _, rfl, rfl, bad (P := True) fun p e hp => ?_⟩)
        injection e with e
        have := of_decide_eq_true z6
        exact hp.2.2.2.2 (by rw [← e]; exact this)
      · have hap : methd .append (h ++ Cell.lst (L.map lotD) :: (g0 ++ g)) (.ref h.length) [.v (lotD l)] = some (.v .non, h ++ Cell.lst ((L ++ [l]).map lotD) :: (g0 ++ g)) := by
          simp only [methd, mid_look, mLst]
          rw [if_pos (decide_eq_true (by rw [List.length_map]; omega)), mid_set, List.map_append]
          rfl
        refine q_cons (q_ex (q_me (q_var rfl ⟨_, rfl, q_rscons (q_ix (q_var rfl (q_int ⟨_, ix0, q_rsnil ⟨rfl, _, _, hap, q_nil (.inr ⟨(l, i), _, _, rfl, rfl, rfl, a1, a2, ?_, ?_, ?_⟩)⟩⟩)))⟩)))
        · simpa using z2
        · simpa using z3
        · exact of_decide_eq_false z6
    · have : l ∈ F := hp.2.2.2.1
      simp [this] at z3
  · have : ((l.length : Nat) : Int) = z := hp.2.2.1
    simp [this] at z2
theorem law_is_chain_ok {fns : List Fn} {f li ni : Nat} {fn : Fn} (hQ : LotQ fns li) (hNm : Number fns ni) (hf : fns[f]? = some fn) (hb : fn.body = lawChainBody li ni) (hN : fn.N.length = 6) (hnp : fn.np = 3) : ChainQ fns f := by
  intro k h d m z F v
  refine q_fn hf hnp.symm ?_
  rw [hb, hN]
  show SsQ (callN fns (k + 2)) (lawChainBody li ni) [some (famD m F), some (.int z), some d, none, none, none] h _
  refine q_cons (q_if (q_not (q_isi (q_var rfl ⟨vl_kn v, _, rfl, _, rfl, fun z1 => ?_, fun z1 => q_nil ?_⟩))))
  · refine retF ⟨⟨false, rfl, fun q => (nomatch q), ?_⟩, [], (List.append_nil _).symm⟩
    rintro ⟨A, e, _⟩
    have z1' : (!isD h d .tuple) = true := z1
    rw [is_tup.mpr ⟨_, e⟩] at z1'
    exact nomatch z1'
  have z1' : (!isD h d .tuple) = false := z1
  obtain ⟨xs, rfl⟩ := is_tup.mp (show isD h d .tuple = true by simpa using z1')
  clear z1 z1'
  have hlx := vl_len v
  refine q_cons (q_asg (q_lst (q_esnil ⟨rfl, _, rfl, ?_⟩)))
  refine q_cons (q_for (q_wof (q_var rfl ⟨⟨xs, none, none⟩, rfl, ?_⟩)))
  refine for_by (fun done ρ h1 => ∃ (A : Num) (y : Option D) (g : Hh), ρ = [some (famD m F), some (.int z), some (.tup xs), some (.ref h.length), y, none] ∧ h1 = h ++ Cell.lst ((A.map (·.1)).map lotD) :: g ∧ done = A.map pairD ∧ ∀ p ∈ A, GoodP m F z p) xs [] _ _ ⟨[], none, [], rfl, rfl, rfl, fun p hp => (nomatch hp)⟩ (fun _ _ _ _ => rfl) ?_ ?_
  · rintro d done rest ρ h1 e ⟨A, y, g, rfl, rfl, rfl, hg⟩
    refine ⟨_, rfl, ?_⟩
    have hd : d ∈ xs := by rw [List.nil_append] at e; rw [e]; simp
    have hv : vl (h ++ Cell.lst ((A.map (·.1)).map lotD) :: g) d = true := vl_app d (vls_mem (vl_vls v) d hd)
    have hlA : (A.map (·.1)).length ≤ 1000000 := by
      have := congrArg List.length e
      simp at this
      simp; omega
    obtain ⟨o, eo, ho⟩ := law_loop_ok (k := k) (z := z) (m := m) (F := F) (w := .tup xs) (y5 := none) hQ hNm hv hlA
    refine ⟨o, eo, ?_⟩
    rcases ho with ⟨h', g2, rfl, rfl, nb⟩ | ⟨p, h', g2, rfl, rfl, rfl, gp⟩
    · exact ⟨⟨false, rfl, fun q => (nomatch q), fun c => (nb (chain_good c d hd)).elim⟩, g2, rfl⟩
    · refine ⟨A ++ [p], _, g2, rfl, by rw [List.map_append (l₁ := A)]; rfl, by simp, fun q hq => ?_⟩
      rcases List.mem_append.mp hq with hq | hq
      · exact hg q hq
      · rw [List.mem_singleton.mp hq]; exact gp
  · rintro ρ h1 ⟨A, y, g, rfl, rfl, e, hg⟩
    rw [List.nil_append] at e
    subst e
    rw [List.length_map] at hlx
    generalize hLL : A.map (·.1) = L
    have hLl : L.length ≤ 1000000 := by rw [← hLL, List.length_map]; exact hlx
    have hk : look (h ++ Cell.lst (L.map lotD) :: g) h.length = some (.lst (L.map lotD)) := mid_look
    generalize hh0 : h ++ Cell.lst (L.map lotD) :: g = h0 at hk
    have hwk : walkOf h0 (.v (.ref h.length)) = some ⟨L.map lotD, some (h.length, L.map lotD), none⟩ := by
      simp only [walkOf, seqOf, guardOf, hk]
    obtain ⟨h2, e2, hq2⟩ := lc_fm (test := fun ρ h => evT (callN fns (k + 2)) none ρ h) (elt := fun ρ h => asD (ev (callN fns (k + 2)) (.tup [(.var 5), (.int 0)]) ρ h)) (tg := .nm 5)
      (w := ⟨L.map lotD, some (h.length, L.map lotD), none⟩) (ρ := wipeR [some (famD m F), some (.int z), some (.tup (A.map pairD)), some (.ref h.length), y, none] [("lot", 5)]) lotD (fun l => some (.tup [lotD l, .int 0])) (fun hh => hh = h0) L [] h0 rfl (by
        rintro hh rfl
        simp only [Walk.ok, stays, hk]
        simp) (by simp; omega) (by
        rintro l hl hh rfl
        exact ⟨_, rfl, true, _, rfl, fun _ => ⟨_, _, rfl, rfl, rfl⟩, fun hz => nomatch hz⟩)
    rw [List.nil_append, hq2, fm_some (fun l : Lot => D.tup [lotD l, .int 0])] at e2
    have hdl : (L.foldl putZ []).length ≤ 1000000 := by
      have := putZ_len L []
      simp only [List.length_nil, Nat.zero_add] at this
      omega
    have hso : bltn .sorted (h0 ++ [.dct (numD (L.foldl putZ []))]) [.v (.ref h0.length)] = some (.f ((dedL L).map lotD), h0 ++ [.dct (numD (L.foldl putZ []))]) := sorted_num last_look hdl
    have hk2 : look (h0 ++ [.dct (numD (L.foldl putZ []))]) h.length = some (.lst (L.map lotD)) := by
      unfold look at hk ⊢
      rw [List.getElem?_append_left (List.getElem?_eq_some_iff.mp hk).1]; exact hk
    have heq : cmpop .eq (h0 ++ [.dct (numD (L.foldl putZ []))]) (.v (.ref h.length)) (.f ((dedL L).map lotD)) = some (decide (L.map lotD = (dedL L).map lotD)) :=
      eq_lists (by simp only [listOf, hk2]) rfl (ref_dat hk2 (nats_lots _)) (f_dat (nats_lots _)) (nats_lots _) (nats_lots _) (Nat.le_trans (deps_lots _) (by decide)) (Nat.le_trans (deps_lots _) (by decide))
    refine q_cons (q_ret (q_cmp (q_var rfl (q_bi (q_rscons (q_bi (q_rscons (q_lc (q_wof (q_var rfl ⟨_, hwk, _, _, e2, q_rsnil ⟨_, _, dict_lots, q_rsnil ⟨_, _, hso, _, heq, ⟨_, rfl, ?_⟩, Cell.lst (L.map lotD) :: g ++ [.dct (numD (L.foldl putZ []))], ?_⟩⟩⟩))))))))))
    · rw [decide_eq_true_iff, lots_inj, ded_iff, ← hLL, List.pairwise_map]
      constructor
      · exact fun hz => ⟨A, rfl, hg, hz⟩
      · rintro ⟨A', el, _, hup⟩
        have el' := chD_inj (A := A) el
        subst el'
        exact hup
    · show h0 ++ _ = _
      rw [← hh0, List.append_assoc]
end Co

set_option linter.all false
set_option maxRecDepth 100000
set_option autoImplicit false
/-! Core58: values that are bent, and how they are shown. -/
namespace Co
open PySem

mutual
/-- simple values, their ints within N -/
def sp (N : Nat) : D → Bool
  | .non => true
  | .bl _ => true
  | .int i => decide (i.natAbs ≤ N)
  | .str x => PyData.strOk (PyData.shown (.str x)) && PyData.leavesShort 13 (.str x) && PyData.canLay0 (.str x)
  | .tup xs => sps N xs
  | .fl _ => false
  | .ref _ => false
def sps (N : Nat) : List D → Bool
  | [] => true
  | x :: xs => sp N x && sps N xs
end
mutual
/-- .. with lists of such or empty dicts within, of one kind -/
def btv (N : Nat) (b : Bool) (s c : Nat) (h : Hh) : D → Bool
  | .tup xs => btvs N b s c h xs
  | .ref n => decide (n ≠ s) && decide (n ≠ c) && (match look h n with
    | some (.lst ys) => !b && sps N ys
    | some (.dct kvs) => b && kvs.isEmpty
    | _ => false)
  | d => sp N d
def btvs (N : Nat) (b : Bool) (s c : Nat) (h : Hh) : List D → Bool
  | [] => true
  | x :: xs => btv N b s c h x && btvs N b s c h xs
end
mutual
def pyH (h : Hh) : D → PyData
  | .tup xs => .tuple (pyHs h xs)
  | .ref n => match look h n with
    | some (.lst ys) => .list (pys ys)
    | _ => .dict []
  | d => py d
def pyHs (h : Hh) : List D → List PyData
  | [] => []
  | x :: xs => pyH h x :: pyHs h xs
end
theorem sps_all {N : Nat} : ∀ {xs : List D}, sps N xs = true ↔ ∀ x ∈ xs, sp N x = true
  | [] => by simp [sps]
  | x :: xs => by simp [sps, sps_all (xs := xs)]
theorem btvs_all {N : Nat} {b : Bool} {s c : Nat} {h : Hh} : ∀ {xs : List D}, btvs N b s c h xs = true ↔ ∀ x ∈ xs, btv N b s c h x = true
  | [] => by simp [btvs]
  | x :: xs => by simp [btvs, btvs_all (xs := xs)]
mutual
theorem sp_mono {N M : Nat} (hm : N ≤ M) : ∀ d : D, sp N d = true → sp M d = true
  | .int i, v => by simp only [sp, decide_eq_true_eq] at v ⊢; omega
  | .tup xs, v => by simp only [sp] at v ⊢; exact sps_mono hm xs v
  | .non, v => v
  | .bl _, v => v
  | .str _, v => v
  | .fl _, v => v
  | .ref _, v => v
theorem sps_mono {N M : Nat} (hm : N ≤ M) : ∀ ds : List D, sps N ds = true → sps M ds = true
  | [], v => v
  | d :: ds, v => by
    simp only [sps, Bool.and_eq_true] at v ⊢
    exact ⟨sp_mono hm d v.1, sps_mono hm ds v.2⟩
end
mutual
theorem sp_btv {N : Nat} {b : Bool} {s c : Nat} {h : Hh} : ∀ d : D, sp N d = true → btv N b s c h d = true
  | .int i, v => v
  | .tup xs, v => by simp only [btv]; simp only [sp] at v; exact sps_btvs xs v
  | .non, v => v
  | .bl _, v => v
  | .str _, v => v
  | .fl _, v => v
  | .ref _, v => nomatch v
theorem sps_btvs {N : Nat} {b : Bool} {s c : Nat} {h : Hh} : ∀ ds : List D, sps N ds = true → btvs N b s c h ds = true
  | [], v => rfl
  | d :: ds, v => by
    simp only [sps, btvs, Bool.and_eq_true] at v ⊢
    exact ⟨sp_btv d v.1, sps_btvs ds v.2⟩
end
mutual
theorem sp_pyH {N : Nat} {h : Hh} : ∀ d : D, sp N d = true → pyH h d = py d
  | .int i, v => rfl
  | .tup xs, v => by simp only [pyH, py]; simp only [sp] at v; rw [sps_pyHs xs v]
  | .non, v => rfl
  | .bl _, v => rfl
  | .str _, v => rfl
  | .fl _, v => nomatch v
  | .ref _, v => nomatch v
theorem sps_pyHs {N : Nat} {h : Hh} : ∀ ds : List D, sps N ds = true → pyHs h ds = pys ds
  | [], v => rfl
  | d :: ds, v => by
    simp only [sps, Bool.and_eq_true] at v
    simp only [pyHs, pys, sp_pyH d v.1, sps_pyHs ds v.2]
end
mutual
theorem sp_good {N : Nat} : ∀ d : D, sp N d = true → pure? d = true ∧ PyData.canLay0 (py d) = true ∧ hasList (py d) = false
  | .int i, v => ⟨rfl, rfl, rfl⟩
  | .tup xs, v => by
    simp only [sp] at v
    have := sps_good xs v
    simpa only [pure?, py, PyData.canLay0, hasList] using this
  | .non, v => ⟨rfl, rfl, rfl⟩
  | .bl _, v => ⟨rfl, rfl, rfl⟩
  | .str _, v => by
    simp only [sp, Bool.and_eq_true] at v
    exact ⟨rfl, v.2, rfl⟩
  | .fl _, v => nomatch v
  | .ref _, v => nomatch v
theorem sps_good {N : Nat} : ∀ ds : List D, sps N ds = true → pures ds = true ∧ PyData.canLayAll0 (pys ds) = true ∧ hasLists (pys ds) = false
  | [], v => ⟨rfl, rfl, rfl⟩
  | d :: ds, v => by
    simp only [sps, Bool.and_eq_true] at v
    have h1 := sp_good d v.1
    have h2 := sps_good ds v.2
    simp only [pures, pys, PyData.canLayAll0, hasLists, h1, h2]; simp
end
theorem showable_int {N : Nat} (hN : N < 10 ^ 12) {i : Int} (h : i.natAbs ≤ N) : PyData.showable (.int i) = true ∧ PyData.leavesShort 13 (.int i) = true := by
  constructor
  · simp only [PyData.showable, decide_eq_true_eq]
    by_cases h0 : i.natAbs = 0
    · rw [h0]; decide
    · refine (Nat.log2_lt h0).mpr ?_
      have : (10 : Nat) ^ 12 < 2 ^ 1920 := Nat.lt_of_lt_of_le (show (10 : Nat) ^ 12 < 2 ^ 40 by decide) (Nat.pow_le_pow_right (by decide) (by decide))
      omega
  · simp only [PyData.leavesShort, decide_eq_true_eq]
    exact PyData.shown_int_le (by omega)
mutual
theorem sp_show {N : Nat} (hN : N < 10 ^ 12) : ∀ d : D, sp N d = true → PyData.showable (py d) = true ∧ PyData.leavesShort 13 (py d) = true
  | .int i, v => by simp only [sp, decide_eq_true_eq] at v; exact showable_int hN v
  | .tup xs, v => by
    simp only [sp] at v
    simpa only [py, PyData.showable, PyData.leavesShort] using sps_show hN xs v
  | .non, v => ⟨rfl, rfl⟩
  | .bl _, v => ⟨rfl, rfl⟩
  | .str _, v => by
    simp only [sp, Bool.and_eq_true] at v
    exact ⟨rfl, v.1.2⟩
  | .fl _, v => nomatch v
  | .ref _, v => nomatch v
theorem sps_show {N : Nat} (hN : N < 10 ^ 12) : ∀ ds : List D, sps N ds = true → PyData.showableAll (pys ds) = true ∧ PyData.leavesShortAll 13 (pys ds) = true
  | [], v => ⟨rfl, rfl⟩
  | d :: ds, v => by
    simp only [sps, Bool.and_eq_true] at v
    have h1 := sp_show hN d v.1
    have h2 := sps_show hN ds v.2
    simp only [pys, PyData.showableAll, PyData.leavesShortAll, h1, h2]; simp
end
mutual
theorem sp_dat1 {N : Nat} {h : Hh} {k : List D → Option (List PyData)} : ∀ d : D, sp N d = true → dat1 h k d = some (py d)
  | .int i, _ => rfl
  | .tup xs, v => by
    have := sps_dat1 (h := h) (k := k) xs (by simpa only [sp] using v)
    simp only [dat1, this, py]; rfl
  | .non, _ => rfl
  | .bl _, _ => rfl
  | .str _, _ => rfl
  | .fl _, v => nomatch v
  | .ref _, v => nomatch v
theorem sps_dat1 {N : Nat} {h : Hh} {k : List D → Option (List PyData)} : ∀ ds : List D, sps N ds = true → dats1 h k ds = some (pys ds)
  | [], _ => rfl
  | d :: ds, v => by
    simp only [sps, Bool.and_eq_true] at v
    simp only [dats1, sp_dat1 d v.1, sps_dat1 ds v.2, pys]
end
section
variable {N : Nat} {b : Bool} {s c : Nat} {h h' : Hh}
theorem ref_read {n : Nat} (v : btv N b s c h (.ref n) = true) : n ≠ s ∧ n ≠ c ∧ ((∃ ys, look h n = some (.lst ys) ∧ b = false ∧ sps N ys = true) ∨ (look h n = some (.dct []) ∧ b = true)) := by
  simp only [btv, Bool.and_eq_true, decide_eq_true_eq] at v
  refine ⟨v.1.1, v.1.2, ?_⟩
  have v2 := v.2
  split at v2
  · rename_i ys e
    simp only [Bool.and_eq_true, Bool.not_eq_true'] at v2
    exact .inl ⟨ys, e, v2.1, v2.2⟩
  · rename_i kvs e
    simp only [Bool.and_eq_true, List.isEmpty_iff] at v2
    rw [v2.2] at e
    exact .inr ⟨e, v2.1⟩
  · cases v2
mutual
theorem btv_dat : ∀ d : D, btv N b s c h d = true → dat1 h (datsN h 4) d = some (pyH h d)
  | .tup xs, v => by
    have := btvs_dat xs (by simpa only [btv] using v)
    simp only [dat1, this, pyH]; rfl
  | .ref n, v => by
    rcases (ref_read v).2.2 with ⟨ys, e, _, hs⟩ | ⟨e, _⟩
    · simp only [dat1, e, datsN, sps_dat1 ys hs, pyH]; rfl
    · simp only [dat1, e, pyH]
  | .int i, v => rfl
  | .non, _ => rfl
  | .bl _, _ => rfl
  | .str _, _ => rfl
  | .fl _, v => nomatch v
theorem btvs_dat : ∀ ds : List D, btvs N b s c h ds = true → dats1 h (datsN h 4) ds = some (pyHs h ds)
  | [], _ => rfl
  | d :: ds, v => by
    simp only [btvs, Bool.and_eq_true] at v
    simp only [dats1, btv_dat d v.1, btvs_dat ds v.2, pyHs]
end
mutual
theorem btv_pure : ∀ d : D, btv N b s c h d = true → pure? d = true → pyH h d = py d
  | .tup xs, v, p => by
    simp only [pyH, py]
    rw [btvs_pure xs (by simpa only [btv] using v) (by simpa only [pure?] using p)]
  | .ref n, v, p => nomatch p
  | .int i, _, _ => rfl
  | .non, _, _ => rfl
  | .bl _, _, _ => rfl
  | .str _, _, _ => rfl
  | .fl _, v, _ => nomatch v
theorem btvs_pure : ∀ ds : List D, btvs N b s c h ds = true → pures ds = true → pyHs h ds = pys ds
  | [], _, _ => rfl
  | d :: ds, v, p => by
    simp only [btvs, Bool.and_eq_true] at v
    simp only [pures, Bool.and_eq_true] at p
    simp only [pyHs, pys, btv_pure d v.1 p.1, btvs_pure ds v.2 p.2]
end
theorem btv_read {d : D} (v : btv N b s c h d = true) : datR h (.v d) = some (pyH h d) := by
  simp only [datR, dat]
  split
  · rename_i p; rw [btv_pure d v p]
  · exact btv_dat d v
mutual
theorem btv_good (hN : N < 10 ^ 12) : ∀ d : D, btv N b s c h d = true → PyData.showable (pyH h d) = true ∧ PyData.leavesShort 13 (pyH h d) = true ∧ (PyData.hasDict (pyH h d) = true → b = true) ∧ (hasList (pyH h d) = true → b = false)
  | .tup xs, v => by
    have := btvs_good hN xs (by simpa only [btv] using v)
    simpa only [pyH, PyData.showable, PyData.leavesShort, PyData.hasDict, hasList] using this
  | .ref n, v => by
    rcases (ref_read v).2.2 with ⟨ys, e, hb, hs⟩ | ⟨e, hb⟩
    · have h1 := sps_show hN ys hs
      have h2 := PyData.hasDictAll_of_canLayAll _ (sps_good ys hs).2.1
      simp only [pyH, e, PyData.showable, PyData.leavesShort, PyData.hasDict, hasList, h1, h2, hb]
      simp
    · have hp : pyH h (.ref n) = .dict [] := by simp only [pyH, e]
      rw [hp, hb]
      simp [PyData.showable, PyData.showableKv, PyData.leavesShort, PyData.leavesShortKv, PyData.hasDict, hasList]
  | .int i, v => by
    simp only [btv, sp, decide_eq_true_eq] at v
    have := showable_int hN v
    exact ⟨this.1, this.2, fun q => (nomatch q), fun q => (nomatch q)⟩
  | .non, _ => ⟨rfl, rfl, fun q => (nomatch q), fun q => (nomatch q)⟩
  | .bl _, _ => ⟨rfl, rfl, fun q => (nomatch q), fun q => (nomatch q)⟩
  | .str _, v => by
    simp only [btv, sp, Bool.and_eq_true] at v
    exact ⟨rfl, v.1.2, fun q => (nomatch q), fun q => (nomatch q)⟩
  | .fl _, v => nomatch v
theorem btvs_good (hN : N < 10 ^ 12) : ∀ ds : List D, btvs N b s c h ds = true → PyData.showableAll (pyHs h ds) = true ∧ PyData.leavesShortAll 13 (pyHs h ds) = true ∧ (PyData.hasDictAll (pyHs h ds) = true → b = true) ∧ (hasLists (pyHs h ds) = true → b = false)
  | [], _ => ⟨rfl, rfl, fun q => (nomatch q), fun q => (nomatch q)⟩
  | d :: ds, v => by
    simp only [btvs, Bool.and_eq_true] at v
    have h1 := btv_good hN d v.1
    have h2 := btvs_good hN ds v.2
    simp only [pyHs, PyData.showableAll, PyData.leavesShortAll, PyData.hasDictAll, hasLists, h1.1, h1.2.1, h2.1, h2.2.1, Bool.and_self, true_and, Bool.or_eq_true]
    exact ⟨fun q => q.elim h1.2.2.1 h2.2.2.1, fun q => q.elim h1.2.2.2 h2.2.2.2⟩
end
mutual
theorem btv_grow (G : Grow s c h h') : ∀ d : D, btv N b s c h d = true → btv N b s c h' d = true ∧ pyH h' d = pyH h d
  | .tup xs, v => by
    have := btvs_grow G xs (by simpa only [btv] using v)
    simp only [btv, pyH, this]; simp
  | .ref n, v => by
    obtain ⟨n1, n2, h3⟩ := ref_read v
    have hk : ∀ x, look h n = some x → look h' n = some x := fun x e => G.keep n x e n1 n2
    rcases h3 with ⟨ys, e, hb, hs⟩ | ⟨e, hb⟩
    · simp only [btv, pyH, e, hk _ e, hb, hs]; simp [n1, n2]
    · simp only [btv, pyH, e, hk _ e, hb]; simp [n1, n2]
  | .int i, v => ⟨v, rfl⟩
  | .non, v => ⟨v, rfl⟩
  | .bl _, v => ⟨v, rfl⟩
  | .str _, v => ⟨v, rfl⟩
  | .fl _, v => nomatch v
theorem btvs_grow (G : Grow s c h h') : ∀ ds : List D, btvs N b s c h ds = true → btvs N b s c h' ds = true ∧ pyHs h' ds = pyHs h ds
  | [], _ => ⟨rfl, rfl⟩
  | d :: ds, v => by
    simp only [btvs, Bool.and_eq_true] at v
    have h1 := btv_grow G d v.1
    have h2 := btvs_grow G ds v.2
    simp only [btvs, pyHs, h1, h2]; simp
end
theorem bulk_mem {xs : List PyData} {x : PyData} (hx : x ∈ xs) : x.bulk + 1 ≤ PyData.bulkAll xs := by
  induction xs with
  | nil => cases hx
  | cons y ys ih =>
    simp only [PyData.bulkAll]
    rcases List.mem_cons.mp hx with rfl | hx
    · omega
    · have := ih hx; omega
mutual
theorem btv_vl : ∀ d : D, btv N b s c h d = true → (pyH h d).bulk ≤ 1000000 → vl h d = true
  | .tup xs, v, hk => by
    simp only [pyH, PyData.bulk] at hk
    have := btvs_vl xs (by simpa only [btv] using v) hk
    rw [vl, Bool.and_eq_true]
    exact ⟨decide_eq_true (by omega), this.2⟩
  | .ref n, v, _ => by
    rcases (ref_read v).2.2 with ⟨ys, e, _⟩ | ⟨e, _⟩ <;> simp only [vl, knownTy, e]
  | .int i, _, _ => rfl
  | .non, _, _ => rfl
  | .bl _, _, _ => rfl
  | .str _, _, _ => rfl
  | .fl _, v, _ => nomatch v
theorem btvs_vl : ∀ ds : List D, btvs N b s c h ds = true → PyData.bulkAll (pyHs h ds) ≤ 1000000 → ds.length ≤ PyData.bulkAll (pyHs h ds) ∧ vls h ds = true
  | [], _, _ => ⟨Nat.zero_le _, rfl⟩
  | d :: ds, v, hk => by
    simp only [btvs, Bool.and_eq_true] at v
    simp only [pyHs, PyData.bulkAll] at hk
    have h1 := btv_vl d v.1 (by omega)
    have h2 := btvs_vl ds v.2 (by omega)
    simp only [pyHs, PyData.bulkAll, List.length_cons, vls, h1, h2.2]
    exact ⟨by omega, rfl⟩
end
/-- repr -/
theorem btv_repr (hN : N < 10 ^ 12) {d : D} (v : btv N b s c h d = true) (hd : (pyH h d).depth ≤ 64) (hk : (pyH h d).bulk ≤ 1000000) : bltn .repr h [.v d] = some (.v (.str (pyH h d).shown), h) := by
  obtain ⟨h1, h2, h3, h4⟩ := btv_good hN d v
  have hz : (pyH h d).shown.length ≤ 16777216 := by
    have := PyData.shown_fits_bulk (by decide) (by decide) h2 (Nat.le_trans hk (by decide))
    rwa [sizeLine_eq] at this
  have hnd : ((pyH h d).hasDict && hasList (pyH h d)) = false := by
    cases q1 : (pyH h d).hasDict with
    | false => rfl
    | true =>
      cases q2 : hasList (pyH h d) with
      | false => rfl
      | true => have e1 := h3 q1; have e2 := h4 q2; rw [e1] at e2; cases e2
  simp only [bltn, biRepr, reprBi, btv_read v]
  rw [if_pos]
  simp only [h1, hnd, decide_eq_true hd, small, decide_eq_true hz]; rfl
end
end Co

set_option linter.all false
set_option maxRecDepth 100000
set_option autoImplicit false
/-! Core59: bent values: parts of the way. -/
namespace Co
open PySem

theorem cut_takeD {xs : List D} {k : Nat} : cutD xs none (some (k : Int)) = xs.take k := by
  unfold cutD
  rw [six0, sixN, List.drop_zero, Nat.sub_zero]
  by_cases h : k ≤ xs.length
  · rw [Nat.min_eq_left h]
  · rw [Nat.min_eq_right (by omega), List.take_of_length_le (Nat.le_refl _), List.take_of_length_le (by omega)]
theorem cut_dropD {xs : List D} {k : Nat} : cutD xs (some (k : Int)) none = xs.drop k := by
  unfold cutD
  rw [six0, sixN]
  by_cases h : k ≤ xs.length
  · rw [Nat.min_eq_left h, List.take_of_length_le (by simp)]
  · rw [Nat.min_eq_right (by omega), List.drop_of_length_le (Nat.le_refl _), List.drop_of_length_le (show xs.length ≤ k by omega)]; simp
theorem cut_sub {xs : List D} {lo hi : Option Int} : List.Sublist (cutD xs lo hi) xs := by
  unfold cutD
  exact (List.take_sublist _ _).trans (List.drop_sublist _ _)
theorem pys_app : ∀ xs ys : List D, pys (xs ++ ys) = pys xs ++ pys ys
  | [], ys => rfl
  | x :: xs, ys => by rw [List.cons_append, pys, pys, pys_app xs ys]; rfl
theorem pyHs_app {h : Hh} : ∀ xs ys : List D, pyHs h (xs ++ ys) = pyHs h xs ++ pyHs h ys
  | [], ys => rfl
  | x :: xs, ys => by rw [List.cons_append, pyHs, pyHs, pyHs_app xs ys]; rfl
theorem bulk_app : ∀ a b : List PyData, PyData.bulkAll (a ++ b) = PyData.bulkAll a + PyData.bulkAll b
  | [], b => by simp [PyData.bulkAll]
  | x :: a, b => by simp only [List.cons_append, PyData.bulkAll, bulk_app a b]; omega
theorem deep_app : ∀ a b : List PyData, PyData.depthAll (a ++ b) = max (PyData.depthAll a) (PyData.depthAll b)
  | [], b => by simp [PyData.depthAll]
  | x :: a, b => by simp only [List.cons_append, PyData.depthAll, deep_app a b]; omega
theorem pys_sub {xs ys : List D} (h : List.Sublist ys xs) : PyData.bulkAll (pys ys) ≤ PyData.bulkAll (pys xs) ∧ PyData.depthAll (pys ys) ≤ PyData.depthAll (pys xs) := by
  induction h with
  | slnil => exact ⟨Nat.le_refl _, Nat.le_refl _⟩
  | cons a _ ih => simp only [pys, PyData.bulkAll, PyData.depthAll]; omega
  | cons_cons a _ ih => simp only [pys, PyData.bulkAll, PyData.depthAll]; omega
theorem pys_rev : ∀ xs : List D, PyData.bulkAll (pys xs.reverse) = PyData.bulkAll (pys xs) ∧ PyData.depthAll (pys xs.reverse) = PyData.depthAll (pys xs)
  | [] => ⟨rfl, rfl⟩
  | x :: xs => by
    have ih := pys_rev xs
    rw [List.reverse_cons, pys_app, bulk_app, deep_app, ih.1, ih.2]
    simp only [pys, PyData.bulkAll, PyData.depthAll]
    omega
theorem sps_sub {N : Nat} {xs ys : List D} (h : List.Sublist ys xs) (v : sps N xs = true) : sps N ys = true :=
  sps_all.mpr fun x hx => sps_all.mp v x (h.subset hx)
theorem sps_app {N : Nat} {xs ys : List D} (v : sps N xs = true) (w : sps N ys = true) : sps N (xs ++ ys) = true :=
  sps_all.mpr fun x hx => (List.mem_append.mp hx).elim (sps_all.mp v x) (sps_all.mp w x)
theorem sps_rev {N : Nat} {xs : List D} (v : sps N xs = true) : sps N xs.reverse = true :=
  sps_all.mpr fun x hx => sps_all.mp v x (List.mem_reverse.mp hx)
theorem len_bulk : ∀ xs : List D, xs.length ≤ PyData.bulkAll (pys xs)
  | [] => Nat.le_refl _
  | x :: xs => by have := len_bulk xs; simp only [pys, PyData.bulkAll, List.length_cons]; omega

/-- a bent value: its bounds -/
def BOk (N s c : Nat) (h : Hh) (n B : Nat) (d : D) : Prop := ∃ b, btv N b s c h d = true ∧ (pyH h d).depth ≤ n ∧ (pyH h d).bulk ≤ B
section
variable {N s c n B : Nat} {h h' : Hh} {d : D}
theorem BOk.grow (x : BOk N s c h n B d) (G : Grow s c h h') : BOk N s c h' n B d := by
  obtain ⟨b, v, h1, h2⟩ := x
  have := btv_grow G d v
  exact ⟨b, this.1, by rw [this.2]; exact h1, by rw [this.2]; exact h2⟩
theorem BOk.of (v : sp N d = true) (h1 : (py d).depth ≤ n) (h2 : (py d).bulk ≤ B) : BOk N s c h n B d :=
  ⟨true, sp_btv d v, by rw [sp_pyH d v]; exact h1, by rw [sp_pyH d v]; exact h2⟩
theorem BOk.le {n' B' : Nat} (x : BOk N s c h n B d) (h1 : n ≤ n') (h2 : B ≤ B') : BOk N s c h n' B' d := by
  obtain ⟨b, v, h3, h4⟩ := x
  exact ⟨b, v, Nat.le_trans h3 h1, Nat.le_trans h4 h2⟩
/-- a list of simple values -/
theorem BOk.lst {m : Nat} {ys : List D} (e : look h m = some (.lst ys)) (n1 : m ≠ s) (n2 : m ≠ c) (v : sps N ys = true) (h1 : PyData.depthAll (pys ys) + 1 ≤ n) (h2 : PyData.bulkAll (pys ys) ≤ B) : BOk N s c h n B (.ref m) :=
  ⟨false, by simp only [btv, e, v]; simp [n1, n2], by simp only [pyH, e, PyData.depth]; exact h1, by simp only [pyH, e, PyData.bulk]; exact h2⟩
theorem BOk.dct {m : Nat} (e : look h m = some (.dct [])) (n1 : m ≠ s) (n2 : m ≠ c) (h1 : 1 ≤ n) : BOk N s c h n B (.ref m) :=
  ⟨true, by simp only [btv, e]; simp [n1, n2], by simp only [pyH, e, PyData.depth, PyData.depthKv]; exact h1, by simp [pyH, e, PyData.bulk, PyData.bulkKv]⟩
/-- put into a tuple -/
theorem BOk.mid {xs ys : List D} (x : BOk N s c h n B d) (v : sps N xs = true) (w : sps N ys = true) (h1 : PyData.depthAll (pys xs) ≤ n) (h2 : PyData.depthAll (pys ys) ≤ n) :
    BOk N s c h (n + 1) (PyData.bulkAll (pys xs) + (B + 1) + PyData.bulkAll (pys ys)) (.tup ((xs ++ [d]) ++ ys)) := by
  obtain ⟨b, u, h3, h4⟩ := x
  refine ⟨b, ?_, ?_, ?_⟩
  · simp only [btv]
    refine btvs_all.mpr fun z hz => ?_
    rcases List.mem_append.mp hz with hz | hz
    · rcases List.mem_append.mp hz with hz | hz
      · exact sp_btv z (sps_all.mp v z hz)
      · rw [List.mem_singleton.mp hz]; exact u
    · exact sp_btv z (sps_all.mp w z hz)
  · simp only [pyH, PyData.depth, pyHs_app, deep_app, sps_pyHs xs v, sps_pyHs ys w, pyHs, PyData.depthAll]
    omega
  · simp only [pyH, PyData.bulk, pyHs_app, bulk_app, sps_pyHs xs v, sps_pyHs ys w, pyHs, PyData.bulkAll]
    omega
end

/-! ### the odd values -/
def oddE : E := .lst [.non, (.int 0), (.int 1), (.int 2), (.bl true), (.neg (.int 1)), (.str "a"), (.str "filled"), (.str "test"), (.str "rows"), (.str "round"), (.tup []), (.tup [(.int 0)]), (.tup [(.int 0), (.int 0)]), (.lst []), .dnew, (.bin .pow (.int 10) (.int 6))]
def oddsP : List D := [.non, (.int 0), (.int 1), (.int 2), (.bl true), .int (-1), (.str "a"), (.str "filled"), (.str "test"), (.str "rows"), (.str "round"), (.tup []), (.tup [(.int 0)]), (.tup [(.int 0), (.int 0)])]
def oddsL (n : Nat) : List D := oddsP ++ [.ref n, .ref (n + 1), .int 1000000]
theorem odd_ev {cl : Call} {ρ : Rho} {h : Hh} : ev cl oddE ρ h = some (.f (oddsL h.length), h ++ [.lst [], .dct []]) := by
  simp [oddE, ev, evs, asD, adopt, binop, small, oddsL, oddsP]
theorem odds_ok {N s c : Nat} {h : Hh} (hN : 1000000 ≤ N) (hs : s < h.length) (hc : c < h.length) {g : Hh} : ∀ x ∈ oddsL h.length, BOk N s c ((h ++ [.lst [], .dct []]) ++ g) 3 50 x := by
  intro x hx
  unfold oddsL at hx
  rcases List.mem_append.mp hx with hx | hx
  · have h1 : ∀ x ∈ oddsP, sp 1000000 x = true ∧ (py x).depth ≤ 3 ∧ (py x).bulk ≤ 50 := by decide +kernel
    obtain ⟨a, b, c⟩ := h1 x hx
    exact .of (sp_mono hN x a) b c
  · simp only [List.mem_cons, List.not_mem_nil, or_false] at hx
    rcases hx with rfl | rfl | rfl
    · refine .lst (ys := []) ?_ (by omega) (by omega) rfl (by decide) (by decide)
      simp [look]
    · refine .dct ?_ (by omega) (by omega) (by decide)
      simp [look]
    · refine .of ?_ (by decide) (by decide)
      simp only [sp, decide_eq_true_eq]
      show (1000000 : Nat) ≤ N
      exact hN
end Co

set_option linter.all false
set_option maxRecDepth 100000
set_option autoImplicit false
/-! Core60: _law_bent. -/
namespace Co
open PySem

def thenB (oi : Nat) : List S := [(.asg (.nm 3) (.lst [(.call oi [(.var 0), (.var 2)])])), (.ite (.isi .tuple (.var 1)) [(.asg (.nm 3) (.bin .add (.var 3) (.lst [(.sl (.var 1) (some (.int 1)) none), (.sl (.var 1) none (some (.neg (.int 1)))), (.bin .add (.var 1) (.sl (.var 1) none (some (.int 1)))), (.bi .list [(.var 1)]), (.rev (.var 1)), (.bin .add (.var 1) (.tup [(.int 0)]))])))] []), (.ret (.call oi [(.var 0), (.var 3)]))]
def condB (ip : Nat) : E := .or (.not (.isi .tuple (.var 1))) (.or (.cmp .eq (.var 1) (.tup [])) (.cmp .eq (.call ip [(.var 0), (.int 5)]) (.int 0)))
def numE (oi : Nat) : E := (.bin .add (.bin .add (.sl (.var 1) none (some (.var 4))) (.tup [(.call oi [(.var 0), (.lst [(.bin .sub (.int 0) (.ix (.var 1) (.var 4))), (.bin .add (.ix (.var 1) (.var 4)) (.int 1)), (.bin .sub (.ix (.var 1) (.var 4)) (.int 1)), (.bin .add (.ix (.var 1) (.var 4)) (.int 2))])])])) (.sl (.var 1) (some (.bin .add (.var 4) (.int 1))) none))
def dropE : E := (.bin .add (.sl (.var 1) none (some (.var 4))) (.sl (.var 1) (some (.bin .add (.var 4) (.int 1))) none))
def recE (si : Nat) : E := (.bin .add (.bin .add (.sl (.var 1) none (some (.var 4))) (.tup [(.call si [(.var 0), (.ix (.var 1) (.var 4))])])) (.sl (.var 1) (some (.bin .add (.var 4) (.int 1))) none))
def bentBody (ip oi ni si : Nat) : List S := [(.asg (.nm 2) oddE), (.ite (condB ip) (thenB oi) []), (.par [4, 5] [(.call ip [(.var 0), (.bi .len [(.var 1)])]), (.call ip [(.var 0), (.int 6)])]),
  (.ite (.and (.cmp .lt (.var 5) (.int 3)) (.call ni [(.ix (.var 1) (.var 4))])) [(.ret (numE oi))] []),
  (.ite (.cmp .eq (.var 5) (.int 3)) [(.ret dropE)] []),
  (.ret (recE si))]

section
variable {fns : List Fn} {ip oi ni si k s c N n B : Nat} {h : Hh} {v : D} {xs : List D}
theorem seq_keep {h' : Hh} {m : Nat} {L : List D} (e : look h m = some (.lst L)) (n1 : m ≠ s) (n2 : m ≠ c) (G : Grow s c h h') : seqOf h' (.v (.ref m)) = some L := by
  have := G.keep _ _ e n1 n2
  simp only [seqOf, look, this]
theorem sp_eq_nil (v : sp N (.tup xs) = true) (hd : (py (.tup xs)).depth ≤ 64) : cmpop .eq h (.v (.tup xs)) (.v (.tup [])) = some xs.isEmpty := by
  have g := sp_good _ v
  have hp : pure? (.tup xs) = true := g.1
  have e1 : datR h (.v (.tup xs)) = some (.tuple (pys xs)) := by simp only [datR, dat, hp, if_true, py]
  have e2 : datR h (.v (.tup [])) = some (.tuple []) := rfl
  have e3 : PyData.eqv (.tuple (pys xs)) (.tuple []) = xs.isEmpty := by
    cases xs with
    | nil => rfl
    | cons x xs => rfl
  have hs : (SeqAt.shaped (.tuple (pys xs)) && SeqAt.shaped (.tuple [])) = true := by
    have h2 : PyData.canLay0 (.tuple (pys xs)) = true := g.2.1
    have h3 : (PyData.tuple (pys xs)).depth ≤ 64 := hd
    unfold SeqAt.shaped
    rw [h2, decide_eq_true h3]; rfl
  have : eqGen h (.v (.tup xs)) (.v (.tup [])) = some xs.isEmpty := by
    simp only [eqGen, e1, e2]
    rw [if_pos hs, e3]
  exact this
theorem is_tup_iff {d : D} (hsp : sp N d = true) : isD h d .tuple = true ↔ ∃ xs, d = .tup xs := is_tup
theorem sp_known {d : D} (v : sp N d = true) : knownTy h (.v d) = true := by
  cases d <;> first | rfl | exact nomatch v
theorem cond_ok {x2 x3 x4 x5 : Option D} (hP : fns[ip]? = some pickFn) (S1 : Src h s c) (hv : sp N v = true) (hd : (py v).depth ≤ 64) :
    EQ (callN fns (k + 1)) (condB ip) [some (.ref s), some v, x2, x3, x4, x5] h fun r h2 => ∃ b, r = .v (.bl b) ∧ (b = false → ∃ xs, v = .tup xs ∧ xs ≠ []) ∧ Grow s c h h2 ∧ Src h2 s c := by
  refine q_or (q_not (q_isi (q_var rfl ⟨sp_known hv, _, rfl, _, rfl, fun z1 => ?_, fun z1 => ⟨_, rfl, fun q => (nomatch q), .refl, S1⟩⟩)))
  have z1' : (!isD h v .tuple) = false := z1
  obtain ⟨xs, rfl⟩ := is_tup.mp (show isD h v .tuple = true by simpa using z1')
  refine q_or (q_cmp (q_var rfl (q_tup (q_esnil ⟨rfl, _, sp_eq_nil hv hd, _, rfl, fun z2 => ?_, fun z2 => ⟨_, rfl, fun q => (nomatch q), .refl, S1⟩⟩))))
  refine q_cmp (q_call (q_escons (q_var rfl (q_escons (q_int (q_esnil ((pick_ok hP S1 (by decide)).mono ?_)))))))
  rintro r h2 ⟨p, rfl, p0, p1, G2, S2⟩
  exact q_int ⟨_, int_eq, _, rfl, fun q => ⟨xs, rfl, fun e => by rw [e] at z2; exact nomatch z2⟩, G2, S2⟩
theorem tup_BOk {ys : List D} (hy : sps N ys = true) (h1 : PyData.depthAll (pys ys) + 1 ≤ n) (h2 : PyData.bulkAll (pys ys) ≤ B) : BOk (N + 2) s c h n B (.tup ys) :=
  .of (by simp only [sp]; exact sps_mono (by omega) ys hy) h1 h2
theorem then_ok {L : List D} {no : Nat} {x4 x5 : Option D} (hP : fns[ip]? = some pickFn) (hO : fns[oi]? = some (ofFn ip)) (S1 : Src h s c) (hv : sp N v = true) (hd : (py v).depth ≤ n) (hb : (py v).bulk ≤ 100000)
    (hL : look h no = some (.lst L)) (n1 : no ≠ s) (n2 : no ≠ c) (hL0 : L ≠ []) (hLl : L.length ≤ 100) (hLo : ∀ x ∈ L, BOk (N + 2) s c h 3 50 x) :
    SsQ (callN fns (k + 2)) (thenB oi) [some (.ref s), some v, some (.ref no), none, x4, x5] h fun o => ∃ d h', o = .rt d h' ∧ BOk (N + 2) s c h' (n + 3) (2 * (py v).bulk + 50) d ∧ Grow s c h h' ∧ Src h' s c := by
  refine q_cons (q_asg (q_lst (q_escons (q_call (q_escons (q_var rfl (q_escons (q_var rfl (q_esnil ((of_ok hP hO S1 (fun h' G => seq_keep hL n1 n2 G) hL0 (by omega)).mono ?_))))))))))
  rintro x h3 ⟨hx, G3, S3⟩
  have hx3 := ((hLo x hx).grow G3).le (n' := n + 3) (B' := 2 * (py v).bulk + 50) (by omega) (by omega)
  obtain ⟨hs3, hc3⟩ := S3.lt
  refine q_esnil ⟨rfl, _, rfl, ?_⟩
  show SsQ (callN fns (k + 2)) _ [some (.ref s), some v, some (.ref no), some (.ref h3.length), x4, x5] (h3 ++ [Cell.lst [x]]) _
  have hk4 : look (h3 ++ [Cell.lst [x]]) h3.length = some (.lst [x]) := last_look
  have G4 : Grow s c h3 (h3 ++ [Cell.lst [x]]) := .app
  have S4 : Src (h3 ++ [Cell.lst [x]]) s c := S3.app
  have hl4 : (h3 ++ [Cell.lst [x]]).length = h3.length + 1 := by simp
  generalize hh4 : h3 ++ [Cell.lst [x]] = h4 at hk4 G4 S4 hl4 ⊢
  -- the last draw
  have fin : ∀ (h6 : Hh) (m : Nat) (L7 : List D), Grow s c h4 h6 → Src h6 s c → look h6 m = some (.lst L7) → m ≠ s → m ≠ c → L7 ≠ [] → L7.length ≤ 100 → (∀ y ∈ L7, BOk (N + 2) s c h6 (n + 3) (2 * (py v).bulk + 50) y) →
      SsQ (callN fns (k + 2)) [(.ret (.call oi [(.var 0), (.var 3)]))] [some (.ref s), some v, some (.ref no), some (.ref m), x4, x5] h6 fun o => ∃ d h', o = .rt d h' ∧ BOk (N + 2) s c h' (n + 3) (2 * (py v).bulk + 50) d ∧ Grow s c h h' ∧ Src h' s c := fun h6 m L7 G6 S6 hk6 m1 m2 h70 h7l h7 => by
    refine q_cons (q_ret (q_call (q_escons (q_var rfl (q_escons (q_var rfl (q_esnil ((of_ok hP hO S6 (fun h' G => seq_keep hk6 m1 m2 G) h70 (by omega)).mono ?_))))))))
    rintro y h7' ⟨hy, G7, S7⟩
    exact ⟨_, _, rfl, (h7 y hy).grow G7, ((G3.trans G4).trans G6).trans G7, S7⟩
  refine q_cons (q_if (q_isi (q_var rfl ⟨sp_known hv, _, rfl, fun z => ?_, fun z => q_nil ?_⟩)))
  · obtain ⟨xs, rfl⟩ := is_tup.mp (show isD h4 v .tuple = true from z)
    have hxs : sps N xs = true := by simpa only [sp] using hv
    have hd' : PyData.depthAll (pys xs) + 1 ≤ n := hd
    have hb' : PyData.bulkAll (pys xs) ≤ 100000 := hb
    have hlx := len_bulk xs
    have hsub : ∀ lo hi, List.Sublist (cutD xs lo hi) xs := fun lo hi => cut_sub
    have e1 : slice h4 (.v (.tup xs)) (some 1) none = some (.v (.tup (cutD xs (some 1) none))) := rfl
    have e2 : slice h4 (.v (.tup xs)) none (some (-1)) = some (.v (.tup (cutD xs none (some (-1))))) := rfl
    have e3 : slice h4 (.v (.tup xs)) none (some 1) = some (.v (.tup (cutD xs none (some 1)))) := rfl
    have e4 : binop .add h4 (.v (.tup xs)) (.v (.tup (cutD xs none (some 1)))) = some (.v (.tup (xs ++ cutD xs none (some 1)))) := by
      simp only [binop]
      rw [if_pos]
      have := (hsub none (some 1)).length_le
      exact decide_eq_true (by omega)
    have e5 : bltn .list h4 [.v (.tup xs)] = some (.f xs, h4) := rfl
    have e6 : ∀ h5 : Hh, turned h5 (.v (.tup xs)) = some (.v (.tup xs.reverse)) := fun _ => rfl
    have e7 : ∀ h5 : Hh, binop .add h5 (.v (.tup xs)) (.v (.tup [.int 0])) = some (.v (.tup (xs ++ [.int 0]))) := fun h5 => by
      simp only [binop]
      rw [if_pos]
      exact decide_eq_true (by simp; omega)
    have hk5 : look (h4 ++ [Cell.lst xs]) h3.length = some (.lst [x]) := by
      unfold look at hk4 ⊢
      rw [List.getElem?_append_left (List.getElem?_eq_some_iff.mp hk4).1]; exact hk4
    have e8 : binop .add (h4 ++ [Cell.lst xs]) (.v (.ref h3.length)) (.f [.tup (cutD xs (some 1) none), .tup (cutD xs none (some (-1))), .tup (xs ++ cutD xs none (some 1)), .ref h4.length, .tup xs.reverse, .tup (xs ++ [.int 0])]) =
        some (.f [x, .tup (cutD xs (some 1) none), .tup (cutD xs none (some (-1))), .tup (xs ++ cutD xs none (some 1)), .ref h4.length, .tup xs.reverse, .tup (xs ++ [.int 0])]) := by
      simp only [binop, lstOf, hk5]; rfl
    refine q_cons <| q_asg <| q_bin <| q_var rfl <| q_lst <| q_escons <| q_sl <| q_var rfl <| q_osome <| q_int ⟨_, rfl, q_onone ⟨_, e1, ?_⟩⟩
    refine q_escons <| q_sl <| q_var rfl <| q_onone <| q_osome <| q_neg <| q_int ⟨_, rfl, _, rfl, _, e2, ?_⟩
    refine q_escons <| q_bin <| q_var rfl <| q_sl <| q_var rfl <| q_onone <| q_osome <| q_int ⟨_, rfl, _, e3, _, e4, ?_⟩
    refine q_escons <| q_bi <| q_rscons <| q_var rfl <| q_rsnil ⟨_, _, e5, ?_⟩
    refine q_escons <| q_rev <| q_var rfl ⟨_, e6 _, ?_⟩
    refine q_escons <| q_bin <| q_var rfl <| q_tup <| q_escons <| q_int <| q_esnil ⟨rfl, _, e7 _, q_esnil ⟨rfl, _, e8, _, rfl, q_nil ?_⟩⟩
    refine fin ((h4 ++ [Cell.lst xs]) ++ [Cell.lst _]) (h4 ++ [Cell.lst xs]).length _ (Grow.trans .app .app) S4.app.app last_look (by simp; omega) (by simp; omega) (by simp) (by simp) ?_
    have hb0 : (py (.tup xs)).bulk = PyData.bulkAll (pys xs) := rfl
    intro y hy
    simp only [List.mem_cons, List.not_mem_nil, or_false] at hy
    have gg : Grow s c h3 ((h4 ++ [Cell.lst xs]) ++ [Cell.lst [x, .tup (cutD xs (some 1) none), .tup (cutD xs none (some (-1))), .tup (xs ++ cutD xs none (some 1)), .ref h4.length, .tup xs.reverse, .tup (xs ++ [.int 0])]]) := G4.trans (Grow.trans .app .app)
    rcases hy with rfl | rfl | rfl | rfl | rfl | rfl | rfl
    · exact hx3.grow gg
    · have := pys_sub (hsub (some 1) none)
      exact tup_BOk (sps_sub (hsub _ _) hxs) (by omega) (by omega)
    · have := pys_sub (hsub none (some (-1)))
      exact tup_BOk (sps_sub (hsub _ _) hxs) (by omega) (by omega)
    · have := pys_sub (hsub none (some 1))
      exact tup_BOk (sps_app hxs (sps_sub (hsub _ _) hxs)) (by rw [pys_app, deep_app]; omega) (by rw [pys_app, bulk_app]; omega)
    · refine .lst (ys := xs) ?_ (by omega) (by omega) (sps_mono (by omega) xs hxs) (by omega) (by omega)
      simp [look]
    · have := pys_rev xs
      exact tup_BOk (sps_rev hxs) (by omega) (by omega)
    · refine tup_BOk (sps_app hxs rfl) ?_ ?_
      · rw [pys_app, deep_app]; simp only [pys, py, PyData.depthAll, PyData.depth]; omega
      · rw [pys_app, bulk_app]; simp only [pys, py, PyData.bulkAll, PyData.bulk]; omega
  · exact fin h4 h3.length [x] .refl S4 hk4 (by omega) (by omega) (by simp) (by simp) fun y hy => by
      rw [List.mem_singleton.mp hy]; exact hx3.grow G4
end
end Co

set_option linter.all false
set_option maxRecDepth 100000
set_option autoImplicit false
/-! Core61: _law_bent, whole. -/
namespace Co
open PySem

section
variable {fns : List Fn} {f ip oi ni si k s c N n B : Nat} {h : Hh} {v : D} {xs : List D}
theorem at_D {i : Nat} (hi : i < xs.length) : item h (.v (.tup xs)) (.v (.int (i : Int))) = some xs[i] := by
  show L2.atI xs _ = _
  unfold L2.atI L2.ixN
  rw [if_pos (by omega), if_pos (by omega)]
  simp only [Int.toNat_natCast, Option.bind_some, List.getElem?_eq_getElem hi]
theorem slice_take {i : Nat} : slice h (.v (.tup xs)) none (some (i : Int)) = some (.v (.tup (xs.take i))) := by
  show some (Res.v (.tup (cutD xs none (some (i : Int))))) = _
  rw [cut_takeD]
theorem slice_drop {i : Nat} : slice h (.v (.tup xs)) (some ((i : Int) + 1)) none = some (.v (.tup (xs.drop (i + 1)))) := by
  show some (Res.v (.tup (cutD xs (some ((i : Int) + 1)) none))) = _
  rw [show ((i : Int) + 1) = ((i + 1 : Nat) : Int) by omega, cut_dropD]
theorem add_tup {as bs : List D} (hl : as.length + bs.length ≤ 16777216) : binop .add h (.v (.tup as)) (.v (.tup bs)) = some (.v (.tup (as ++ bs))) := by
  simp only [binop]
  rw [if_pos (show small _ = true from decide_eq_true hl)]
/-- v[:k] + (what is made,) + v[k + 1:] -/
theorem mid_ok {cl : Call} {x0 x2 x3 x5 : Option D} {e : E} {i : Nat} {Q : Res → Hh → Prop} (hl : xs.length ≤ 100000) (hi : i < xs.length)
    (x : EQ cl e [x0, some (.tup xs), x2, x3, some (.int (i : Int)), x5] h fun r h1 => ∃ d, r = .v d ∧ Q (.v (.tup ((xs.take i ++ [d]) ++ xs.drop (i + 1)))) h1) :
    EQ cl (.bin .add (.bin .add (.sl (.var 1) none (some (.var 4))) (.tup [e])) (.sl (.var 1) (some (.bin .add (.var 4) (.int 1))) none)) [x0, some (.tup xs), x2, x3, some (.int (i : Int)), x5] h Q := by
  refine q_bin <| q_bin <| q_sl <| q_var rfl <| q_onone <| q_osome <| q_var rfl ⟨_, rfl, _, slice_take, ?_⟩
  refine q_tup <| q_escons <| x.mono ?_
  rintro r h1 ⟨d, rfl, q⟩
  refine q_esnil ⟨rfl, _, add_tup (by simp [adopt]; omega), ?_⟩
  exact q_sl <| q_var rfl <| q_osome <| q_bin <| q_var rfl <| q_int ⟨_, rfl, _, rfl, q_onone ⟨_, slice_drop, _, add_tup (by simp [adopt]; omega), q⟩⟩
theorem drop_ok {cl : Call} {x0 x2 x3 x5 : Option D} {i : Nat} {Q : Res → Hh → Prop} (hl : xs.length ≤ 100000) (q : Q (.v (.tup (xs.take i ++ xs.drop (i + 1)))) h) :
    EQ cl dropE [x0, some (.tup xs), x2, x3, some (.int (i : Int)), x5] h Q := by
  refine q_bin <| q_sl <| q_var rfl <| q_onone <| q_osome <| q_var rfl ⟨_, rfl, _, slice_take, ?_⟩
  exact q_sl <| q_var rfl <| q_osome <| q_bin <| q_var rfl <| q_int ⟨_, rfl, _, rfl, q_onone ⟨_, slice_drop, _, add_tup (by simp; omega), q⟩⟩
theorem split_at {i : Nat} (hi : i < xs.length) : xs = (xs.take i ++ [xs[i]]) ++ xs.drop (i + 1) := by
  rw [List.append_assoc, List.singleton_append, ← List.drop_eq_getElem_cons hi, List.take_append_drop]
theorem bent_ok {fn : Fn} (hP : fns[ip]? = some pickFn) (hO : fns[oi]? = some (ofFn ip)) (hNm : Number fns ni) (hf : fns[si]? = some fn) (hb : fn.body = bentBody ip oi ni si) (hN : fn.N.length = 6) (hnp : fn.np = 2) (hN1 : 1000000 ≤ N) :
    ∀ (n k : Nat) (h : Hh) (v : D), Src h s c → sp N v = true → (py v).depth ≤ n → n ≤ 60 → (py v).bulk ≤ 100000 →
      CQ (callN fns (k + n + 3)) si [.ref s, v] h fun d h' => BOk (N + 2) s c h' (n + 3) (2 * (py v).bulk + 50) d ∧ Grow s c h h' ∧ Src h' s c := by
  intro n
  induction n with
  | zero =>
    intro k h v S hv hd hn hk
    refine q_fn hf hnp.symm ?_
    rw [hb, hN]
    show SsQ (callN fns (k + 2)) (bentBody ip oi ni si) [some (.ref s), some v, none, none, none, none] h _
    obtain ⟨hs, hc⟩ := S.lt
    refine q_cons <| q_asg ⟨_, _, odd_ev, _, rfl, ?_⟩
    have G1 : Grow s c h ((h ++ [Cell.lst [], Cell.dct []]) ++ [Cell.lst (oddsL h.length)]) := Grow.trans .app .app
    have S1 := (S.app (g := [Cell.lst [], Cell.dct []])).app (g := [Cell.lst (oddsL h.length)])
    have ho := odds_ok (N := N + 2) (s := s) (c := c) (h := h) (by omega) hs hc (g := [Cell.lst (oddsL h.length)])
    have hL : look ((h ++ [Cell.lst [], Cell.dct []]) ++ [Cell.lst (oddsL h.length)]) (h ++ [Cell.lst [], Cell.dct []]).length = some (.lst (oddsL h.length)) := last_look
    have hno : h.length < (h ++ [Cell.lst [], Cell.dct []]).length := by simp
    show SsQ (callN fns (k + 2)) _ [some (.ref s), some v, some (.ref (h ++ [Cell.lst [], Cell.dct []]).length), none, none, none] ((h ++ [Cell.lst [], Cell.dct []]) ++ [Cell.lst (oddsL h.length)]) _
    generalize (h ++ [Cell.lst [], Cell.dct []]).length = no at hL hno ⊢
    generalize (h ++ [Cell.lst [], Cell.dct []]) ++ [Cell.lst (oddsL h.length)] = h1 at G1 S1 ho hL ⊢
    refine q_cons <| q_if <| (cond_ok hP S1 hv (by omega)).mono ?_
    rintro r h2 ⟨b, rfl, hb0, G2, S2⟩
    refine ⟨b, rfl, fun _ => ?_, fun z => ?_⟩
    · refine (then_ok (n := 0) hP hO S2 hv hd hk (G2.keep _ _ hL (by omega) (by omega)) (by omega) (by omega) (by simp [oddsL]) (by simp [oddsL, oddsP]) fun x hx => (ho x hx).grow G2).mono ?_
      rintro o ⟨d, h', rfl, hB, G3, S3⟩
      exact ⟨hB, (G1.trans G2).trans G3, S3⟩
    · obtain ⟨xs, rfl, hne⟩ := hb0 z
      exfalso
      have : (py (.tup xs)).depth = PyData.depthAll (pys xs) + 1 := rfl
      omega
  | succ n ih =>
    intro k h v S hv hd hn hk
    refine q_fn hf hnp.symm ?_
    rw [hb, hN]
    show SsQ (callN fns (k + n + 3)) (bentBody ip oi ni si) [some (.ref s), some v, none, none, none, none] h _
    obtain ⟨hs, hc⟩ := S.lt
    refine q_cons <| q_asg ⟨_, _, odd_ev, _, rfl, ?_⟩
    have G1 : Grow s c h ((h ++ [Cell.lst [], Cell.dct []]) ++ [Cell.lst (oddsL h.length)]) := Grow.trans .app .app
    have S1 := (S.app (g := [Cell.lst [], Cell.dct []])).app (g := [Cell.lst (oddsL h.length)])
    have ho := odds_ok (N := N + 2) (s := s) (c := c) (h := h) (by omega) hs hc (g := [Cell.lst (oddsL h.length)])
    have hL : look ((h ++ [Cell.lst [], Cell.dct []]) ++ [Cell.lst (oddsL h.length)]) (h ++ [Cell.lst [], Cell.dct []]).length = some (.lst (oddsL h.length)) := last_look
    have hno : h.length < (h ++ [Cell.lst [], Cell.dct []]).length := by simp
    show SsQ (callN fns (k + n + 3)) _ [some (.ref s), some v, some (.ref (h ++ [Cell.lst [], Cell.dct []]).length), none, none, none] ((h ++ [Cell.lst [], Cell.dct []]) ++ [Cell.lst (oddsL h.length)]) _
    generalize (h ++ [Cell.lst [], Cell.dct []]).length = no at hL hno ⊢
    generalize (h ++ [Cell.lst [], Cell.dct []]) ++ [Cell.lst (oddsL h.length)] = h1 at G1 S1 ho hL ⊢
    refine q_cons <| q_if <| (cond_ok (k := k + n + 2) hP S1 hv (by omega)).mono ?_
    rintro r h2 ⟨b, rfl, hb0, G2, S2⟩
    refine ⟨b, rfl, fun _ => ?_, fun z => q_nil ?_⟩
    · refine (then_ok (k := k + n + 1) (n := n + 1) hP hO S2 hv hd hk (G2.keep _ _ hL (by omega) (by omega)) (by omega) (by omega) (by simp [oddsL]) (by simp [oddsL, oddsP]) fun x hx => (ho x hx).grow G2).mono ?_
      rintro o ⟨d, h', rfl, hB, G3, S3⟩
      exact ⟨hB, (G1.trans G2).trans G3, S3⟩
    obtain ⟨xs, rfl, hne⟩ := hb0 z
    have hxs : sps N xs = true := by simpa only [sp] using hv
    have hd' : PyData.depthAll (pys xs) + 1 ≤ n + 1 := hd
    have hk' : PyData.bulkAll (pys xs) ≤ 100000 := hk
    have hb0 : (py (.tup xs)).bulk = PyData.bulkAll (pys xs) := rfl
    have hlx := len_bulk xs
    have hpos : 0 < xs.length := List.length_pos_iff.mpr hne
    have G := G1.trans G2
    -- the place and the way
    have hlen : ∀ hh : Hh, bltn .len hh [.v (.tup xs)] = some (.v (.int (xs.length : Nat)), hh) := fun _ => rfl
    refine q_cons <| q_par <| q_escons <| q_call <| q_escons <| q_var rfl <| q_escons <| q_bi <| q_rscons <| q_var rfl <| q_rsnil ⟨_, _, hlen _, q_esnil ((pick_ok (k := k + n + 2) hP S2 (by omega)).mono ?_)⟩
    rintro r h3 ⟨p, rfl, p0, p1, G3, S3⟩
    refine q_escons <| q_call <| q_escons <| q_var rfl <| q_escons <| q_int <| q_esnil ((pick_ok (k := k + n + 2) hP S3 (by decide)).mono ?_)
    rintro r h4 ⟨w, rfl, w0, w1, G4, S4⟩
    obtain ⟨i, hi⟩ : ∃ i : Nat, p = (i : Int) := ⟨p.toNat, by omega⟩
    subst hi
    have hil : i < xs.length := by omega
    refine q_esnil ⟨_, rfl, ?_⟩
    show SsQ (callN fns (k + n + 3)) _ [some (.ref s), some (.tup xs), some (.ref no), none, some (.int (i : Int)), some (.int w)] h4 _
    have GG := (G.trans G3).trans G4
    have hvi : sp N xs[i] = true := sps_all.mp hxs _ (List.getElem_mem hil)
    have htk : List.Sublist (xs.take i) xs := List.take_sublist _ _
    have hdr : List.Sublist (xs.drop (i + 1)) xs := List.drop_sublist _ _
    have hsp := congrArg (fun l => PyData.bulkAll (pys l)) (split_at hil)
    simp only [pys_app, bulk_app, pys, PyData.bulkAll] at hsp
    have htk2 := pys_sub htk
    have hdr2 := pys_sub hdr
    have hdi : (py xs[i]).depth ≤ n := by
      have := congrArg (fun l => PyData.depthAll (pys l)) (split_at hil)
      simp only [pys_app, deep_app, pys, PyData.depthAll] at this
      omega
    -- the rest of the way
    have last : SsQ (callN fns (k + n + 3)) [(.ite (.cmp .eq (.var 5) (.int 3)) [(.ret dropE)] []), (.ret (recE si))] [some (.ref s), some (.tup xs), some (.ref no), none, some (.int (i : Int)), some (.int w)] h4 fun o => match o with
        | .nx _ h' => BOk (N + 2) s c h' (n + 1 + 3) (2 * (py (.tup xs)).bulk + 50) .non ∧ Grow s c h h' ∧ Src h' s c
        | .rt d h' => BOk (N + 2) s c h' (n + 1 + 3) (2 * (py (.tup xs)).bulk + 50) d ∧ Grow s c h h' ∧ Src h' s c
        | _ => False := by
      refine q_cons <| q_if <| q_cmp <| q_var rfl <| q_int ⟨_, int_eq, _, rfl, fun _ => ?_, fun _ => q_nil ?_⟩
      · refine q_cons <| q_ret <| drop_ok (by omega) ⟨?_, GG, S4⟩
        refine tup_BOk (sps_app (sps_sub htk hxs) (sps_sub hdr hxs)) ?_ ?_
        · rw [pys_app, deep_app]; omega
        · rw [pys_app, bulk_app]; omega
      · refine q_cons <| q_ret <| mid_ok (by omega) hil ?_
        refine q_call <| q_escons <| q_var rfl <| q_escons <| q_ix <| q_var rfl <| q_var rfl ⟨_, at_D hil, q_esnil ((ih k h4 xs[i] S4 hvi hdi (by omega) (by omega)).mono ?_)⟩
        rintro d h5 ⟨hB, G5, S5⟩
        refine ⟨d, rfl, ?_, GG.trans G5, S5⟩
        refine (hB.mid (sps_mono (by omega) _ (sps_sub htk hxs)) (sps_mono (by omega) _ (sps_sub hdr hxs)) (by omega) (by omega)).le (by omega) (by omega)
    refine q_cons <| q_if <| q_and <| q_cmp <| q_var rfl <| q_int ⟨_, int_lt, _, rfl, fun _ => ?_, fun _ => ⟨_, rfl, fun q => (nomatch q), fun _ => q_nil last⟩⟩
    refine q_call <| q_escons <| q_ix <| q_var rfl <| q_var rfl ⟨_, at_D hil, q_esnil ((hNm (k + n + 2) h4 xs[i] (sp_known hvi)).mono ?_)⟩
    rintro r h5 ⟨rfl, rfl⟩
    refine ⟨_, rfl, fun z5 => ?_, fun _ => q_nil last⟩
    obtain ⟨j, hj⟩ := num_is z5
    have hat : ∀ hh : Hh, item hh (.v (.tup xs)) (.v (.int (i : Int))) = some (.int j) := fun hh => by rw [at_D hil, hj]
    have hjN : j.natAbs ≤ N := by rw [hj] at hvi; simpa only [sp, decide_eq_true_eq] using hvi
    refine q_cons <| q_ret <| mid_ok (by omega) hil ?_
    have hb1 : ∀ hh : Hh, binop .sub hh (.v (.int 0)) (.v (.int j)) = some (.v (.int (0 - j))) := fun _ => rfl
    have hb2 : ∀ hh : Hh, binop .add hh (.v (.int j)) (.v (.int 1)) = some (.v (.int (j + 1))) := fun _ => rfl
    have hb3 : ∀ hh : Hh, binop .sub hh (.v (.int j)) (.v (.int 1)) = some (.v (.int (j - 1))) := fun _ => rfl
    have hb4 : ∀ hh : Hh, binop .add hh (.v (.int j)) (.v (.int 2)) = some (.v (.int (j + 2))) := fun _ => rfl
    refine q_call <| q_escons <| q_var rfl <| q_escons <| q_lst <| q_escons <| q_bin <| q_int <| q_ix <| q_var rfl <| q_var rfl ⟨_, hat _, _, hb1 _, ?_⟩
    refine q_escons <| q_bin <| q_ix <| q_var rfl <| q_var rfl ⟨_, hat _, q_int ⟨_, hb2 _, ?_⟩⟩
    refine q_escons <| q_bin <| q_ix <| q_var rfl <| q_var rfl ⟨_, hat _, q_int ⟨_, hb3 _, ?_⟩⟩
    refine q_escons <| q_bin <| q_ix <| q_var rfl <| q_var rfl ⟨_, hat _, q_int ⟨_, hb4 _, q_esnil ⟨rfl, q_esnil ?_⟩⟩⟩
    obtain ⟨hs5, hc5⟩ := S4.lt
    refine (of_ok (k := k + n + 1) (ds := [.int (0 - j), .int (j + 1), .int (j - 1), .int (j + 2)]) hP hO (S4.app (g := [Cell.lst [.int (0 - j), .int (j + 1), .int (j - 1), .int (j + 2)]])) (fun h' G => seq_keep last_look (by omega) (by omega) G) (by simp) (by simp)).mono ?_
    rintro d h6 ⟨hd6, G6, S6⟩
    refine ⟨d, rfl, ?_, (GG.trans .app).trans G6, S6⟩
    have hd7 : ∃ q : Int, d = .int q ∧ q.natAbs ≤ N + 2 := by
      simp only [List.mem_cons, List.not_mem_nil, or_false] at hd6
      rcases hd6 with rfl | rfl | rfl | rfl
      · exact ⟨_, rfl, by omega⟩
      · exact ⟨_, rfl, by omega⟩
      · exact ⟨_, rfl, by omega⟩
      · exact ⟨_, rfl, by omega⟩
    obtain ⟨q, rfl, hq⟩ := hd7
    have hB : BOk (N + 2) s c h6 (n + 3) 0 (.int q) := .of (decide_eq_true hq) (Nat.zero_le _) (Nat.zero_le _)
    exact (hB.mid (sps_mono (by omega) _ (sps_sub htk hxs)) (sps_mono (by omega) _ (sps_sub hdr hxs)) (by omega) (by omega)).le (by omega) (by omega)
end
end Co

set_option linter.all false
set_option maxRecDepth 100000
set_option autoImplicit false
/-! Core62: what the laws of chains need: shown values, families, bounds. -/
namespace Co
open PySem

theorem f_repr {N : Nat} {h : Hh} (hN : N < 10 ^ 12) {ds : List D} (v : sps N ds = true) (hd : PyData.depthAll (pys ds) ≤ 63) (hk : PyData.bulkAll (pys ds) ≤ 1000000) : bltn .repr h [.f ds] = some (.v (.str (PyData.list (pys ds)).shown), h) := by
  obtain ⟨g1, g2, g3⟩ := sps_good ds v
  obtain ⟨h1, h2⟩ := sps_show hN ds v
  have hz : (PyData.list (pys ds)).shown.length ≤ 16777216 := by
    have := PyData.shown_fits_bulk (B := 13) (d := .list (pys ds)) (by decide) (by decide) (by simpa only [PyData.leavesShort] using h2) (by simp only [PyData.bulk]; exact Nat.le_trans hk (by decide))
    rwa [sizeLine_eq] at this
  have hr : datR h (.f ds) = some (.list (pys ds)) := by simp only [datR, dats, g1, if_true]; rfl
  have hnd : (PyData.list (pys ds)).hasDict = false := by
    simp only [PyData.hasDict]; exact PyData.hasDictAll_of_canLayAll _ g2
  have hsh : (PyData.list (pys ds)).showable = true := by simpa only [PyData.showable] using h1
  have hdp : (PyData.list (pys ds)).depth ≤ 64 := by simp only [PyData.depth]; omega
  simp only [bltn, biRepr, reprBi, hr]
  rw [if_pos]
  simp only [hsh, hnd, decide_eq_true hdp, small, decide_eq_true hz]; rfl
theorem v_repr {N : Nat} {h : Hh} (hN : N < 10 ^ 12) {d : D} (v : sp N d = true) (hd : (py d).depth ≤ 64) (hk : (py d).bulk ≤ 1000000) : bltn .repr h [.v d] = some (.v (.str (py d).shown), h) := by
  have := btv_repr (b := true) (s := 0) (c := 0) (h := h) hN (sp_btv d v) (by rw [sp_pyH d v]; exact hd) (by rw [sp_pyH d v]; exact hk)
  rwa [sp_pyH d v] at this
theorem bl_repr {h : Hh} {b : Bool} : bltn .repr h [.v (.bl b)] = some (.v (.str (py (.bl b)).shown), h) := v_repr (N := 0) (by decide) rfl (by simp [py, PyData.depth]) (by simp [py, PyData.bulk])
theorem str_ne {h : Hh} {x : Str} (hx : PyData.canLay0 (.str x) = true) : cmpop .ne h (.v (.str x)) (.v (.str x)) = some false := by
  have e1 : datR h (.v (.str x)) = some (.str x) := rfl
  have hs : (SeqAt.shaped (.str x) && SeqAt.shaped (.str x)) = true := by
    unfold SeqAt.shaped
    rw [hx]; rfl
  have : eqGen h (.v (.str x)) (.v (.str x)) = some true := by
    simp only [eqGen, e1]
    rw [if_pos hs, PySem.SeqAt.eqv_refl _ hx]
  show (eqGen h (.v (.str x)) (.v (.str x))).map (!·) = _
  rw [this]; rfl
/-! ### chains as values -/
structure ChG (N c : Nat) (A : Num) : Prop where
  len : A.length ≤ c
  lot : ∀ p ∈ A, p.1.length ≤ 7 ∧ ∀ x ∈ p.1, 0 ≤ x ∧ x < 7
  num : ∀ p ∈ A, p.2.natAbs ≤ N
theorem lot_sp {N : Nat} (hN : 7 ≤ N) {l : Lot} (h : ∀ x ∈ l, 0 ≤ x ∧ x < 7) : sp N (lotD l) = true := by
  simp only [lotD, sp]
  refine sps_all.mpr fun d hd => ?_
  obtain ⟨x, hx, rfl⟩ := List.mem_map.mp hd
  have := h x hx
  simp only [sp, decide_eq_true_eq]
  omega
theorem bulk_lot (l : Lot) : (py (lotD l)).bulk = l.length := by
  have : ∀ l : Lot, PyData.bulkAll (pys (l.map D.int)) = l.length := by
    intro l
    induction l with
    | nil => rfl
    | cons x l ih => simp only [List.map_cons, pys, PyData.bulkAll, ih, py, PyData.bulk, List.length_cons]; omega
  exact this l
theorem bulk_pair (p : Lot × Int) : (py (pairD p)).bulk = p.1.length + 2 := by
  simp only [pairD, py, pys, PyData.bulk, PyData.bulkAll]
  have := bulk_lot p.1
  omega
section
variable {N c : Nat} {A : Num}
theorem ChG.sps (g : ChG N c A) (hN : 7 ≤ N) : sps N (A.map pairD) = true := by
  refine sps_all.mpr fun d hd => ?_
  obtain ⟨p, hp, rfl⟩ := List.mem_map.mp hd
  have h1 := lot_sp hN (g.lot p hp).2
  have h2 := g.num p hp
  simp only [pairD, sp, Co.sps, h1, decide_eq_true h2, Bool.and_self]
theorem ChG.sp (g : ChG N c A) (hN : 7 ≤ N) : sp N (chD A) = true := by
  simp only [chD, Co.sp]
  exact g.sps hN
theorem ChG.bulks (g : ChG N c A) : PyData.bulkAll (pys (A.map pairD)) ≤ 10 * c := by
  have : ∀ B : Num, (∀ p ∈ B, p.1.length ≤ 7) → PyData.bulkAll (pys (B.map pairD)) ≤ 10 * B.length := by
    intro B hB
    induction B with
    | nil => exact Nat.le_refl _
    | cons p B ih =>
      have h1 := ih fun q hq => hB q (List.mem_cons_of_mem _ hq)
      have h2 := hB p List.mem_cons_self
      simp only [List.map_cons, pys, PyData.bulkAll, bulk_pair, List.length_cons]
      omega
  have h1 := this A fun p hp => (g.lot p hp).1
  have h2 := g.len
  omega
theorem ChG.bulk (g : ChG N c A) : (py (chD A)).bulk ≤ 10 * c := g.bulks
theorem deps_pairs (A : Num) : PyData.depthAll (pys (A.map pairD)) ≤ 3 := by
  refine depth_all 3 _ fun d hd => ?_
  obtain ⟨p, _, rfl⟩ := List.mem_map.mp hd
  exact depth_pair p
theorem ChG.repr (g : ChG N c A) (hN : 7 ≤ N) (hN2 : N < 10 ^ 12) (hc : c ≤ 100000) {h : Hh} : bltn .repr h [.v (chD A)] = some (.v (.str (py (chD A)).shown), h) :=
  v_repr hN2 (g.sp hN) (Nat.le_trans (depth_ch A) (by decide)) (Nat.le_trans g.bulk (by omega))
theorem ChG.mono {N' c' : Nat} (g : ChG N c A) (h1 : N ≤ N') (h2 : c ≤ c') : ChG N' c' A := ⟨Nat.le_trans g.len h2, g.lot, fun p hp => Nat.le_trans (g.num p hp) h1⟩
end
/-! ### bounds -/
theorem lin_abs {A : Num} {f : Lot → Int} {K : Nat} (h : ∀ p ∈ A, (p.2 * f p.1).natAbs ≤ K) : (lin A f).natAbs ≤ A.length * K := by
  induction A with
  | nil => simp [lin]
  | cons p A ih =>
    have h1 := ih fun q hq => h q (List.mem_cons_of_mem _ hq)
    have h2 := h p List.mem_cons_self
    rw [lin_cons, List.length_cons, Nat.add_mul, Nat.one_mul]
    generalize A.length * K = z at *
    generalize p.2 * f p.1 = y at *
    omega
theorem dl_bound (l m : Lot) : -1 ≤ dl l m ∧ dl l m ≤ 1 := by
  unfold dl; split <;> omega
theorem bord_keys (A : Num) : ∀ p ∈ bordA A, ∃ q ∈ A, ∃ k, p.1 = q.1.eraseIdx k := by
  have sides : ∀ (x : Int) (l : Lot) (ks : List Nat) (acc : Num), ∀ p ∈ ks.foldl (sideStep x l) acc, p ∈ acc ∨ (∃ q ∈ acc, p.1 = q.1) ∨ ∃ k, p.1 = l.eraseIdx k := by
    intro x l ks
    induction ks with
    | nil => intro acc p hp; exact .inl hp
    | cons k ks ih =>
      intro acc p hp
      rcases ih (sideStep x l acc k) p hp with h | ⟨q, hq, e⟩ | h
      · rcases aput_in h with h | h
        · exact .inl h
        · exact .inr (.inr ⟨k, by rw [h]⟩)
      · rcases aput_in hq with h | h
        · exact .inr (.inl ⟨q, h, e⟩)
        · exact .inr (.inr ⟨k, by rw [e, h]⟩)
      · exact .inr (.inr h)
  have all : ∀ (B acc : Num), ∀ p ∈ B.foldl lotStep acc, (∃ q ∈ acc, p.1 = q.1) ∨ ∃ q ∈ B, ∃ k, p.1 = q.1.eraseIdx k := by
    intro B
    induction B with
    | nil => intro acc p hp; exact .inl ⟨p, hp, rfl⟩
    | cons b B ih =>
      intro acc p hp
      rcases ih (lotStep acc b) p hp with ⟨q, hq, e⟩ | ⟨q, hq, k, e⟩
      · rcases sides _ _ _ _ q hq with h | ⟨r, hr, e2⟩ | ⟨k, e2⟩
        · exact .inl ⟨q, h, e⟩
        · exact .inl ⟨r, hr, e.trans e2⟩
        · exact .inr ⟨b, List.mem_cons_self, k, e.trans e2⟩
      · exact .inr ⟨q, List.mem_cons_of_mem _ hq, k, e⟩
  intro p hp
  rcases all A [] p hp with ⟨q, hq, _⟩ | h
  · cases hq
  · exact h
theorem mem_key {A : Num} {l : Lot} (h : l ∈ A.map (·.1)) : ∃ p ∈ A, p.1 = l := by
  obtain ⟨p, hp, e⟩ := List.mem_map.mp h
  exact ⟨p, hp, e⟩
/-- the border of a chain as a value -/
theorem bord_good {N c M : Nat} {A : Num} (g : ChG N c A) (hM : c * (N * 7) ≤ M) : ChG M (7 * c) (told (bordA A)) := by
  have hl := lots_len 7 A [] fun p hp => (g.lot p hp).1
  refine ⟨?_, fun p hp => ?_, fun p hp => ?_⟩
  · refine Nat.le_trans (told_len _) ?_
    have h1 := g.len
    simp only [List.length_nil] at hl
    unfold bordA
    have : A.length * 7 ≤ c * 7 := Nat.mul_le_mul_right _ h1
    omega
  · obtain ⟨h1, _, _⟩ := mem_told hp
    obtain ⟨q, hq, e⟩ := mem_key h1
    obtain ⟨r, hr, k, e2⟩ := bord_keys A q hq
    rw [← e, e2]
    have h3 := g.lot r hr
    refine ⟨Nat.le_trans (List.eraseIdx_sublist _ _).length_le h3.1, fun x hx => h3.2 x ((List.eraseIdx_sublist _ _).subset hx)⟩
  · obtain ⟨_, h2, _⟩ := mem_told hp
    rw [h2, val_bord]
    refine Nat.le_trans (lin_abs (K := N * 7) fun q hq => ?_) ?_
    · have h3 := dd_bound (f := dl p.1) (c := 1) (fun l => dl_bound p.1 l) q.1
      have h4 := (g.lot q hq).1
      have h5 := g.num q hq
      rw [Int.natAbs_mul]
      refine Nat.mul_le_mul h5 ?_
      omega
    · exact Nat.le_trans (Nat.mul_le_mul_right _ g.len) hM
/-! ### families -/
structure GoodF (m : Int) (F : List Lot) : Prop where
  m0 : 0 ≤ m
  m7 : m ≤ 7
  nd : F.Nodup
  sub : ∀ l ∈ F, List.Sublist l seven
  cls : ∀ l ∈ F, ∀ k, k < l.length → l.eraseIdx k ∈ F
  len : F.length ≤ 128
  ne : F ≠ []
theorem nodup_len {α : Type} [DecidableEq α] : ∀ {a b : List α}, a.Nodup → (∀ x ∈ a, x ∈ b) → a.length ≤ b.length
  | [], b, _, _ => Nat.zero_le _
  | x :: a, b, hn, hs => by
    have hn' := List.nodup_cons.mp hn
    have hx := hs x List.mem_cons_self
    have := nodup_len (b := b.erase x) hn'.2 fun y hy => by
      refine (List.mem_erase_of_ne ?_).mpr (hs y (List.mem_cons_of_mem _ hy))
      intro e
      exact hn'.1 (e ▸ hy)
    rw [List.length_erase_of_mem hx] at this
    have hp : 0 < b.length := List.length_pos_of_mem hx
    simp only [List.length_cons]
    omega
theorem seven_in {l : Lot} (h : List.Sublist l seven) : l.length ≤ 7 ∧ ∀ x ∈ l, 0 ≤ x ∧ x < 7 := by
  refine ⟨h.length_le, fun x hx => ?_⟩
  have : x ∈ seven := h.subset hx
  simp only [seven, List.mem_cons, List.not_mem_nil, or_false] at this
  omega
theorem fam_good {m : Nat} {L : List Lot} (hm : m ≤ 7) (hs : ∀ l ∈ L, List.Sublist l seven) : GoodF m (if madeA L ≠ [] then madeA L else [[]]) := by
  have hlen : (madeA L).length ≤ 128 := by
    have : (partsA seven).length = 128 := by unfold partsA; rw [parts_len]; rfl
    rw [← this]
    refine nodup_len (made_nodup L) fun x hx => ?_
    obtain ⟨l, hl, hx⟩ := mem_made.mp hx
    exact mem_parts.mpr (hx.trans (hs l hl))
  split
  · rename_i hne
    refine ⟨by omega, by omega, made_nodup L, fun l hl => ?_, fun l hl k hk => ?_, hlen, hne⟩
    · obtain ⟨q, hq, hx⟩ := mem_made.mp hl
      exact hx.trans (hs q hq)
    · obtain ⟨q, hq, hx⟩ := mem_made.mp hl
      exact mem_made.mpr ⟨q, hq, (List.eraseIdx_sublist _ _).trans hx⟩
  · refine ⟨by omega, by omega, by simp, fun l hl => ?_, fun l hl k hk => ?_, by decide, by simp⟩
    · rw [List.mem_singleton.mp hl]; exact List.nil_sublist _
    · rw [List.mem_singleton.mp hl] at hk; exact absurd hk (by simp)
/-- a drawn chain as a value -/
theorem drawn_good {F : List Lot} {m z : Int} {far : Nat} {A : Num} (g : GoodF m F) (C : ChIn (sizedA F z) far A) : ChG far 128 (told A) ∧ Nd (told A) ∧ ∀ p ∈ told A, p.1 ∈ sizedA F z := by
  have hmem : ∀ p ∈ told A, p.1 ∈ sizedA F z := fun p hp => by
    obtain ⟨h1, _, _⟩ := mem_told hp
    obtain ⟨q, hq, e⟩ := mem_key h1
    rw [← e]; exact C.mem q hq
  refine ⟨⟨?_, fun p hp => ?_, fun p hp => ?_⟩, told_nd C.nd, hmem⟩
  · have h1 : ((told A).map (·.1)).length ≤ F.length := nodup_len (told_nd C.nd) fun x hx => by
      obtain ⟨p, hp, e⟩ := mem_key hx
      rw [← e]; exact (mem_sized.mp (hmem p hp)).1
    rw [List.length_map] at h1
    exact Nat.le_trans h1 g.len
  · exact seven_in (g.sub _ (mem_sized.mp (hmem p hp)).1)
  · obtain ⟨_, h2, _⟩ := mem_told hp
    rw [h2]
    have := val_in (A := A) (c := far) (by omega) (fun q hq => ⟨C.lo q hq, C.hi q hq⟩) p.1
    omega
theorem sum_good {N c t M : Nat} {A B : Num} {x : Int} (ga : ChG N c A) (gb : ChG N c B) (na : Nd A) (nb : Nd B) (ht : x.natAbs ≤ t) (hM : N + t * N ≤ M) : ChG M (2 * c) (told (sumA A B x)) := by
  have keys : ∀ (B A : Num), ∀ p ∈ sumA A B x, (∃ q ∈ A, p.1 = q.1) ∨ ∃ q ∈ B, p.1 = q.1 := by
    intro B
    induction B with
    | nil => intro A p hp; exact .inl ⟨p, hp, rfl⟩
    | cons b B ih =>
      intro A p hp
      rcases ih (addTo x A b) p hp with ⟨q, hq, e⟩ | ⟨q, hq, e⟩
      · rcases aput_in hq with h | h
        · exact .inl ⟨q, h, e⟩
        · exact .inr ⟨b, List.mem_cons_self, by rw [e, h]⟩
      · exact .inr ⟨q, List.mem_cons_of_mem _ hq, e⟩
  refine ⟨?_, fun p hp => ?_, fun p hp => ?_⟩
  · have h1 := told_len (sumA A B x)
    have h2 := sumA_len x B A
    have h3 := ga.len
    have h4 := gb.len
    omega
  · obtain ⟨h1, _, _⟩ := mem_told hp
    obtain ⟨q, hq, e⟩ := mem_key h1
    rcases keys B A q hq with ⟨r, hr, e2⟩ | ⟨r, hr, e2⟩
    · rw [← e, e2]; exact ga.lot r hr
    · rw [← e, e2]; exact gb.lot r hr
  · obtain ⟨_, h2, _⟩ := mem_told hp
    rw [h2, ← lin_dl (sum_nd na B x), lin_sum na, lin_dl na, lin_dl nb]
    have h3 := val_in (A := A) (c := N) (by omega) (fun q hq => by have := ga.num q hq; omega) p.1
    have h4 := val_in (A := B) (c := N) (by omega) (fun q hq => by have := gb.num q hq; omega) p.1
    have h5 : (x * val B p.1).natAbs ≤ t * N := by
      rw [Int.natAbs_mul]
      exact Nat.mul_le_mul ht (by omega)
    omega
/-- a row's step -/
theorem step_good {F : List Lot} {m s : Int} {row : Num} {N : Nat} (g : GoodF m F) (h : ∀ p ∈ row, p.2.natAbs ≤ N) : ChG (N * 7) 128 (told (stepA F s row)) := by
  have hk : ∀ p ∈ told (stepA F s row), p.1 ∈ sizedA F s := fun p hp => by
    obtain ⟨h1, _, _⟩ := mem_told hp
    rwa [step_keys] at h1
  refine ⟨?_, fun p hp => seven_in (g.sub _ (mem_sized.mp (hk p hp)).1), fun p hp => ?_⟩
  · refine Nat.le_trans (told_len _) ?_
    unfold stepA
    rw [List.length_map]
    exact Nat.le_trans (List.length_filter_le _ _) g.len
  · obtain ⟨_, h2, _⟩ := mem_told hp
    rw [h2, val_step, if_pos (hk p hp)]
    have h3 := dd_bound (f := val row) (c := N) (fun l => val_in (by omega) (fun q hq => by have := h q hq; omega) l) p.1
    have h4 := (seven_in (g.sub _ (mem_sized.mp (hk p hp)).1)).1
    have h5 : (N : Int) * (p.1.length : Int) ≤ (N : Int) * 7 := Int.mul_le_mul_of_nonneg_left (by omega) (by omega)
    omega
theorem reads_small {N c M : Nat} {row A : Num} (g : ChG M c A) (h : ∀ p ∈ row, p.2.natAbs ≤ N) : (readsA row A).natAbs ≤ c * (M * N) := by
  rw [reads_lin]
  refine Nat.le_trans (lin_abs (K := M * N) fun q hq => ?_) (Nat.mul_le_mul_right _ g.len)
  rw [Int.natAbs_mul]
  refine Nat.mul_le_mul (g.num q hq) ?_
  have := val_in (A := row) (c := N) (by omega) (fun q hq => by have := h q hq; omega) q.1
  omega
end Co

set_option linter.all false
set_option maxRecDepth 100000
set_option autoImplicit false
/-! Core63: shown texts can be compared. -/
namespace Co
open PySem

theorem ok_of (s : String) : PyData.strOk (Str.ofString s) = true := by
  unfold PyData.strOk
  rw [Str.ofString_eq_toList, List.all_toArray, List.all_map, List.all_eq_true]
  intro c _
  simp only [Function.comp, decide_eq_true_eq]
  have := c.valid
  unfold UInt32.isValidChar Nat.isValidChar at this
  show c.val.toNat < 0x110000
  omega
theorem ok_app {a b : Str} (ha : PyData.strOk a = true) (hb : PyData.strOk b = true) : PyData.strOk (a ++ b) = true := by
  unfold PyData.strOk at *
  show ((a.cps ++ b.cps).all fun x => decide (x < 0x110000)) = true
  rw [Array.all_append, ha, hb]; rfl
theorem ok_join {sep : Str} (hs : PyData.strOk sep = true) : ∀ ts : List Str, (∀ t ∈ ts, PyData.strOk t = true) → PyData.strOk (Str.join sep ts) = true
  | [], _ => by simp [Str.join, PyData.strOk, Str.empty]
  | [x], h => h x List.mem_cons_self
  | x :: y :: r, h => by
    rw [Str.join]
    · exact ok_app (ok_app (h x List.mem_cons_self) hs) (ok_join hs (y :: r) fun t ht => h t (List.mem_cons_of_mem _ ht))
    · intro z; cases z
theorem ok_text : ∀ (ts : List Str) (k : Nat) (acc : Str), PyData.strOk acc = true → (∀ t ∈ ts, PyData.strOk t = true) → PyData.strOk (textFrom k acc ts) = true
  | [], _, _, h, _ => h
  | t :: ts, k, acc, h, hs => by
    rw [textFrom]
    exact ok_text ts _ _ (ok_app (ok_app h (ok_of _)) (hs t List.mem_cons_self)) fun u hu => hs u (List.mem_cons_of_mem _ hu)
theorem ok_list {ts : List Str} (h : ∀ t ∈ ts, PyData.strOk t = true) : PyData.strOk (listText ts) = true := ok_app (ok_text _ _ _ (ok_of _) h) (ok_of _)
theorem ok_tuple {ts : List Str} (h : ∀ t ∈ ts, PyData.strOk t = true) : PyData.strOk (tupleText ts) = true := ok_app (ok_app (ok_of _) (ok_join (ok_of _) ts h)) (ok_of _)
mutual
theorem sp_shown {N : Nat} : ∀ d : D, sp N d = true → PyData.strOk (py d).shown = true
  | .int i, _ => ok_of _
  | .tup xs, v => by
    simp only [py, PyData.shown]
    exact ok_tuple (sps_shown xs (by simpa only [sp] using v))
  | .non, _ => ok_of _
  | .bl true, _ => ok_of _
  | .bl false, _ => ok_of _
  | .str x, v => by
    simp only [sp, Bool.and_eq_true] at v
    exact v.1.1
  | .fl _, v => nomatch v
  | .ref _, v => nomatch v
theorem sps_shown {N : Nat} : ∀ ds : List D, sps N ds = true → ∀ t ∈ PyData.shownAll (pys ds), PyData.strOk t = true
  | [], _, t, ht => by simp [pys, PyData.shownAll] at ht
  | d :: ds, v, t, ht => by
    simp only [sps, Bool.and_eq_true] at v
    simp only [pys, PyData.shownAll, List.mem_cons] at ht
    rcases ht with rfl | ht
    · exact sp_shown d v.1
    · exact sps_shown ds v.2 t ht
end
section
variable {N : Nat} {b : Bool} {s c : Nat} {h : Hh}
mutual
theorem btv_shown : ∀ d : D, btv N b s c h d = true → PyData.strOk (pyH h d).shown = true
  | .tup xs, v => by
    simp only [pyH, PyData.shown]
    exact ok_tuple (btvs_shown xs (by simpa only [btv] using v))
  | .ref n, v => by
    rcases (ref_read v).2.2 with ⟨ys, e, hb, hs⟩ | ⟨e, hb⟩
    · simp only [pyH, e, PyData.shown]
      exact ok_list (sps_shown ys hs)
    · have hp : pyH h (.ref n) = .dict [] := by simp only [pyH, e]
      rw [hp]
      simp only [PyData.shown, PyData.shownKv]
      exact ok_app (ok_app (ok_of _) (ok_join (ok_of _) [] (by simp))) (ok_of _)
  | .int i, v => sp_shown (N := N) (.int i) v
  | .non, v => sp_shown (N := N) .non v
  | .bl b, v => sp_shown (N := N) (.bl b) v
  | .str x, v => sp_shown (N := N) (.str x) v
  | .fl _, v => nomatch v
theorem btvs_shown : ∀ ds : List D, btvs N b s c h ds = true → ∀ t ∈ PyData.shownAll (pyHs h ds), PyData.strOk t = true
  | [], _, t, ht => by simp [pyHs, PyData.shownAll] at ht
  | d :: ds, v, t, ht => by
    simp only [btvs, Bool.and_eq_true] at v
    simp only [pyHs, PyData.shownAll, List.mem_cons] at ht
    rcases ht with rfl | ht
    · exact btv_shown d v.1
    · exact btvs_shown ds v.2 t ht
end
end
theorem ne_shown {N : Nat} {h : Hh} {d : D} (v : sp N d = true) : cmpop .ne h (.v (.str (py d).shown)) (.v (.str (py d).shown)) = some false := str_ne (by simp only [PyData.canLay0]; exact sp_shown d v)
theorem ne_shown_list {N : Nat} {h : Hh} {ds : List D} (v : sps N ds = true) : cmpop .ne h (.v (.str (PyData.list (pys ds)).shown)) (.v (.str (PyData.list (pys ds)).shown)) = some false :=
  str_ne (by simp only [PyData.canLay0, PyData.shown]; exact ok_list (sps_shown ds v))
end Co

set_option maxRecDepth 100000
namespace Pk86
open PySem Co
-- 0 is_thing(value, many): value 0 many 1
def c_is_thing : Fn := ⟨"is_thing", ["value", "many"], 2,
  [(.ret (.and (.isi .int (.var 0)) (.and (.not (.isi .bool (.var 0))) (.chn .le .lt (.int 0) (.var 0) (.var 1)))))]⟩
-- 1 is_thing_lot_of(many, value): many 0 value 1 k 2 one 3
def c_is_thing_lot_of : Fn := ⟨"is_thing_lot_of", ["many", "value", "k", "one"], 2,
  [(.ite (.or (.not (.isi .tuple (.var 1))) (.not (.bi .all [(.lc (.nm 3) (.of (.var 1)) none (.call 0 [(.var 3), (.var 0)]) [("one", 3)])]))) [(.ret (.bl false))] []), (.ret (.cmp .eq (.lc (.nm 2) (.range [(.int 1), (.bi .len [(.var 1)])]) (some (.cmp .le (.ix (.var 1) (.var 2)) (.ix (.var 1) (.bin .sub (.var 2) (.int 1))))) (.var 2) [("k", 2)]) (.lst [])))]⟩
-- 2 sides_of(lot): lot 0 k 1
def c_sides_of : Fn := ⟨"sides_of", ["lot", "k"], 1,
  [(.ret (.lc (.nm 1) (.range [(.bi .len [(.var 0)])]) none (.bin .add (.sl (.var 0) none (some (.var 1))) (.sl (.var 0) (some (.bin .add (.var 1) (.int 1))) none)) [("k", 1)]))]⟩
-- 3 lots_of_size(family, size): family 0 size 1 lot 2
def c_lots_of_size : Fn := ⟨"lots_of_size", ["family", "size", "lot"], 2,
  [(.ret (.bi .tuple [(.lc (.nm 2) (.of (.ix (.var 0) (.int 1))) (some (.cmp .eq (.bi .len [(.var 2)]) (.var 1))) (.var 2) [("lot", 2)])]))]⟩
-- 4 told_chain(numbers): numbers 0 lot 1
def c_told_chain : Fn := ⟨"told_chain", ["numbers", "lot"], 1,
  [(.ret (.bi .tuple [(.lc (.nm 1) (.of (.bi .sorted [(.var 0)])) (some (.cmp .ne (.ix (.var 0) (.var 1)) (.int 0))) (.tup [(.var 1), (.ix (.var 0) (.var 1))]) [("lot", 1)])]))]⟩
-- 5 is_chain(family, size, value): family 0 size 1 value 2 pair 3 k 4
def c_is_chain : Fn := ⟨"is_chain", ["family", "size", "value", "pair", "k"], 3,
  [(.ite (.not (.isi .tuple (.var 2))) [(.ret (.bl false))] []), (.for (.nm 3) (.of (.var 2)) [(.ite (.or (.not (.isi .tuple (.var 3))) (.or (.cmp .ne (.bi .len [(.var 3)]) (.int 2)) (.not (.call 1 [(.ix (.var 0) (.int 0)), (.ix (.var 3) (.int 0))])))) [(.ret (.bl false))] []), (.ite (.or (.cmp .ne (.bi .len [(.ix (.var 3) (.int 0))]) (.var 1)) (.cmp .notin (.ix (.var 3) (.int 0)) (.ix (.var 0) (.int 1)))) [(.ret (.bl false))] []), (.ite (.or (.not (.isi .int (.ix (.var 3) (.int 1)))) (.or (.isi .bool (.ix (.var 3) (.int 1))) (.cmp .eq (.ix (.var 3) (.int 1)) (.int 0)))) [(.ret (.bl false))] [])]), (.ret (.cmp .eq (.lc (.nm 4) (.range [(.int 1), (.bi .len [(.var 2)])]) (some (.cmp .le (.ix (.ix (.var 2) (.var 4)) (.int 0)) (.ix (.ix (.var 2) (.bin .sub (.var 4) (.int 1))) (.int 0)))) (.var 4) [("k", 4)]) (.lst [])))]⟩
-- 6 chain_sum(one, other, times): one 0 other 1 times 2 found 3 lot 4 number 5
def c_chain_sum : Fn := ⟨"chain_sum", ["one", "other", "times", "found", "lot", "number"], 3,
  [(.asg (.nm 3) (.bi .dict [(.var 0)])), (.for (.tp [(.nm 4), (.nm 5)]) (.of (.var 1)) [(.six (.var 3) (.var 4) (.bin .add (.me .get (.var 3) [(.var 4), (.int 0)]) (.bin .mul (.var 2) (.var 5))))]), (.ret (.call 4 [(.var 3)]))]⟩
-- 7 border_of(chain): chain 0 found 1 lot 2 number 3 k 4 side 5
def c_border_of : Fn := ⟨"border_of", ["chain", "found", "lot", "number", "k", "side"], 1,
  [(.asg (.nm 1) .dnew), (.for (.tp [(.nm 2), (.nm 3)]) (.of (.var 0)) [(.for (.tp [(.nm 4), (.nm 5)]) (.enum (.call 2 [(.var 2)])) [(.six (.var 1) (.var 5) (.bin .add (.me .get (.var 1) [(.var 5), (.int 0)]) (.bin .mul (.var 3) (.bin .sub (.int 1) (.bin .mul (.int 2) (.bin .mod (.var 4) (.int 2)))))))])]), (.ret (.call 4 [(.var 1)]))]⟩
-- 8 is_closed(chain): chain 0
def c_is_closed : Fn := ⟨"is_closed", ["chain"], 1,
  [(.ret (.cmp .eq (.call 7 [(.var 0)]) (.tup [])))]⟩
-- 9 reading(row, chain): row 0 chain 1 known 2 lot 3 number 4
def c_reading : Fn := ⟨"reading", ["row", "chain", "known", "lot", "number"], 2,
  [(.asg (.nm 2) (.bi .dict [(.var 0)])), (.ret (.bi .sum [(.lc (.tp [(.nm 3), (.nm 4)]) (.of (.var 1)) none (.bin .mul (.var 4) (.me .get (.var 2) [(.var 3), (.int 0)])) [("lot", 3), ("number", 4)])]))]⟩
-- 10 step_up(family, size, row): family 0 size 1 row 2 some 3 lot 4
def c_step_up : Fn := ⟨"step_up", ["family", "size", "row", "some", "lot"], 3,
  [(.asg (.nm 3) (.call 3 [(.var 0), (.bin .add (.var 1) (.int 1))])), (.ret (.call 4 [(.bi .dict [(.lc (.nm 4) (.of (.var 3)) none (.tup [(.var 4), (.call 9 [(.var 2), (.call 7 [(.tup [(.tup [(.var 4), (.int 1)])])])])]) [("lot", 4)])])]))]⟩
-- 11 _law_source(script): script 0 mixed 1 cell 2
def c_law_source : Fn := ⟨"_law_source", ["script", "mixed", "cell"], 1,
  [(.asg (.nm 1) (.int 11)), (.for (.nm 2) (.of (.var 0)) [(.asg (.nm 1) (.bin .mod (.bi .int [(.bin .add (.bin .add (.bin .mul (.var 1) (.int 69069)) (.bin .mul (.var 2) (.int 31))) (.int 5))]) (.int 2147483629)))]), (.ret (.dlit [(.str "cells"), (.rev (.lc (.nm 2) (.of (.var 0)) none (.bi .abs [(.var 2)]) [("cell", 2)])), (.str "left"), (.int 1), (.str "mixed"), (.var 1), (.str "turn"), (.int 0)]))]⟩
-- 12 _law_pick(source, many): source 0 many 1 left 2 mixed 3
def c_law_pick : Fn := ⟨"_law_pick", ["source", "many", "left", "mixed"], 2,
  [(.whl (.and (.cmp .gt (.var 1) (.int 1)) (.and (.cmp .lt (.ix (.var 0) (.str "left")) (.int 2)) (.cmp .gt (.bi .len [(.ix (.var 0) (.str "cells"))]) (.int 0)))) [(.six (.var 0) (.str "left") (.me .pop (.ix (.var 0) (.str "cells")) []))]), (.asg (.nm 2) (.ix (.var 0) (.str "left"))), (.ite (.or (.cmp .lt (.var 1) (.int 2)) (.cmp .gt (.var 2) (.int 1))) [(.six (.var 0) (.str "left") (.bin .fdiv (.var 2) (.bi .max [(.int 1), (.var 1)]))), (.ret (.bin .mod (.bi .int [(.var 2)]) (.bi .max [(.int 1), (.var 1)])))] []), (.six (.var 0) (.str "turn") (.bin .add (.ix (.var 0) (.str "turn")) (.int 1))), (.asg (.nm 3) (.bin .mod (.bi .int [(.bin .add (.ix (.var 0) (.str "mixed")) (.bin .mul (.ix (.var 0) (.str "turn")) (.int 104729)))]) (.int 998244353))), (.asg (.nm 3) (.bin .mod (.bi .int [(.bin .add (.bin .mul (.var 3) (.var 3)) (.bin .mul (.ix (.var 0) (.str "turn")) (.int 17)))]) (.int 2147483647))), (.six (.var 0) (.str "mixed") (.var 3)), (.ret (.bin .mod (.bi .int [(.bin .fdiv (.var 3) (.int 16))]) (.var 1)))]⟩
-- 13 _law_of(source, some): source 0 some 1
def c_law_of : Fn := ⟨"_law_of", ["source", "some"], 2,
  [(.ret (.ix (.var 1) (.call 12 [(.var 0), (.bi .len [(.var 1)])])))]⟩
-- 14 _law_mixed(source, things): source 0 things 1 rest 2 lap 3
def c_law_mixed : Fn := ⟨"_law_mixed", ["source", "things", "rest", "lap"], 2,
  [(.asg (.nm 2) (.bi .list [(.var 1)])), (.ret (.lc (.nm 3) (.range [(.bi .len [(.var 2)])]) none (.me .pop (.var 2) [(.call 12 [(.var 0), (.bi .len [(.var 2)])])]) [("lap", 3)]))]⟩
-- 15 _law_number(value): value 0
def c_law_number : Fn := ⟨"_law_number", ["value"], 1,
  [(.ret (.and (.isi .int (.var 0)) (.not (.isi .bool (.var 0)))))]⟩
-- 16 _law_bent(source, value): source 0 value 1 odd 2 some 3 k 4 way 5
def c_law_bent : Fn := ⟨"_law_bent", ["source", "value", "odd", "some", "k", "way"], 2,
  [(.asg (.nm 2) (.lst [.non, (.int 0), (.int 1), (.int 2), (.bl true), (.neg (.int 1)), (.str "a"), (.str "filled"), (.str "test"), (.str "rows"), (.str "round"), (.tup []), (.tup [(.int 0)]), (.tup [(.int 0), (.int 0)]), (.lst []), .dnew, (.bin .pow (.int 10) (.int 6))])), (.ite (.or (.not (.isi .tuple (.var 1))) (.or (.cmp .eq (.var 1) (.tup [])) (.cmp .eq (.call 12 [(.var 0), (.int 5)]) (.int 0)))) [(.asg (.nm 3) (.lst [(.call 13 [(.var 0), (.var 2)])])), (.ite (.isi .tuple (.var 1)) [(.asg (.nm 3) (.bin .add (.var 3) (.lst [(.sl (.var 1) (some (.int 1)) none), (.sl (.var 1) none (some (.neg (.int 1)))), (.bin .add (.var 1) (.sl (.var 1) none (some (.int 1)))), (.bi .list [(.var 1)]), (.rev (.var 1)), (.bin .add (.var 1) (.tup [(.int 0)]))])))] []), (.ret (.call 13 [(.var 0), (.var 3)]))] []), (.par [4, 5] [(.call 12 [(.var 0), (.bi .len [(.var 1)])]), (.call 12 [(.var 0), (.int 6)])]), (.ite (.and (.cmp .lt (.var 5) (.int 3)) (.call 15 [(.ix (.var 1) (.var 4))])) [(.ret (.bin .add (.bin .add (.sl (.var 1) none (some (.var 4))) (.tup [(.call 13 [(.var 0), (.lst [(.bin .sub (.int 0) (.ix (.var 1) (.var 4))), (.bin .add (.ix (.var 1) (.var 4)) (.int 1)), (.bin .sub (.ix (.var 1) (.var 4)) (.int 1)), (.bin .add (.ix (.var 1) (.var 4)) (.int 2))])])])) (.sl (.var 1) (some (.bin .add (.var 4) (.int 1))) none)))] []), (.ite (.cmp .eq (.var 5) (.int 3)) [(.ret (.bin .add (.sl (.var 1) none (some (.var 4))) (.sl (.var 1) (some (.bin .add (.var 4) (.int 1))) none)))] []), (.ret (.bin .add (.bin .add (.sl (.var 1) none (some (.var 4))) (.tup [(.call 16 [(.var 0), (.ix (.var 1) (.var 4))])])) (.sl (.var 1) (some (.bin .add (.var 4) (.int 1))) none)))]⟩
-- 17 _law_parts(lot): lot 0 found 1 x 2 part 3
def c_law_parts : Fn := ⟨"_law_parts", ["lot", "found", "x", "part"], 1,
  [(.asg (.nm 1) (.lst [(.tup [])])), (.for (.nm 2) (.of (.var 0)) [(.asg (.nm 1) (.bin .add (.var 1) (.lc (.nm 3) (.of (.var 1)) none (.bin .add (.var 3) (.tup [(.var 2)])) [("part", 3)])))]), (.ret (.var 1))]⟩
-- 18 _law_made(m, lots): m 0 lots 1 known 2 lot 3 part 4
def c_law_made : Fn := ⟨"_law_made", ["m", "lots", "known", "lot", "part"], 2,
  [(.asg (.nm 2) .dnew), (.for (.nm 3) (.of (.var 1)) [(.ex (.me .update (.var 2) [(.bi .dict [(.lc (.nm 4) (.of (.call 17 [(.var 3)])) none (.tup [(.var 4), (.int 0)]) [("part", 4)])])]))]), (.ret (.tup [(.var 0), (.bi .tuple [(.bi .sorted [(.var 2)])])]))]⟩
-- 19 _law_plane(): text 0 word 1 sign 2
def c_law_plane : Fn := ⟨"_law_plane", ["text", "word", "sign"], 0,
  [(.asg (.nm 0) (.str "012 013 024 035 045 125 134 145 234 235")), (.ret (.lc (.nm 1) (.of (.me .split (.var 0) [(.str " ")])) none (.bi .tuple [(.lc (.nm 2) (.of (.var 1)) none (.bi .int [(.var 2)]) [("sign", 2)])]) [("word", 1)]))]⟩
-- 20 _law_family(source, most, size): source 0 most 1 size 2 lots 3 turn 4 way 5 m 6 names 7 k 8 some 9 lot 10 x 11
def c_law_family : Fn := ⟨"_law_family", ["source", "most", "size", "lots", "turn", "way", "m", "names", "k", "some", "lot", "x"], 3,
  [(.par [5, 6] [(.call 12 [(.var 0), (.int 6)]), (.call 12 [(.var 0), (.bin .add (.var 1) (.int 1))])]), (.ite (.and (.cmp .eq (.var 5) (.int 0)) (.and (.cmp .gt (.var 1) (.int 5)) (.cmp .gt (.var 2) (.int 2)))) [(.asg (.nm 7) (.call 14 [(.var 0), (.lstR [(.int 6)])])), (.asg (.nm 3) (.lc (.nm 10) (.of (.call 19 [])) none (.bi .tuple [(.bi .sorted [(.lc (.nm 11) (.of (.var 10)) none (.ix (.var 7) (.var 11)) [("x", 11)])])]) [("lot", 10)])), (.ret (.call 18 [(.int 6), (.bin .add (.var 3) (.bin .mul (.lst [(.tup [(.int 0)])]) (.call 12 [(.var 0), (.int 2)])))]))] []), (.ite (.cmp .eq (.var 5) (.int 1)) [(.asg (.nm 8) (.call 12 [(.var 0), (.bin .add (.bi .min [(.var 6), (.var 2)]) (.int 1))])), (.asg (.nm 3) (.lc (.nm 10) (.of (.call 17 [(.tupR [(.var 6)])])) (some (.cmp .eq (.bi .len [(.var 10)]) (.var 8))) (.var 10) [("lot", 10)])), (.ret (.call 18 [(.var 6), (.lc (.nm 10) (.of (.var 3)) (some (.cmp .gt (.call 12 [(.var 0), (.int 5)]) (.int 0))) (.var 10) [("lot", 10)])]))] []), (.asg (.nm 3) (.lst [])), (.for (.nm 4) (.range [(.call 12 [(.var 0), (.int 7)])]) [(.asg (.nm 9) (.sl (.call 14 [(.var 0), (.lstR [(.var 6)])]) none (some (.call 12 [(.var 0), (.bin .add (.bi .min [(.var 6), (.var 2)]) (.int 1))])))), (.ex (.me .append (.var 3) [(.bi .tuple [(.bi .sorted [(.var 9)])])]))]), (.ret (.call 18 [(.var 6), (.var 3)]))]⟩
-- 21 _law_sized(family, k): family 0 k 1 lot 2
def c_law_sized : Fn := ⟨"_law_sized", ["family", "k", "lot"], 2,
  [(.ret (.lc (.nm 2) (.of (.ix (.var 0) (.int 1))) (some (.cmp .eq (.bi .len [(.var 2)]) (.var 1))) (.var 2) [("lot", 2)]))]⟩
-- 22 _law_told(numbers): numbers 0 lot 1
def c_law_told : Fn := ⟨"_law_told", ["numbers", "lot"], 1,
  [(.ret (.bi .tuple [(.lc (.nm 1) (.of (.bi .sorted [(.var 0)])) (some (.cmp .ne (.ix (.var 0) (.var 1)) (.int 0))) (.tup [(.var 1), (.ix (.var 0) (.var 1))]) [("lot", 1)])]))]⟩
-- 23 _law_border(chain): chain 0 found 1 lot 2 number 3 k 4 side 5
def c_law_border : Fn := ⟨"_law_border", ["chain", "found", "lot", "number", "k", "side"], 1,
  [(.asg (.nm 1) .dnew), (.for (.tp [(.nm 2), (.nm 3)]) (.of (.var 0)) [(.for (.nm 4) (.range [(.bi .len [(.var 2)])]) [(.asg (.nm 5) (.bin .add (.sl (.var 2) none (some (.var 4))) (.sl (.var 2) (some (.bin .add (.var 4) (.int 1))) none))), (.six (.var 1) (.var 5) (.bin .add (.me .get (.var 1) [(.var 5), (.int 0)]) (.ite (.cmp .eq (.bin .mod (.bi .int [(.var 4)]) (.int 2)) (.int 0)) (.var 3) (.bin .sub (.int 0) (.var 3)))))])]), (.ret (.call 22 [(.var 1)]))]⟩
-- 24 _law_sum(one, other, times): one 0 other 1 times 2 found 3 lot 4 number 5
def c_law_sum : Fn := ⟨"_law_sum", ["one", "other", "times", "found", "lot", "number"], 3,
  [(.asg (.nm 3) (.bi .dict [(.var 0)])), (.for (.tp [(.nm 4), (.nm 5)]) (.of (.var 1)) [(.six (.var 3) (.var 4) (.bin .add (.me .get (.var 3) [(.var 4), (.int 0)]) (.bin .mul (.var 2) (.var 5))))]), (.ret (.call 22 [(.var 3)]))]⟩
-- 25 _law_chain(source, family, k, far): source 0 family 1 k 2 far 3 found 4 lot 5
def c_law_chain : Fn := ⟨"_law_chain", ["source", "family", "k", "far", "found", "lot"], 4,
  [(.asg (.nm 4) .dnew), (.for (.nm 5) (.of (.call 21 [(.var 1), (.var 2)])) [(.ite (.cmp .eq (.call 12 [(.var 0), (.int 2)]) (.int 0)) [(.six (.var 4) (.var 5) (.bin .sub (.call 12 [(.var 0), (.bin .add (.bin .mul (.int 2) (.var 3)) (.int 1))]) (.var 3)))] [])]), (.ret (.call 22 [(.var 4)]))]⟩
-- 26 _law_reads(row, chain): row 0 chain 1 known 2 lot 3 number 4
def c_law_reads : Fn := ⟨"_law_reads", ["row", "chain", "known", "lot", "number"], 2,
  [(.asg (.nm 2) (.bi .dict [(.var 0)])), (.ret (.bi .sum [(.lc (.tp [(.nm 3), (.nm 4)]) (.of (.var 1)) none (.bin .mul (.var 4) (.me .get (.var 2) [(.var 3), (.int 0)])) [("lot", 3), ("number", 4)])]))]⟩
-- 27 _law_is_lot(m, value): m 0 value 1 x 2
def c_law_is_lot : Fn := ⟨"_law_is_lot", ["m", "value", "x"], 2,
  [(.ite (.or (.not (.isi .tuple (.var 1))) (.cmp .ne (.lc (.nm 2) (.of (.var 1)) (some (.or (.not (.call 15 [(.var 2)])) (.not (.chn .le .lt (.int 0) (.var 2) (.var 0))))) (.var 2) [("x", 2)]) (.lst []))) [(.ret (.bl false))] []), (.ret (.cmp .eq (.bi .list [(.var 1)]) (.bi .sorted [(.bi .dict [(.lc (.nm 2) (.of (.var 1)) none (.tup [(.var 2), (.int 0)]) [("x", 2)])])])))]⟩
-- 28 _law_is_chain(family, k, value): family 0 k 1 value 2 lots 3 pair 4 lot 5
def c_law_is_chain : Fn := ⟨"_law_is_chain", ["family", "k", "value", "lots", "pair", "lot"], 3,
  [(.ite (.not (.isi .tuple (.var 2))) [(.ret (.bl false))] []), (.asg (.nm 3) (.lst [])), (.for (.nm 4) (.of (.var 2)) [(.ite (.or (.not (.isi .tuple (.var 4))) (.or (.cmp .ne (.bi .len [(.var 4)]) (.int 2)) (.not (.call 27 [(.ix (.var 0) (.int 0)), (.ix (.var 4) (.int 0))])))) [(.ret (.bl false))] []), (.ite (.or (.cmp .ne (.bi .len [(.ix (.var 4) (.int 0))]) (.var 1)) (.or (.cmp .notin (.ix (.var 4) (.int 0)) (.ix (.var 0) (.int 1))) (.or (.not (.call 15 [(.ix (.var 4) (.int 1))])) (.cmp .eq (.ix (.var 4) (.int 1)) (.int 0))))) [(.ret (.bl false))] []), (.ex (.me .append (.var 3) [(.ix (.var 4) (.int 0))]))]), (.ret (.cmp .eq (.var 3) (.bi .sorted [(.bi .dict [(.lc (.nm 5) (.of (.var 3)) none (.tup [(.var 5), (.int 0)]) [("lot", 5)])])])))]⟩
-- 29 law(script): script 0 source 1 lap 2 family 3 k 4 far 5 most 6 kept 7 both 8 due 9 lot 10 step 11 some 12 values 13 value 14 one 15 other 16 times 17 border 18 row 19 late 20 shown 21 turn 22
def c_law : Fn := ⟨"law", ["script", "source", "lap", "family", "k", "far", "most", "kept", "both", "due", "lot", "step", "some", "values", "value", "one", "other", "times", "border", "row", "late", "shown", "turn"], 1,
  [(.asg (.nm 1) (.call 11 [(.var 0)])), (.for (.nm 2) (.range [(.int 4)]) [(.par [3, 5] [(.call 20 [(.var 1), (.ix (.lst [(.int 3), (.int 5), (.int 6), (.int 7)]) (.var 2)), (.ix (.lst [(.int 3), (.int 3), (.int 4), (.int 4)]) (.var 2))]), (.call 13 [(.var 1), (.lst [(.int 1), (.int 4), (.bin .pow (.int 10) (.int 5))])])]), (.asg (.nm 3) (.ite (.cmp .ne (.ix (.var 3) (.int 1)) (.tup [])) (.var 3) (.tup [(.ix (.var 3) (.int 0)), (.tup [(.tup [])])]))), (.par [6, 7] [(.bi .max [(.lc (.nm 10) (.of (.ix (.var 3) (.int 1))) none (.bi .len [(.var 10)]) [("lot", 10)])]), (.bi .repr [(.var 3)])]), (.for (.nm 4) (.range [(.bin .add (.var 6) (.int 1))]) [(.par [15, 16] [(.call 25 [(.var 1), (.var 3), (.var 4), (.var 5)]), (.call 25 [(.var 1), (.var 3), (.var 4), (.var 5)])]), (.par [17, 18] [(.bin .sub (.call 12 [(.var 1), (.int 2001)]) (.int 1000)), (.call 23 [(.var 15)])]), (.ite (.or (.cmp .ne (.bi .repr [(.lst [(.call 7 [(.var 15)]), (.call 8 [(.var 15)])])]) (.bi .repr [(.lst [(.var 18), (.cmp .eq (.var 18) (.tup []))])])) (.cmp .ne (.call 7 [(.var 18)]) (.tup []))) [(.ret (.bl false))] []), (.asg (.nm 8) (.call 6 [(.var 15), (.var 16), (.var 17)])), (.ite (.cmp .ne (.bi .repr [(.var 8)]) (.bi .repr [(.call 24 [(.var 15), (.var 16), (.var 17)])])) [(.ret (.bl false))] []), (.ite (.or (.cmp .ne (.call 7 [(.var 8)]) (.call 24 [(.var 18), (.call 23 [(.var 16)]), (.var 17)])) (.not (.call 8 [(.var 18)]))) [(.ret (.bl false))] []), (.par [19, 20] [(.call 25 [(.var 1), (.var 3), (.var 4), (.int 9)]), (.call 25 [(.var 1), (.var 3), (.bin .add (.var 4) (.int 1)), (.int 9)])]), (.ite (.cmp .ne (.bi .repr [(.call 9 [(.var 19), (.var 15)])]) (.bi .repr [(.call 26 [(.var 19), (.var 15)])])) [(.ret (.bl false))] []), (.asg (.nm 9) .dnew), (.for (.nm 10) (.of (.call 21 [(.var 3), (.bin .add (.var 4) (.int 1))])) [(.six (.var 9) (.var 10) (.call 26 [(.var 19), (.call 23 [(.tup [(.tup [(.var 10), (.int 1)])])])]))]), (.asg (.nm 11) (.call 10 [(.var 3), (.var 4), (.var 19)])), (.ite (.or (.cmp .ne (.bi .repr [(.var 11)]) (.bi .repr [(.call 22 [(.var 9)])])) (.cmp .ne (.call 10 [(.var 3), (.bin .add (.var 4) (.int 1)), (.var 11)]) (.tup []))) [(.ret (.bl false))] []), (.ite (.cmp .ne (.call 9 [(.var 11), (.var 20)]) (.call 9 [(.var 19), (.call 7 [(.var 20)])])) [(.ret (.bl false))] []), (.asg (.nm 12) (.call 13 [(.var 1), (.bin .add (.bi .list [(.ix (.var 3) (.int 1))]) (.lst [(.tup [])]))])), (.asg (.nm 13) (.lst [(.var 15), (.bi .list [(.var 15)]), (.rev (.var 15)), (.bin .add (.var 15) (.sl (.var 15) none (some (.int 1)))), (.tup []), .non, (.tup [(.tup [(.var 12), (.int 1)])]), (.tup [(.tup [(.var 12), (.int 0)])]), (.tup [(.tup [(.var 12), (.bl true)])])])), (.asg (.nm 13) (.bin .add (.var 13) (.lst [(.tup [(.tup [(.bi .list [(.var 12)]), (.int 1)])]), (.tup [(.tup [(.var 12)])]), (.tup [(.tup [(.bin .add (.var 12) (.tup [(.ix (.var 3) (.int 0))])), (.int 1)])]), (.var 3), (.int 0), (.var 18)]))), (.for (.nm 14) (.of (.bin .add (.var 13) (.lc (.nm 22) (.range [(.int 4)]) none (.call 16 [(.var 1), (.var 15)]) [("turn", 22)]))) [(.asg (.nm 21) (.bi .repr [(.var 14)])), (.ite (.or (.cmp .ne (.bi .repr [(.call 5 [(.var 3), (.var 4), (.var 14)])]) (.bi .repr [(.call 28 [(.var 3), (.var 4), (.var 14)])])) (.cmp .ne (.bi .repr [(.var 14)]) (.var 21))) [(.ret (.bl false))] [])])]), (.ite (.cmp .ne (.bi .repr [(.var 3)]) (.var 7)) [(.ret (.bl false))] [])]), (.ret (.cmp .eq (.call 7 [(.tup [(.tup [(.tup [(.int 0), (.int 1), (.int 2)]), (.int 2)])])]) (.tup [(.tup [(.tup [(.int 0), (.int 1)]), (.int 2)]), (.tup [(.tup [(.int 0), (.int 2)]), (.neg (.int 2))]), (.tup [(.tup [(.int 1), (.int 2)]), (.int 2)])])))]⟩
def fns : List Fn := [c_is_thing, c_is_thing_lot_of, c_sides_of, c_lots_of_size, c_told_chain, c_is_chain, c_chain_sum, c_border_of, c_is_closed, c_reading, c_step_up, c_law_source, c_law_pick, c_law_of, c_law_mixed, c_law_number, c_law_bent, c_law_parts, c_law_made, c_law_plane, c_law_family, c_law_sized, c_law_told, c_law_border, c_law_sum, c_law_chain, c_law_reads, c_law_is_lot, c_law_is_chain, c_law]
def tops : List Nat := [1, 2, 3, 4, 5, 6, 7, 8, 9, 10, 11, 13, 14, 15, 16, 17, 18, 19, 20, 21, 22, 23, 24, 25, 26, 27, 28, 29, 30, 31]
end Pk86

set_option linter.all false
set_option maxRecDepth 100000
set_option autoImplicit false
/-! L86a: the defs of this law, each with what it does. -/
namespace Pk86
open PySem Co

theorem pick12 : fns[12]? = some pickFn := rfl
theorem of13 : fns[13]? = some (ofFn 12) := rfl
theorem mixed14 : fns[14]? = some (mixedFn 12) := rfl
theorem source11 : fns[11]? = some sourceFn := rfl
theorem told4 : Told fns 4 := fun k n h A hA hl => told_ok (fn := c_told_chain) rfl rfl rfl rfl hA hl
theorem told22 : Told fns 22 := fun k n h A hA hl => told_ok (fn := c_law_told) rfl rfl rfl rfl hA hl
theorem bord7 : Bord fns 7 := fun k c h A hc hl => border_of_ok (fn := c_border_of) (sn := c_sides_of) (tn := c_told_chain) (si := 2) (ti := 4) rfl rfl rfl rfl rfl rfl rfl rfl rfl rfl rfl rfl hc hl
theorem bord23 : Bord fns 23 := fun k c h A hc hl => law_border_ok (fn := c_law_border) (tn := c_law_told) (ti := 22) rfl rfl rfl rfl rfl rfl rfl rfl hc hl
def Closed (fns : List Fn) (f : Nat) : Prop := ∀ (k c : Nat) (h : Hh) (A : Num), (∀ p ∈ A, p.1.length ≤ c) → A.length * c + c ≤ 1000000 → CQ (callN fns (k + 3)) f [chD A] h fun d h' => d = .bl (decide (told (bordA A) = [])) ∧ ∃ g, h' = h ++ g
theorem closed8 : Closed fns 8 := fun k c h A hc hl => closed_ok (fn := c_is_closed) bord7 rfl rfl rfl rfl hc hl
def Sums (fns : List Fn) (f : Nat) : Prop := ∀ (k : Nat) (h : Hh) (A B : Num) (t : Int), (A.map (·.1)).Nodup → A.length + B.length ≤ 1000000 → (-(2 ^ 64) < t ∧ t < 2 ^ 64) → CQ (callN fns (k + 2)) f [chD A, chD B, .int t] h fun d h' => d = chD (told (sumA A B t)) ∧ ∃ g, h' = h ++ g
theorem sum6 : Sums fns 6 := fun k h A B t hA hl ht => sum_ok (fn := c_chain_sum) (tn := c_told_chain) (ti := 4) rfl rfl rfl rfl rfl rfl rfl rfl hA hl ht
theorem sum24 : Sums fns 24 := fun k h A B t hA hl ht => sum_ok (fn := c_law_sum) (tn := c_law_told) (ti := 22) rfl rfl rfl rfl rfl rfl rfl rfl hA hl ht
theorem reads9 : Reads fns 9 := fun k h A B hA hv hl => reading_ok (fn := c_reading) rfl rfl rfl rfl hA hv hl
theorem reads26 : Reads fns 26 := fun k h A B hA hv hl => reading_ok (fn := c_law_reads) rfl rfl rfl rfl hA hv hl
theorem sized21 : Sized fns 21 := fun k h m z F hl => law_sized_ok (fn := c_law_sized) rfl rfl rfl rfl hl
theorem lots3 : Lots fns 3 := fun k h m z F hl => lots_of_ok (fn := c_lots_of_size) rfl rfl rfl rfl hl
def Steps (fns : List Fn) (f : Nat) : Prop := ∀ (k : Nat) (h : Hh) (m z : Int) (F : List Lot) (A : Num), F.Nodup → (∀ l ∈ F, l.length ≤ 1000) → F.length ≤ 1000000 → (A.map (·.1)).Nodup → (∀ p ∈ A, -(2 ^ 64) < p.2 ∧ p.2 < 2 ^ 64) → CQ (callN fns (k + 3)) f [famD m F, .int z, chD A] h fun d h' => d = chD (told (stepA F (z + 1) A)) ∧ ∃ g, h' = h ++ g
theorem step10 : Steps fns 10 := fun k h m z F A hF hc hl hA hv => step_ok (fn := c_step_up) lots3 told4 reads9 bord7 rfl rfl rfl rfl hF hc hl hA hv
def Drawn (fns : List Fn) (f : Nat) : Prop := ∀ (k s c : Nat) (h : Hh) (m z far : Int) (F : List Lot), F.length ≤ 1000000 → 0 ≤ far → far ≤ 1000000 → Src h s c → CQ (callN fns (k + 2)) f [.ref s, famD m F, .int z, .int far] h fun d h' => ∃ A, d = chD (told A) ∧ ChIn (sizedA F z) far A ∧ Grow s c h h' ∧ Src h' s c
theorem chain25 : Drawn fns 25 := fun k s c h m z far F hl f0 f1 S => law_chain_ok (fn := c_law_chain) sized21 pick12 told22 rfl rfl rfl rfl hl f0 f1 S
theorem thing0 : Thing fns 0 := fun k h d m v => thing_ok (fn := c_is_thing) rfl rfl rfl rfl v
theorem num15 : Number fns 15 := fun k h d v => number_ok (fn := c_law_number) rfl rfl rfl rfl v
theorem lot1 : LotQ fns 1 := is_lot_ok (fn := c_is_thing_lot_of) thing0 rfl rfl rfl rfl
theorem lot27 : LotQ fns 27 := law_lot_ok (fn := c_law_is_lot) num15 rfl rfl rfl rfl
theorem chain5 : ChainQ fns 5 := is_chain_ok (fn := c_is_chain) lot1 rfl rfl rfl rfl
theorem chain28 : ChainQ fns 28 := law_is_chain_ok (fn := c_law_is_chain) lot27 num15 rfl rfl rfl rfl
theorem parts17 : Parts fns 17 := fun k h l hl => parts_ok (fn := c_law_parts) rfl rfl rfl rfl hl
theorem made18 : Made fns 18 := fun k nl h m L hL hs hl => made_ok (fn := c_law_made) parts17 rfl rfl rfl rfl hL hs hl
theorem family20 (k s c : Nat) (h : Hh) (most size : Int) (m0 : 0 ≤ most) (m1 : most ≤ 7) (z0 : 0 ≤ size) (z1 : size ≤ 7) (S : Src h s c) : CQ (callN fns (k + 3)) 20 [.ref s, .int most, .int size] h fun d h' => FamOut s c h d h' :=
  family_ok (fn := c_law_family) (ln := c_law_plane) pick12 mixed14 parts17 made18 (li := 19) rfl rfl rfl rfl rfl rfl rfl rfl m0 m1 z0 z1 S
theorem bent16 (k s c : Nat) (h : Hh) (v : D) (S : Src h s c) (hv : sp 1000000000 v = true) (hd : (py v).depth ≤ 4) (hk : (py v).bulk ≤ 100000) :
    CQ (callN fns (k + 7)) 16 [.ref s, v] h fun d h' => BOk 1000000002 s c h' 7 (2 * (py v).bulk + 50) d ∧ Grow s c h h' ∧ Src h' s c :=
  bent_ok (fn := c_law_bent) (ip := 12) (oi := 13) (ni := 15) pick12 of13 num15 rfl rfl rfl rfl (by decide) 4 k h v S hv hd (by decide) hk
end Pk86

set_option linter.all false
set_option maxRecDepth 100000
set_option autoImplicit false
/-! L86b: the law's own text, piece by piece. -/
namespace Pk86
open PySem Co

def inA : List S := [(.par [15, 16] [(.call 25 [(.var 1), (.var 3), (.var 4), (.var 5)]), (.call 25 [(.var 1), (.var 3), (.var 4), (.var 5)])]),
  (.par [17, 18] [(.bin .sub (.call 12 [(.var 1), (.int 2001)]) (.int 1000)), (.call 23 [(.var 15)])])]
def inB : List S := [(.ite (.or (.cmp .ne (.bi .repr [(.lst [(.call 7 [(.var 15)]), (.call 8 [(.var 15)])])]) (.bi .repr [(.lst [(.var 18), (.cmp .eq (.var 18) (.tup []))])])) (.cmp .ne (.call 7 [(.var 18)]) (.tup []))) [(.ret (.bl false))] []),
  (.asg (.nm 8) (.call 6 [(.var 15), (.var 16), (.var 17)])),
  (.ite (.cmp .ne (.bi .repr [(.var 8)]) (.bi .repr [(.call 24 [(.var 15), (.var 16), (.var 17)])])) [(.ret (.bl false))] []),
  (.ite (.or (.cmp .ne (.call 7 [(.var 8)]) (.call 24 [(.var 18), (.call 23 [(.var 16)]), (.var 17)])) (.not (.call 8 [(.var 18)]))) [(.ret (.bl false))] [])]
def inC : List S := [(.par [19, 20] [(.call 25 [(.var 1), (.var 3), (.var 4), (.int 9)]), (.call 25 [(.var 1), (.var 3), (.bin .add (.var 4) (.int 1)), (.int 9)])]),
  (.ite (.cmp .ne (.bi .repr [(.call 9 [(.var 19), (.var 15)])]) (.bi .repr [(.call 26 [(.var 19), (.var 15)])])) [(.ret (.bl false))] []),
  (.asg (.nm 9) .dnew),
  (.for (.nm 10) (.of (.call 21 [(.var 3), (.bin .add (.var 4) (.int 1))])) [(.six (.var 9) (.var 10) (.call 26 [(.var 19), (.call 23 [(.tup [(.tup [(.var 10), (.int 1)])])])]))]),
  (.asg (.nm 11) (.call 10 [(.var 3), (.var 4), (.var 19)])),
  (.ite (.or (.cmp .ne (.bi .repr [(.var 11)]) (.bi .repr [(.call 22 [(.var 9)])])) (.cmp .ne (.call 10 [(.var 3), (.bin .add (.var 4) (.int 1)), (.var 11)]) (.tup []))) [(.ret (.bl false))] []),
  (.ite (.cmp .ne (.call 9 [(.var 11), (.var 20)]) (.call 9 [(.var 19), (.call 7 [(.var 20)])])) [(.ret (.bl false))] [])]
def inD : List S := [(.asg (.nm 12) (.call 13 [(.var 1), (.bin .add (.bi .list [(.ix (.var 3) (.int 1))]) (.lst [(.tup [])]))])),
  (.asg (.nm 13) (.lst [(.var 15), (.bi .list [(.var 15)]), (.rev (.var 15)), (.bin .add (.var 15) (.sl (.var 15) none (some (.int 1)))), (.tup []), .non, (.tup [(.tup [(.var 12), (.int 1)])]), (.tup [(.tup [(.var 12), (.int 0)])]), (.tup [(.tup [(.var 12), (.bl true)])])])),
  (.asg (.nm 13) (.bin .add (.var 13) (.lst [(.tup [(.tup [(.bi .list [(.var 12)]), (.int 1)])]), (.tup [(.tup [(.var 12)])]), (.tup [(.tup [(.bin .add (.var 12) (.tup [(.ix (.var 3) (.int 0))])), (.int 1)])]), (.var 3), (.int 0), (.var 18)]))),
  (.for (.nm 14) (.of (.bin .add (.var 13) (.lc (.nm 22) (.range [(.int 4)]) none (.call 16 [(.var 1), (.var 15)]) [("turn", 22)]))) [(.asg (.nm 21) (.bi .repr [(.var 14)])), (.ite (.or (.cmp .ne (.bi .repr [(.call 5 [(.var 3), (.var 4), (.var 14)])]) (.bi .repr [(.call 28 [(.var 3), (.var 4), (.var 14)])])) (.cmp .ne (.bi .repr [(.var 14)]) (.var 21))) [(.ret (.bl false))] [])])]
-- lap
def lapA : List S := [(.par [3, 5] [(.call 20 [(.var 1), (.ix (.lst [(.int 3), (.int 5), (.int 6), (.int 7)]) (.var 2)), (.ix (.lst [(.int 3), (.int 3), (.int 4), (.int 4)]) (.var 2))]), (.call 13 [(.var 1), (.lst [(.int 1), (.int 4), (.bin .pow (.int 10) (.int 5))])])]),
  (.asg (.nm 3) (.ite (.cmp .ne (.ix (.var 3) (.int 1)) (.tup [])) (.var 3) (.tup [(.ix (.var 3) (.int 0)), (.tup [(.tup [])])]))),
  (.par [6, 7] [(.bi .max [(.lc (.nm 10) (.of (.ix (.var 3) (.int 1))) none (.bi .len [(.var 10)]) [("lot", 10)])]), (.bi .repr [(.var 3)])])]
def lapFor : S := (.for (.nm 4) (.range [(.bin .add (.var 6) (.int 1))]) (inA ++ (inB ++ (inC ++ inD))))
def lapEnd : S := (.ite (.cmp .ne (.bi .repr [(.var 3)]) (.var 7)) [(.ret (.bl false))] [])
def lawFor : S := (.for (.nm 2) (.range [(.int 4)]) (lapA ++ [lapFor, lapEnd]))
def lawBody : List S := [(.asg (.nm 1) (.call 11 [(.var 0)])), lawFor, (.ret (.cmp .eq (.call 7 [(.tup [(.tup [(.tup [(.int 0), (.int 1), (.int 2)]), (.int 2)])])]) (.tup [(.tup [(.tup [(.int 0), (.int 1)]), (.int 2)]), (.tup [(.tup [(.int 0), (.int 2)]), (.neg (.int 2))]), (.tup [(.tup [(.int 1), (.int 2)]), (.int 2)])])))]
section
variable {k s c : Nat} {h : Hh} {m z t : Int} {far : Int} {F : List Lot} {one other row late : Num} {x0 x2 x6 x7 x8 x9 x10 x11 x12 x13 x14 x15 x16 x17 x18 x19 x20 x21 x22 : Option D}
theorem q_iff {cl : Call} {a : E} {ρ : Rho} {P : Out → Prop} {x y : List S} (q : EQ cl a ρ h fun r h1 => r = .v (.bl false) ∧ SsQ cl y ρ h1 P) : SQ cl (.ite a x y) ρ h P :=
  q_if (q.mono fun r h1 ⟨e, p⟩ => ⟨false, e, fun z => (nomatch z), fun _ => p⟩)
theorem q_orf {cl : Call} {a b : E} {ρ : Rho} {Q : Res → Hh → Prop} (q : EQ cl a ρ h fun r h1 => r = .v (.bl false) ∧ EQ cl b ρ h1 Q) : EQ cl (.or a b) ρ h Q :=
  q_or (q.mono fun r h1 ⟨e, p⟩ => ⟨false, e, fun _ => p, fun z => (nomatch z)⟩)
theorem q_app {cl : Call} {P : Out → Prop} : ∀ {a b : List S} {ρ : Rho} {h : Hh}, (SsQ cl a ρ h fun o => match o with
    | .nx ρ1 h1 => SsQ cl b ρ1 h1 P
    | o => P o) → SsQ cl (a ++ b) ρ h P
  | [], b, ρ, h, ⟨o, e, q⟩ => by
    simp only [exs] at e
    cases e
    exact q
  | st :: a, b, ρ, h, ⟨o, e, q⟩ => by
    simp only [exs] at e
    rw [List.cons_append]
    cases e1 : ex cl st ρ h with
    | none => rw [e1] at e; cases e
    | some o1 =>
      rw [e1] at e
      cases o1 with
      | nx ρ1 h1 =>
        obtain ⟨o2, e2, q2⟩ := q_app (P := P) (a := a) (b := b) (ρ := ρ1) (h := h1) ⟨o, e, q⟩
        exact ⟨o2, by simp only [exs, e1, e2], q2⟩
      | rt d h1 => cases e; exact ⟨_, by simp only [exs, e1], q⟩
      | bk d h1 => cases e; exact ⟨_, by simp only [exs, e1], q⟩
      | ct d h1 => cases e; exact ⟨_, by simp only [exs, e1], q⟩
theorem ne_ch {A B : Num} : cmpop .ne h (.v (chD A)) (.v (chD B)) = some (!decide (A = B)) := by
  have := eq_ch (h := h) (A := A) (B := B)
  simp only [cmpop] at this ⊢
  rw [this]; rfl
/-- a chain with far numbers over the lots of a size -/
structure One (F : List Lot) (z : Int) (N : Nat) (A : Num) : Prop where
  g : ChG N 128 A
  nd : Nd A
  mem : ∀ p ∈ A, p.1 ∈ sizedA F z
theorem One.lots {N : Nat} {A : Num} (o : One F z N A) : ∀ p ∈ A, p.1.length ≤ 7 := fun p hp => (o.g.lot p hp).1

theorem inA_ok (g : GoodF m F) (f0 : 0 ≤ far) (f1 : far ≤ 100000) (S : Src h s c) :
    SsQ (callN fns (k + 2)) inA [x0, some (.ref s), x2, some (famD m F), some (.int z), some (.int far), x6, x7, x8, x9, x10, x11, x12, x13, x14, x15, x16, x17, x18, x19, x20, x21, x22] h fun o => ∃ one other t h', o = .nx [x0, some (.ref s), x2, some (famD m F), some (.int z), some (.int far), x6, x7, x8, x9, x10, x11, x12, x13, x14, some (chD one), some (chD other), some (.int t), some (chD (told (bordA one))), x19, x20, x21, x22] h' ∧ One F z 100000 one ∧ One F z 100000 other ∧ -1000 ≤ t ∧ t ≤ 1000 ∧ Src h' s c := by
  have hF : F.length ≤ 1000000 := Nat.le_trans g.len (by decide)
  have hfar : far = ((far.toNat : Nat) : Int) := by omega
  have mk : ∀ A : Num, ChIn (sizedA F z) far A → One F z 100000 (told A) := fun A C => by
    rw [hfar] at C
    obtain ⟨a, b, d⟩ := drawn_good g C
    exact ⟨a.mono (by omega) (Nat.le_refl _), b, d⟩
  refine q_cons <| q_par <| q_escons <| q_call <| q_escons <| q_var rfl <| q_escons <| q_var rfl <| q_escons <| q_var rfl <| q_escons <| q_var rfl <| q_esnil ((chain25 k s c h m z far F hF f0 (by omega) S).mono ?_)
  rintro d h1 ⟨A, rfl, CA, G1, S1⟩
  refine q_escons <| q_call <| q_escons <| q_var rfl <| q_escons <| q_var rfl <| q_escons <| q_var rfl <| q_escons <| q_var rfl <| q_esnil ((chain25 k s c h1 m z far F hF f0 (by omega) S1).mono ?_)
  rintro d h2 ⟨B, rfl, CB, G2, S2⟩
  refine q_esnil ⟨_, rfl, ?_⟩
  have OA := mk A CA
  have hlen := OA.g.len
  refine q_cons <| q_par <| q_escons <| q_bin <| q_call <| q_escons <| q_var rfl <| q_escons <| q_int <| q_esnil ((pick_ok (k := k + 1) pick12 S2 (by decide)).mono ?_)
  rintro d h3 ⟨p, rfl, p0, p1, G3, S3⟩
  refine q_int ⟨_, rfl, q_escons <| q_call <| q_escons <| q_var rfl <| q_esnil ((bord23 k 7 _ _ OA.lots (by omega)).mono ?_)⟩
  rintro d h4 ⟨rfl, g4, rfl⟩
  refine q_esnil ⟨_, rfl, q_nil ?_⟩
  exact ⟨told A, told B, p - 1000, _, rfl, OA, mk B CB, by omega, by omega, S3.app⟩
theorem inB_ok (o1 : One F z 100000 one) (o2 : One F z 100000 other) (t0 : -1000 ≤ t) (t1 : t ≤ 1000) (S : Src h s c) :
    SsQ (callN fns (k + 3)) inB [x0, some (.ref s), x2, some (famD m F), some (.int z), some (.int far), x6, x7, x8, x9, x10, x11, x12, x13, x14, some (chD one), some (chD other), some (.int t), some (chD (told (bordA one))), x19, x20, x21, x22] h fun o => ∃ h', o = .nx [x0, some (.ref s), x2, some (famD m F), some (.int z), some (.int far), x6, x7, some (chD (told (sumA one other t))), x9, x10, x11, x12, x13, x14, some (chD one), some (chD other), some (.int t), some (chD (told (bordA one))), x19, x20, x21, x22] h' ∧ Src h' s c := by
  have l1 := o1.g.len
  have l2 := o2.g.len
  have bg : ChG 100000000 896 (told (bordA one)) := bord_good o1.g (by decide)
  have bl := bg.len
  have bn : Nd (told (bordA one)) := told_nd (bord_nd _)
  have sg : ChG 1000100000 256 (told (sumA one other t)) := sum_good (t := 1000) o1.g o2.g o1.nd o2.nd (by omega) (by decide)
  have sl := sg.len
  have bog : ChG 100000000 896 (told (bordA other)) := bord_good o2.g (by decide)
  have bol := bog.len
  have ht : -(2 ^ 64) < t ∧ t < 2 ^ 64 := by omega
  -- the border, told
  have hsp : sps 100000000 [chD (told (bordA one)), .bl (decide (told (bordA one) = []))] = true := by
    simp only [sps, bg.sp (by decide), sp, Bool.and_self]
  have hdp : PyData.depthAll (pys [chD (told (bordA one)), .bl (decide (told (bordA one) = []))]) ≤ 63 := by
    have := depth_ch (told (bordA one))
    simp only [pys, PyData.depthAll, py, PyData.depth] at this ⊢
    omega
  have hbk : PyData.bulkAll (pys [chD (told (bordA one)), .bl (decide (told (bordA one) = []))]) ≤ 1000000 := by
    have := bg.bulk
    simp only [pys, PyData.bulkAll, py, PyData.bulk] at this ⊢
    omega
  have rep : ∀ hh : Hh, bltn .repr hh [.f [chD (told (bordA one)), .bl (decide (told (bordA one) = []))]] = some (.v (.str (PyData.list (pys [chD (told (bordA one)), .bl (decide (told (bordA one) = []))])).shown), hh) := fun hh => f_repr (by decide) hsp hdp hbk
  have rep2 : ∀ hh : Hh, bltn .repr hh [.v (chD (told (sumA one other t)))] = some (.v (.str (py (chD (told (sumA one other t)))).shown), hh) := fun hh => sg.repr (by decide) (by decide) (by decide)
  refine q_cons <| q_iff <| q_orf <| q_cmp <| q_bi <| q_rscons <| q_lst <| q_escons <| q_call <| q_escons <| q_var rfl <| q_esnil ((bord7 (k + 1) 7 _ _ o1.lots (by omega)).mono ?_)
  rintro d h1 ⟨rfl, g1, rfl⟩
  refine q_escons <| q_call <| q_escons <| q_var rfl <| q_esnil ((closed8 k 7 _ _ o1.lots (by omega)).mono ?_)
  rintro d h2 ⟨rfl, g2, rfl⟩
  refine q_esnil ⟨rfl, q_rsnil ⟨_, _, rep _, ?_⟩⟩
  refine q_bi <| q_rscons <| q_lst <| q_escons <| q_var rfl <| q_escons <| q_cmp <| q_var rfl <| q_tup <| q_esnil ⟨rfl, _, eq_ch (B := []), ?_⟩
  refine q_esnil ⟨rfl, q_rsnil ⟨_, _, rep _, _, ne_shown_list hsp, rfl, ?_⟩⟩
  refine q_cmp <| q_call <| q_escons <| q_var rfl <| q_esnil ((bord7 (k + 1) 7 _ _ (fun p hp => (bg.lot p hp).1) (by omega)).mono ?_)
  rintro d h3 ⟨rfl, g3, rfl⟩
  refine q_tup <| q_esnil ⟨rfl, _, ne_ch (B := []), by rw [bord_bord]; rfl, q_nil ?_⟩
  -- the sum
  refine q_cons <| q_asg <| q_call <| q_escons <| q_var rfl <| q_escons <| q_var rfl <| q_escons <| q_var rfl <| q_esnil ((sum6 (k + 1) _ one other t o1.nd (by omega) ht).mono ?_)
  rintro d h4 ⟨rfl, g4, rfl⟩
  refine ⟨_, rfl, ?_⟩
  refine q_cons <| q_iff <| q_cmp <| q_bi <| q_rscons <| q_var rfl <| q_rsnil ⟨_, _, rep2 _, ?_⟩
  refine q_bi <| q_rscons <| q_call <| q_escons <| q_var rfl <| q_escons <| q_var rfl <| q_escons <| q_var rfl <| q_esnil ((sum24 (k + 1) _ one other t o1.nd (by omega) ht).mono ?_)
  rintro d h5 ⟨rfl, g5, rfl⟩
  refine q_rsnil ⟨_, _, rep2 _, _, ne_shown (sg.sp (by decide)), rfl, q_nil ?_⟩
  -- the border of the sum
  refine q_cons <| q_iff <| q_orf <| q_cmp <| q_call <| q_escons <| q_var rfl <| q_esnil ((bord7 (k + 1) 7 _ _ (fun p hp => (sg.lot p hp).1) (by omega)).mono ?_)
  rintro d h6 ⟨rfl, g6, rfl⟩
  refine q_call <| q_escons <| q_var rfl <| q_escons <| q_call <| q_escons <| q_var rfl <| q_esnil ((bord23 (k + 1) 7 _ _ o2.lots (by omega)).mono ?_)
  rintro d h7 ⟨rfl, g7, rfl⟩
  refine q_escons <| q_var rfl <| q_esnil ((sum24 (k + 1) _ _ _ t bn (by omega) ht).mono ?_)
  rintro d h8 ⟨rfl, g8, rfl⟩
  refine ⟨_, ne_ch, by rw [bord_sum o1.nd]; simp, ?_⟩
  refine q_not <| q_call <| q_escons <| q_var rfl <| q_esnil ((closed8 k 7 _ _ (fun p hp => (bg.lot p hp).1) (by omega)).mono ?_)
  rintro d h9 ⟨rfl, g9, rfl⟩
  refine ⟨_, rfl, by rw [bord_bord]; rfl, q_nil <| q_nil ?_⟩
  exact ⟨_, rfl, S.app.app.app.app.app.app.app.app.app⟩
end
end Pk86

set_option linter.all false
set_option maxRecDepth 100000
set_option autoImplicit false
/-! L86c: readings and steps up. -/
namespace Pk86
open PySem Co
section
variable {k s c : Nat} {h : Hh} {m z t : Int} {far : Int} {F : List Lot} {one other row late : Num} {x0 x2 x6 x7 x8 x9 x10 x11 x12 x13 x14 x15 x16 x17 x18 x19 x20 x21 x22 : Option D}
theorem look_app {h g : Hh} {n : Nat} {x : Cell} (e : look h n = some x) : look (h ++ g) n = some x := by
  unfold look at *
  rw [List.getElem?_append_left (List.getElem?_eq_some_iff.mp e).1]; exact e
theorem look_set {h : Hh} {n : Nat} {x y : Cell} (e : look h n = some y) : look (h.set n x) n = some x := by
  unfold look at *
  exact List.getElem?_set_self (List.getElem?_eq_some_iff.mp e).1
theorem look_set_ne {h : Hh} {n j : Nat} {x y : Cell} (e : look h j = some y) (hn : n ≠ j) : look (h.set n x) j = some y := by
  unfold look at *
  rw [List.getElem?_set_ne hn]; exact e
theorem aput_new {A : Num} {l : Lot} {x : Int} (h : l ∉ A.map (·.1)) : aput A l x = A ++ [(l, x)] := by
  unfold aput
  rw [if_neg]
  intro q
  obtain ⟨p, hp, e⟩ := List.any_eq_true.mp q
  exact h (List.mem_map.mpr ⟨p, hp, of_decide_eq_true e⟩)
def dueF (row : Num) (l : Lot) : Lot × Int := (l, readsA row (told (bordA [(l, 1)])))
theorem due_keys (row : Num) (L : List Lot) : (L.map (dueF row)).map (·.1) = L := by
  rw [List.map_map]
  show List.map id _ = _
  exact List.map_id _
def dueBody : List S := [(.six (.var 9) (.var 10) (.call 26 [(.var 19), (.call 23 [(.tup [(.tup [(.var 10), (.int 1)])])])]))]
theorem due_ok {n9 : Nat} {y10 : Option D} {l : Lot} {D : Num} (hl : l.length ≤ 7) (nr : Nd row) (hr : ∀ p ∈ row, -(2 ^ 64) < p.2 ∧ p.2 < 2 ^ 64) (hD : look h n9 = some (.dct (numD D))) (hDl : D.length < 1000) (n1 : n9 ≠ s) (n2 : n9 ≠ c) (S : Src h s c) :
    SsQ (callN fns (k + 3)) dueBody [x0, some (.ref s), x2, some (famD m F), some (.int z), some (.int far), x6, x7, some (chD (told (sumA one other t))), some (.ref n9), some (lotD l), x11, x12, x13, x14, some (chD one), some (chD other), some (.int t), some (chD (told (bordA one))), some (chD row), some (chD late), x21, x22] h fun o => ∃ g, o = .nx [x0, some (.ref s), x2, some (famD m F), some (.int z), some (.int far), x6, x7, some (chD (told (sumA one other t))), some (.ref n9), some (lotD l), x11, x12, x13, x14, some (chD one), some (chD other), some (.int t), some (chD (told (bordA one))), some (chD row), some (chD late), x21, x22] ((h ++ g).set n9 (.dct (numD (aput D l (dueF row l).2)))) := by
  have hc1 : ∀ p ∈ [((l, 1) : Lot × Int)], p.1.length ≤ 7 := fun p hp => by rw [List.mem_singleton.mp hp]; exact hl
  have hbl := lots_len 7 [((l, 1) : Lot × Int)] [] hc1
  have htl := told_len (bordA [(l, 1)])
  refine q_cons <| q_six <| q_call <| q_escons <| q_var rfl <| q_escons <| q_call <| q_escons <| q_tup <| q_escons <| q_tup <| q_escons <| q_var rfl <| q_escons <| q_int <| q_esnil ⟨rfl, q_esnil ⟨rfl, q_esnil ((bord23 (k + 1) 7 h [(l, 1)] hc1 (by simp)).mono ?_)⟩⟩
  rintro d h1 ⟨rfl, g1, rfl⟩
  refine q_esnil ((reads26 (k + 2) _ row (told (bordA [(l, 1)])) nr hr ?_).mono ?_)
  · simp only [List.length_nil, List.length_singleton] at hbl
    unfold bordA at htl ⊢
    omega
  rintro d h2 ⟨rfl, rfl⟩
  refine q_var rfl ⟨_, rfl, q_var rfl ⟨_, rfl, _, set_num (A := D) ?_ (by omega), q_nil ?_⟩⟩
  · exact look_app (look_app hD)
  · exact ⟨g1 ++ [.dct (numD row)], by simp only [adopt, List.append_assoc]; rfl⟩
theorem inC_ok (g : GoodF m F) (o1 : One F z 100000 one) (S : Src h s c) :
    SsQ (callN fns (k + 4)) inC [x0, some (.ref s), x2, some (famD m F), some (.int z), some (.int far), x6, x7, some (chD (told (sumA one other t))), x9, x10, x11, x12, x13, x14, some (chD one), some (chD other), some (.int t), some (chD (told (bordA one))), x19, x20, x21, x22] h fun o => ∃ y9 y10 y11 y19 y20 h', o = .nx [x0, some (.ref s), x2, some (famD m F), some (.int z), some (.int far), x6, x7, some (chD (told (sumA one other t))), y9, y10, y11, x12, x13, x14, some (chD one), some (chD other), some (.int t), some (chD (told (bordA one))), y19, y20, x21, x22] h' ∧ Src h' s c := by
  have hF : F.length ≤ 1000000 := Nat.le_trans g.len (by decide)
  have l1 := o1.g.len
  refine q_cons <| q_par <| q_escons <| q_call <| q_escons <| q_var rfl <| q_escons <| q_var rfl <| q_escons <| q_var rfl <| q_escons <| q_int <| q_esnil ((chain25 (k + 2) s c h m z 9 F hF (by decide) (by decide) S).mono ?_)
  rintro d h1 ⟨A, rfl, CA, G1, S1⟩
  refine q_escons <| q_call <| q_escons <| q_var rfl <| q_escons <| q_var rfl <| q_escons <| q_bin <| q_var rfl <| q_int ⟨_, rfl, q_escons <| q_int <| q_esnil ((chain25 (k + 2) s c h1 m (z + 1) 9 F hF (by decide) (by decide) S1).mono ?_)⟩
  rintro d h2 ⟨B, rfl, CB, G2, S2⟩
  refine q_esnil ⟨_, rfl, ?_⟩
  obtain ⟨rg, rn, rm⟩ := drawn_good (far := 9) g CA
  obtain ⟨lg, ln, lm⟩ := drawn_good (far := 9) g CB
  generalize told A = row at rg rn rm ⊢
  generalize told B = late at lg ln lm ⊢
  show SsQ (callN fns (k + 4)) _ [x0, some (.ref s), x2, some (famD m F), some (.int z), some (.int far), x6, x7, some (chD (told (sumA one other t))), x9, x10, x11, x12, x13, x14, some (chD one), some (chD other), some (.int t), some (chD (told (bordA one))), some (chD row), some (chD late), x21, x22] h2 _
  clear CA CB G1 G2 S1 S
  have r9 : ∀ p ∈ row, p.2.natAbs ≤ 9 := rg.num
  have r64 : ∀ p ∈ row, -(2 ^ 64) < p.2 ∧ p.2 < 2 ^ 64 := fun p hp => by have := r9 p hp; omega
  -- readings
  have hi : (readsA row one).natAbs ≤ 128 * (100000 * 9) := reads_small o1.g r9
  have isp : sp 200000000 (.int (readsA row one)) = true := decide_eq_true (by omega)
  have irep : ∀ hh : Hh, bltn .repr hh [.v (.int (readsA row one))] = some (.v (.str (py (.int (readsA row one))).shown), hh) := fun hh => v_repr (by decide) isp (by simp [py, PyData.depth]) (by simp [py, PyData.bulk])
  refine q_cons <| q_iff <| q_cmp <| q_bi <| q_rscons <| q_call <| q_escons <| q_var rfl <| q_escons <| q_var rfl <| q_esnil ((reads9 (k + 3) _ row one rn r64 (by omega)).mono ?_)
  rintro d h3 ⟨rfl, rfl⟩
  refine q_rsnil ⟨_, _, irep _, ?_⟩
  refine q_bi <| q_rscons <| q_call <| q_escons <| q_var rfl <| q_escons <| q_var rfl <| q_esnil ((reads26 (k + 3) _ row one rn r64 (by omega)).mono ?_)
  rintro d h3 ⟨rfl, rfl⟩
  refine q_rsnil ⟨_, _, irep _, _, ne_shown isp, rfl, q_nil ?_⟩
  show SsQ (callN fns (k + 4)) _ [x0, some (.ref s), x2, some (famD m F), some (.int z), some (.int far), x6, x7, some (chD (told (sumA one other t))), x9, x10, x11, x12, x13, x14, some (chD one), some (chD other), some (.int t), some (chD (told (bordA one))), some (chD row), some (chD late), x21, x22] (h2 ++ [Cell.dct (numD row)] ++ [Cell.dct (numD row)]) _
  generalize hh3 : h2 ++ [Cell.dct (numD row)] ++ [Cell.dct (numD row)] = h3
  have S3 : Src h3 s c := by rw [← hh3]; exact S2.app.app
  clear hh3 S2
  obtain ⟨hs, hc⟩ := S3.lt
  -- due
  refine q_cons <| q_asg <| q_dnew ⟨_, rfl, ?_⟩
  refine q_cons <| q_for <| q_wof <| q_call <| q_escons <| q_var rfl <| q_escons <| q_bin <| q_var rfl <| q_int ⟨_, rfl, q_esnil ((sized21 (k + 3) _ m (z + 1) F (by omega)).mono ?_)⟩
  rintro d h4 ⟨rfl, rfl⟩
  have hd0 : look (h3 ++ [Cell.dct []] ++ [.lst ((sizedA F (z + 1)).map lotD)]) h3.length = some (.dct (numD [])) := look_app last_look
  have hl0 : look (h3 ++ [Cell.dct []] ++ [.lst ((sizedA F (z + 1)).map lotD)]) (h3 ++ [Cell.dct []]).length = some (.lst ((sizedA F (z + 1)).map lotD)) := last_look
  have hn : h3.length ≠ (h3 ++ [Cell.dct []]).length := by simp
  have S4 : Src (h3 ++ [Cell.dct []] ++ [.lst ((sizedA F (z + 1)).map lotD)]) s c := S3.app.app
  simp only [adopt]
  show ∃ w, walkOf (h3 ++ [Cell.dct []] ++ [.lst ((sizedA F (z + 1)).map lotD)]) (.v (.ref (h3 ++ [Cell.dct []]).length)) = some w ∧ _
  generalize (h3 ++ [Cell.dct []]).length = nl at hl0 hn ⊢
  generalize h3 ++ [Cell.dct []] ++ [.lst ((sizedA F (z + 1)).map lotD)] = h4 at hd0 hl0 S4 ⊢
  generalize h3.length = n9 at hs hc hd0 hn ⊢
  have hwk : walkOf h4 (.v (.ref nl)) = some ⟨(sizedA F (z + 1)).map lotD, some (nl, (sizedA F (z + 1)).map lotD), none⟩ := by
    simp only [walkOf, seqOf, guardOf, hl0]
  refine ⟨_, hwk, ?_⟩
  have sznd : (sizedA F (z + 1)).Nodup := g.nd.filter _
  have szl : (sizedA F (z + 1)).length ≤ 128 := Nat.le_trans (List.length_filter_le _ _) g.len
  obtain ⟨ρ', h5, e5, ⟨y10, rfl⟩, hd5, hl5, S5⟩ := for_ls (body := fun ρ h => exs (callN fns (k + 4)) dueBody ρ h) (tg := .nm 10) (w := ⟨(sizedA F (z + 1)).map lotD, some (nl, (sizedA F (z + 1)).map lotD), none⟩) lotD
    (fun done ρ hh => (∃ y10, ρ = [x0, some (.ref s), x2, some (famD m F), some (.int z), some (.int far), x6, x7, some (chD (told (sumA one other t))), some (.ref n9), y10, x11, x12, x13, x14, some (chD one), some (chD other), some (.int t), some (chD (told (bordA one))), some (chD row), some (chD late), x21, x22]) ∧ look hh n9 = some (.dct (numD (done.map (dueF row)))) ∧ look hh nl = some (.lst ((sizedA F (z + 1)).map lotD)) ∧ Src hh s c) (sizedA F (z + 1)) [] _ h4 ⟨⟨x10, rfl⟩, hd0, hl0, S4⟩ (by
      rintro ls1 ρ hh ⟨_, _, hl, _⟩
      simp only [Walk.ok, stays, hl]
      simp) (by
      rintro ls1 l ls2 hls ρ hh ⟨⟨y10, rfl⟩, hd, hl, SS⟩
      rw [List.nil_append] at hls
      refine ⟨_, rfl, ?_⟩
      have hlm : l ∈ sizedA F (z + 1) := by rw [hls]; simp
      have hl7 := (seven_in (g.sub _ (mem_sized.mp hlm).1)).1
      have hnl : l ∉ ls1 := by
        have := sznd
        rw [hls, List.nodup_append] at this
        exact fun q => this.2.2 l q l List.mem_cons_self rfl
      have hlen : (ls1.map (dueF row)).length < 1000 := by
        have := congrArg List.length hls
        simp at this
        rw [List.length_map]; omega
      obtain ⟨o, eo, g6, rfl⟩ := due_ok (k := k + 1) (x0 := x0) (x2 := x2) (x6 := x6) (x7 := x7) (x11 := x11) (x12 := x12) (x13 := x13) (x14 := x14) (x21 := x21) (x22 := x22) (m := m) (z := z) (t := t) (far := far) (F := F) (one := one) (other := other) (late := late) (l := l) (y10 := some (lotD l)) hl7 rn r64 hd hlen (by omega) (by omega) SS
      refine ⟨_, eo, _, _, rfl, ⟨_, rfl⟩, ?_, look_set_ne (look_app hl) hn, SS.app.set (by omega) (by omega)⟩
      rw [look_set (look_app hd), aput_new (by rw [due_keys]; exact hnl), List.map_append]
      rfl)
  rw [List.nil_append] at hd5
  refine ⟨_, e5, ?_⟩
  have hdue : (sizedA F (z + 1)).map (dueF row) = stepA F (z + 1) row := rfl
  rw [hdue] at hd5
  have hlot : ∀ l ∈ F, l.length ≤ 1000 := fun l hl => by have := (seven_in (g.sub l hl)).1; omega
  have sg : ChG (9 * 7) 128 (told (stepA F (z + 1) row)) := step_good g r9
  have sn : Nd (told (stepA F (z + 1) row)) := told_nd (step_nd g.nd _ _)
  have s64 : ∀ p ∈ told (stepA F (z + 1) row), -(2 ^ 64) < p.2 ∧ p.2 < 2 ^ 64 := fun p hp => by have := sg.num p hp; omega
  have srep : ∀ hh : Hh, bltn .repr hh [.v (chD (told (stepA F (z + 1) row)))] = some (.v (.str (py (chD (told (stepA F (z + 1) row)))).shown), hh) := fun hh => sg.repr (by decide) (by decide) (by decide)
  refine q_cons <| q_asg <| q_call <| q_escons <| q_var rfl <| q_escons <| q_var rfl <| q_escons <| q_var rfl <| q_esnil ((step10 (k + 1) _ m z F row g.nd hlot hF rn r64).mono ?_)
  rintro d h6 ⟨rfl, g6, rfl⟩
  refine ⟨_, rfl, ?_⟩
  refine q_cons <| q_iff <| q_orf <| q_cmp <| q_bi <| q_rscons <| q_var rfl <| q_rsnil ⟨_, _, srep _, ?_⟩
  refine q_bi <| q_rscons <| q_call <| q_escons <| q_var rfl <| q_esnil ((told22 (k + 3) n9 _ _ (look_app hd5) ?_).mono ?_)
  · rw [← hdue, List.length_map]; omega
  rintro d h7 ⟨rfl, rfl⟩
  refine q_rsnil ⟨_, _, srep _, _, ne_shown (sg.sp (by decide)), rfl, ?_⟩
  refine q_cmp <| q_call <| q_escons <| q_var rfl <| q_escons <| q_bin <| q_var rfl <| q_int ⟨_, rfl, q_escons <| q_var rfl <| q_esnil ((step10 (k + 1) _ m (z + 1) F _ g.nd hlot hF sn s64).mono ?_)⟩
  rintro d h8 ⟨rfl, g8, rfl⟩
  refine q_tup <| q_esnil ⟨rfl, _, ne_ch (B := []), by rw [step_step g.nd g.cls]; rfl, q_nil ?_⟩
  have lg2 : late.length ≤ 128 := lg.len
  have blg : ChG 10000 896 (told (bordA late)) := bord_good lg (by decide)
  have bll := blg.len
  refine q_cons <| q_iff <| q_cmp <| q_call <| q_escons <| q_var rfl <| q_escons <| q_var rfl <| q_esnil ((reads9 (k + 3) _ _ late sn s64 (by omega)).mono ?_)
  rintro d h9 ⟨rfl, rfl⟩
  refine q_call <| q_escons <| q_var rfl <| q_escons <| q_call <| q_escons <| q_var rfl <| q_esnil ((bord7 (k + 2) 7 _ late (fun p hp => (lg.lot p hp).1) (by omega)).mono ?_)
  rintro d h10 ⟨rfl, g10, rfl⟩
  refine q_esnil ((reads9 (k + 3) _ row _ rn r64 (by omega)).mono ?_)
  rintro d h11 ⟨rfl, rfl⟩
  refine ⟨_, int_ne, by rw [step_reads g.nd _ _ _ lm]; simp, q_nil <| q_nil ?_⟩
  exact ⟨_, _, _, _, _, _, rfl, S5.app.app.app.app.app⟩
end
end Pk86

set_option linter.all false
set_option maxRecDepth 100000
set_option autoImplicit false
/-! L86d: what is a chain. -/
namespace Pk86
open PySem Co
section
variable {k s c : Nat} {h : Hh} {m z t : Int} {far : Int} {F : List Lot} {one other row late : Num} {x0 x2 x6 x7 x8 x9 x10 x11 x12 x13 x14 x15 x16 x17 x18 x19 x20 x21 x22 y9 y10 y11 y19 y20 y14 y21 : Option D} {l0 : Lot} {n13 : Nat}
abbrev OK (s c : Nat) (h : Hh) (d : D) : Prop := BOk 1000000002 s c h 60 1000000 d
def judgeBody : List S := [(.asg (.nm 21) (.bi .repr [(.var 14)])), (.ite (.or (.cmp .ne (.bi .repr [(.call 5 [(.var 3), (.var 4), (.var 14)])]) (.bi .repr [(.call 28 [(.var 3), (.var 4), (.var 14)])])) (.cmp .ne (.bi .repr [(.var 14)]) (.var 21))) [(.ret (.bl false))] [])]
theorem judge_ok {d : D} (b : OK s c h d) : SsQ (callN fns (k + 3)) judgeBody [x0, some (.ref s), x2, some (famD m F), some (.int z), some (.int far), x6, x7, some (chD (told (sumA one other t))), y9, y10, y11, some (lotD l0), some (.ref n13), some d, some (chD one), some (chD other), some (.int t), some (chD (told (bordA one))), y19, y20, y21, x22] h fun o => ∃ y21 g, o = .nx [x0, some (.ref s), x2, some (famD m F), some (.int z), some (.int far), x6, x7, some (chD (told (sumA one other t))), y9, y10, y11, some (lotD l0), some (.ref n13), some d, some (chD one), some (chD other), some (.int t), some (chD (told (bordA one))), y19, y20, y21, x22] (h ++ g) := by
  have b0 := b
  obtain ⟨q, v, hd, hk⟩ := b0
  have rep := btv_repr (by decide) v (by omega) hk
  refine q_cons <| q_asg <| q_bi <| q_rscons <| q_var rfl <| q_rsnil ⟨_, _, rep, _, rfl, ?_⟩
  refine q_cons <| q_iff <| q_orf <| q_cmp <| q_bi <| q_rscons <| q_call <| q_escons <| q_var rfl <| q_escons <| q_var rfl <| q_escons <| q_var rfl <| q_esnil ((chain5 k h d m z F (btv_vl d v hk)).mono ?_)
  rintro r h1 ⟨⟨b1, rfl, i1⟩, g1, rfl⟩
  have gr1 : Grow s c h (h ++ g1) := .app
  have v1 := btv_grow gr1 d v
  refine q_rsnil ⟨_, _, bl_repr, ?_⟩
  refine q_bi <| q_rscons <| q_call <| q_escons <| q_var rfl <| q_escons <| q_var rfl <| q_escons <| q_var rfl <| q_esnil ((chain28 k _ d m z F (btv_vl d v1.1 (by rw [v1.2]; exact hk))).mono ?_)
  rintro r h2 ⟨⟨b2, rfl, i2⟩, g2, rfl⟩
  have hb : b2 = b1 := by
    rw [Bool.eq_iff_iff, i1, i2]
  subst hb
  refine q_rsnil ⟨_, _, bl_repr, _, ne_shown (N := 0) (d := .bl b2) rfl, rfl, ?_⟩
  have gr2 : Grow s c h (h ++ g1 ++ g2) := gr1.trans .app
  have v2 := btv_grow gr2 d v
  have rep2 := btv_repr (h := h ++ g1 ++ g2) (by decide) v2.1 (by rw [v2.2]; omega) (by rw [v2.2]; exact hk)
  rw [v2.2] at rep2
  refine q_cmp <| q_bi <| q_rscons <| q_var rfl <| q_rsnil ⟨_, _, rep2, q_var rfl ⟨_, str_ne (by simp only [PyData.canLay0]; exact btv_shown d v), rfl, q_nil <| q_nil ?_⟩⟩
  exact ⟨_, g1 ++ g2, by rw [← List.append_assoc]; rfl⟩
theorem pair_sp {N : Nat} (hN : 7 ≤ N) (h0 : ∀ x ∈ l0, 0 ≤ x ∧ x < 7) {d : D} (hd : sp N d = true) : sp N (.tup [.tup [lotD l0, d]]) = true := by
  simp only [sp, sps, lot_sp hN h0, hd, Bool.and_self]
theorem ok_sp {d : D} (h1 : sp 1000000002 d = true) (h2 : (py d).depth ≤ 60) (h3 : (py d).bulk ≤ 1000000) : OK s c h d := .of h1 h2 h3
def V1L (one : Num) (r1 : Nat) (l0 : Lot) : List D := [chD one, .ref r1, .tup (one.map pairD).reverse, .tup (one.map pairD ++ cutD (one.map pairD) none (some 1)), .tup [], .non, .tup [.tup [lotD l0, .int 1]], .tup [.tup [lotD l0, .int 0]], .tup [.tup [lotD l0, .bl true]]]
def V2L (m : Int) (F : List Lot) (r2 : Nat) (l0 : Lot) (border : Num) : List D := [.tup [.tup [.ref r2, .int 1]], .tup [.tup [lotD l0]], .tup [.tup [.tup (l0.map D.int ++ [.int m]), .int 1]], famD m F, .int 0, chD border]
theorem v1_ok {r1 : Nat} (o1 : One F z 100000 one) (h0 : l0.length ≤ 7) (h1 : ∀ x ∈ l0, 0 ≤ x ∧ x < 7) (e : look h r1 = some (.lst (one.map pairD))) (n1 : r1 ≠ s) (n2 : r1 ≠ c) : ∀ d ∈ V1L one r1 l0, OK s c h d := by
  have hs : sps 1000000002 (one.map pairD) = true := (o1.g.mono (by decide) (Nat.le_refl _)).sps (by decide)
  have hb := o1.g.bulks
  have hd := deps_pairs one
  have hsub : List.Sublist (cutD (one.map pairD) none (some 1)) (one.map pairD) := cut_sub
  have hsub2 := pys_sub hsub
  have hrev := pys_rev (one.map pairD)
  have small : ∀ d : D, sp 1000000002 d = true → (py d).depth ≤ 0 → (py d).bulk ≤ 0 → OK s c h (.tup [.tup [lotD l0, d]]) := fun d a b e => by
    refine ok_sp (pair_sp (by decide) h1 a) ?_ ?_
    · have := depth_lot l0
      simp only [py, pys, PyData.depth, PyData.depthAll] at this ⊢
      omega
    · have := bulk_lot l0
      simp only [py, pys, PyData.bulk, PyData.bulkAll] at this ⊢
      omega
  intro d hdm
  simp only [V1L, List.mem_cons, List.not_mem_nil, or_false] at hdm
  rcases hdm with rfl | rfl | rfl | rfl | rfl | rfl | rfl | rfl | rfl
  · refine ok_sp (by simp only [chD, sp]; exact hs) (by have := depth_ch one; omega) (by have := o1.g.bulk; omega)
  · exact .lst e n1 n2 hs (by omega) (by omega)
  · refine ok_sp (by simp only [sp]; exact sps_rev hs) ?_ ?_
    · simp only [py, PyData.depth, hrev.2]; omega
    · simp only [py, PyData.bulk, hrev.1]; omega
  · refine ok_sp (by simp only [sp]; exact sps_app hs (sps_sub hsub hs)) ?_ ?_
    · simp only [py, PyData.depth, pys_app, deep_app]; omega
    · simp only [py, PyData.bulk, pys_app, bulk_app]; omega
  · exact ok_sp rfl (by simp [py, pys, PyData.depth, PyData.depthAll]) (by simp [py, pys, PyData.bulk, PyData.bulkAll])
  · exact ok_sp rfl (by simp [py, PyData.depth]) (by simp [py, PyData.bulk])
  · exact small _ (by decide) (by simp [py, PyData.depth]) (by simp [py, PyData.bulk])
  · exact small _ (by decide) (by simp [py, PyData.depth]) (by simp [py, PyData.bulk])
  · exact small _ rfl (by simp [py, PyData.depth]) (by simp [py, PyData.bulk])
theorem sp_lots {N : Nat} (hN : 7 ≤ N) (g : GoodF m F) : sps N (F.map lotD) = true := by
  refine sps_all.mpr fun d hd => ?_
  obtain ⟨l, hl, rfl⟩ := List.mem_map.mp hd
  exact lot_sp hN (seven_in (g.sub l hl)).2
theorem bulk_lots (g : GoodF m F) : PyData.bulkAll (pys (F.map lotD)) ≤ 1024 := by
  have : ∀ L : List Lot, (∀ l ∈ L, l.length ≤ 7) → PyData.bulkAll (pys (L.map lotD)) ≤ 8 * L.length := by
    intro L hL
    induction L with
    | nil => exact Nat.le_refl _
    | cons p B ih =>
      have h1 := ih fun q hq => hL q (List.mem_cons_of_mem _ hq)
      have h2 := hL p List.mem_cons_self
      simp only [List.map_cons, pys, PyData.bulkAll, bulk_lot, List.length_cons]
      omega
  have h1 := this F fun l hl => (seven_in (g.sub l hl)).1
  have h2 := g.len
  omega
theorem fam_sp {N : Nat} (hN : 7 ≤ N) (g : GoodF m F) : sp N (famD m F) = true := by
  have hm : sp N (.int m) = true := by
    simp only [sp, decide_eq_true_eq]
    have h1 := g.m0
    have h2 := g.m7
    omega
  simp only [famD, sp, sps] at hm ⊢
  rw [hm, sp_lots hN g]; rfl
theorem fam_depth : (py (famD m F)).depth ≤ 5 := by
  have := deps_lots F
  simp only [famD, py, pys, PyData.depth, PyData.depthAll] at this ⊢
  omega
theorem fam_bulk (g : GoodF m F) : (py (famD m F)).bulk ≤ 2000 := by
  have := bulk_lots g
  simp only [famD, py, pys, PyData.bulk, PyData.bulkAll] at this ⊢
  omega
theorem v2_ok {r2 : Nat} {border : Num} (g : GoodF m F) (bg : ChG 100000000 896 border) (h0 : l0.length ≤ 7) (h1 : ∀ x ∈ l0, 0 ≤ x ∧ x < 7) (e : look h r2 = some (.lst (l0.map D.int))) (n1 : r2 ≠ s) (n2 : r2 ≠ c) : ∀ d ∈ V2L m F r2 l0 border, OK s c h d := by
  have hl : sps 1000000002 (l0.map D.int) = true := by
    have := lot_sp (N := 1000000002) (by decide) h1
    simpa only [lotD, sp] using this
  have hm : sp 1000000002 (.int m) = true := by
    simp only [sp, decide_eq_true_eq]
    have h1 := g.m0
    have h2 := g.m7
    omega
  have hb := bulk_lot l0
  have hd := depth_lot l0
  simp only [lotD, py, PyData.bulk, PyData.depth] at hb hd
  intro d hdm
  simp only [V2L, List.mem_cons, List.not_mem_nil, or_false] at hdm
  rcases hdm with rfl | rfl | rfl | rfl | rfl | rfl
  · have h2 : OK s c h (.ref r2) := .lst e n1 n2 hl (by omega) (by omega)
    have h3 : BOk 1000000002 s c h 3 20 (.ref r2) := .lst e n1 n2 hl (by omega) (by omega)
    have h4 := h3.mid (xs := []) (ys := [.int 1]) rfl (by decide) (by simp [pys, PyData.depthAll]) (by simp [pys, py, PyData.depthAll, PyData.depth])
    have h5 := h4.mid (xs := []) (ys := []) rfl rfl (by simp [pys, PyData.depthAll]) (by simp [pys, PyData.depthAll])
    refine BOk.le h5 (by omega) ?_
    simp [pys, py, PyData.bulkAll, PyData.bulk]
  · refine ok_sp ?_ ?_ ?_
    · have := lot_sp (N := 1000000002) (by decide) h1
      simp only [sp, sps, this, Bool.and_self]
    · simp only [lotD, py, pys, PyData.depth, PyData.depthAll]; omega
    · simp only [lotD, py, pys, PyData.bulk, PyData.bulkAll]; omega
  · have hx : sps 1000000002 (l0.map D.int ++ [.int m]) = true := sps_app hl (by simp only [sps, hm, Bool.and_self])
    refine ok_sp ?_ ?_ ?_
    · have : sp 1000000002 (.int 1) = true := by decide
      simp only [sp, sps, hx] at this ⊢
      rw [this]; rfl
    · simp only [py, pys, pys_app, deep_app, PyData.depth, PyData.depthAll]; omega
    · simp only [py, pys, pys_app, bulk_app, PyData.bulk, PyData.bulkAll]; omega
  · exact ok_sp (fam_sp (by decide) g) (by have := fam_depth (m := m) (F := F); omega) (by have := fam_bulk g; omega)
  · exact ok_sp (by decide) (by simp [py, PyData.depth]) (by simp [py, PyData.bulk])
  · exact ok_sp ((bg.mono (by decide) (Nat.le_refl _)).sp (by decide)) (by have := depth_ch border; omega) (by have := bg.bulk; omega)
set_option maxHeartbeats 0 in
theorem inD_ok (g : GoodF m F) (o1 : One F z 100000 one) (S : Src h s c) :
    SsQ (callN fns (k + 8)) inD [x0, some (.ref s), x2, some (famD m F), some (.int z), some (.int far), x6, x7, some (chD (told (sumA one other t))), y9, y10, y11, x12, x13, x14, some (chD one), some (chD other), some (.int t), some (chD (told (bordA one))), y19, y20, x21, x22] h fun o => ∃ y12 y13 y14 y21 h', o = .nx [x0, some (.ref s), x2, some (famD m F), some (.int z), some (.int far), x6, x7, some (chD (told (sumA one other t))), y9, y10, y11, y12, y13, y14, some (chD one), some (chD other), some (.int t), some (chD (told (bordA one))), y19, y20, y21, x22] h' ∧ Src h' s c := by
  have bg : ChG 100000000 896 (told (bordA one)) := bord_good o1.g (by decide)
  have hFl := g.len
  have h1l := o1.g.len
  have eL : bltn .list h [.v (.tup (F.map lotD))] = some (.f (F.map lotD), h) := rfl
  have eA : binop .add h (.f (F.map lotD)) (.f [.tup []]) = some (.f ((F ++ [[]]).map lotD)) := by
    simp only [binop, lstOf]
    rw [if_pos (show small _ = true from decide_eq_true (by simp; omega)), List.map_append]; rfl
  refine q_cons <| q_asg <| q_call <| q_escons <| q_var rfl <| q_escons <| q_bin <| q_bi <| q_rscons <| q_ix <| q_var rfl <| q_int ⟨_, fam_ix, q_rsnil ⟨_, _, eL, q_lst <| q_escons <| q_tup <| q_esnil ⟨rfl, q_esnil ⟨rfl, _, eA, q_esnil ?_⟩⟩⟩⟩
  obtain ⟨hs, hc⟩ := S.lt
  refine (of_ok (k := k + 6) (ds := (F ++ [[]]).map lotD) pick12 of13 (S.app (g := [Cell.lst ((F ++ [[]]).map lotD)])) (fun h' G => seq_keep last_look (by omega) (by omega) G) (by simp) (by simp; omega)).mono ?_
  rintro d h1 ⟨hd, G1, S1⟩
  obtain ⟨l0, hl0, rfl⟩ := List.mem_map.mp hd
  have h07 : l0.length ≤ 7 ∧ ∀ x ∈ l0, 0 ≤ x ∧ x < 7 := by
    rcases List.mem_append.mp hl0 with q | q
    · exact seven_in (g.sub _ q)
    · rw [List.mem_singleton.mp q]; exact ⟨by decide, fun x hx => nomatch hx⟩
  refine ⟨_, rfl, ?_⟩
  show SsQ (callN fns (k + 8)) _ [x0, some (.ref s), x2, some (famD m F), some (.int z), some (.int far), x6, x7, some (chD (told (sumA one other t))), y9, y10, y11, some (lotD l0), x13, x14, some (chD one), some (chD other), some (.int t), some (chD (told (bordA one))), y19, y20, x21, x22] h1 _
  obtain ⟨hs1, hc1⟩ := S1.lt
  -- values
  have e1 : ∀ hh : Hh, bltn .list hh [.v (chD one)] = some (.f (one.map pairD), hh) := fun _ => rfl
  have e2 : ∀ hh : Hh, turned hh (.v (chD one)) = some (.v (.tup (one.map pairD).reverse)) := fun _ => rfl
  have e3 : ∀ hh : Hh, slice hh (.v (chD one)) none (some 1) = some (.v (.tup (cutD (one.map pairD) none (some 1)))) := fun _ => rfl
  have e4 : ∀ hh : Hh, binop .add hh (.v (chD one)) (.v (.tup (cutD (one.map pairD) none (some 1)))) = some (.v (.tup (one.map pairD ++ cutD (one.map pairD) none (some 1)))) := fun hh => by
    refine add_tup ?_
    have := (cut_sub (xs := one.map pairD) (lo := none) (hi := some 1)).length_le
    rw [List.length_map] at this
    rw [List.length_map]; omega
  refine q_cons <| q_asg <| q_lst <| q_escons <| q_var rfl <| q_escons <| q_bi <| q_rscons <| q_var rfl <| q_rsnil ⟨_, _, e1 _, ?_⟩
  refine q_escons <| q_rev <| q_var rfl ⟨_, e2 _, ?_⟩
  refine q_escons <| q_bin <| q_var rfl <| q_sl <| q_var rfl <| q_onone <| q_osome <| q_int ⟨_, rfl, _, e3 _, _, e4 _, ?_⟩
  refine q_escons <| q_tup <| q_esnil ⟨rfl, ?_⟩
  refine q_escons <| q_non ?_
  refine q_escons <| q_tup <| q_escons <| q_tup <| q_escons <| q_var rfl <| q_escons <| q_int <| q_esnil ⟨rfl, q_esnil ⟨rfl, ?_⟩⟩
  refine q_escons <| q_tup <| q_escons <| q_tup <| q_escons <| q_var rfl <| q_escons <| q_int <| q_esnil ⟨rfl, q_esnil ⟨rfl, ?_⟩⟩
  refine q_escons <| q_tup <| q_escons <| q_tup <| q_escons <| q_var rfl <| q_escons <| q_bl <| q_esnil ⟨rfl, q_esnil ⟨rfl, ?_⟩⟩
  refine q_esnil ⟨rfl, _, rfl, ?_⟩
  show SsQ (callN fns (k + 8)) _ [x0, some (.ref s), x2, some (famD m F), some (.int z), some (.int far), x6, x7, some (chD (told (sumA one other t))), y9, y10, y11, some (lotD l0), some (.ref (h1 ++ [Cell.lst (one.map pairD)]).length), x14, some (chD one), some (chD other), some (.int t), some (chD (told (bordA one))), y19, y20, x21, x22] (h1 ++ [Cell.lst (one.map pairD)] ++ [Cell.lst (V1L one h1.length l0)]) _
  have k1 : look (h1 ++ [Cell.lst (one.map pairD)] ++ [Cell.lst (V1L one h1.length l0)]) h1.length = some (.lst (one.map pairD)) := look_app last_look
  have k2 : look (h1 ++ [Cell.lst (one.map pairD)] ++ [Cell.lst (V1L one h1.length l0)]) (h1 ++ [Cell.lst (one.map pairD)]).length = some (.lst (V1L one h1.length l0)) := last_look
  have hn13 : h1.length < (h1 ++ [Cell.lst (one.map pairD)]).length := by simp
  have S2 : Src (h1 ++ [Cell.lst (one.map pairD)] ++ [Cell.lst (V1L one h1.length l0)]) s c := S1.app.app
  generalize (h1 ++ [Cell.lst (one.map pairD)]).length = n13 at k2 hn13 ⊢
  generalize h1 ++ [Cell.lst (one.map pairD)] ++ [Cell.lst (V1L one h1.length l0)] = h2 at k1 k2 S2 ⊢
  generalize h1.length = r1 at k1 k2 hn13 hs1 hc1 ⊢
  have f1 : ∀ hh : Hh, bltn .list hh [.v (lotD l0)] = some (.f (l0.map D.int), hh) := fun _ => rfl
  have f2 : ∀ hh : Hh, binop .add hh (.v (lotD l0)) (.v (.tup [.int m])) = some (.v (.tup (l0.map D.int ++ [.int m]))) := fun hh => add_tup (by simp; omega)
  have f3 : ∀ hh : Hh, item hh (.v (famD m F)) (.v (.int 0)) = some (.int m) := fun _ => rfl
  obtain ⟨hs2, hc2⟩ := S2.lt
  have hr2 : h2.length ≠ s ∧ h2.length ≠ c := by omega
  have f4 : binop .add (h2 ++ [Cell.lst (l0.map D.int)]) (.v (.ref n13)) (.f (V2L m F h2.length l0 (told (bordA one)))) = some (.f (V1L one r1 l0 ++ V2L m F h2.length l0 (told (bordA one)))) := by
    simp only [binop, lstOf, look_app k2]; rfl
  refine q_cons <| q_asg <| q_bin <| q_var rfl <| q_lst <| q_escons <| q_tup <| q_escons <| q_tup <| q_escons <| q_bi <| q_rscons <| q_var rfl <| q_rsnil ⟨_, _, f1 _, q_escons <| q_int <| q_esnil ⟨rfl, q_esnil ⟨rfl, ?_⟩⟩⟩
  refine q_escons <| q_tup <| q_escons <| q_tup <| q_escons <| q_var rfl <| q_esnil ⟨rfl, q_esnil ⟨rfl, ?_⟩⟩
  refine q_escons <| q_tup <| q_escons <| q_tup <| q_escons <| q_bin <| q_var rfl <| q_tup <| q_escons <| q_ix <| q_var rfl <| q_int ⟨_, f3 _, q_esnil ⟨rfl, _, f2 _, q_escons <| q_int <| q_esnil ⟨rfl, q_esnil ⟨rfl, ?_⟩⟩⟩⟩
  refine q_escons <| q_var rfl <| q_escons <| q_int <| q_escons <| q_var rfl <| q_esnil ⟨rfl, _, f4, _, rfl, ?_⟩
  show SsQ (callN fns (k + 8)) _ [x0, some (.ref s), x2, some (famD m F), some (.int z), some (.int far), x6, x7, some (chD (told (sumA one other t))), y9, y10, y11, some (lotD l0), some (.ref (h2 ++ [Cell.lst (l0.map D.int)]).length), x14, some (chD one), some (chD other), some (.int t), some (chD (told (bordA one))), y19, y20, x21, x22] (h2 ++ [Cell.lst (l0.map D.int)] ++ [Cell.lst (V1L one r1 l0 ++ V2L m F h2.length l0 (told (bordA one)))]) _
  have k3 : look (h2 ++ [Cell.lst (l0.map D.int)] ++ [Cell.lst (V1L one r1 l0 ++ V2L m F h2.length l0 (told (bordA one)))]) h2.length = some (.lst (l0.map D.int)) := look_app last_look
  have k4 : look (h2 ++ [Cell.lst (l0.map D.int)] ++ [Cell.lst (V1L one r1 l0 ++ V2L m F h2.length l0 (told (bordA one)))]) (h2 ++ [Cell.lst (l0.map D.int)]).length = some (.lst (V1L one r1 l0 ++ V2L m F h2.length l0 (told (bordA one)))) := last_look
  have k5 : look (h2 ++ [Cell.lst (l0.map D.int)] ++ [Cell.lst (V1L one r1 l0 ++ V2L m F h2.length l0 (told (bordA one)))]) r1 = some (.lst (one.map pairD)) := look_app (look_app k1)
  have hn3 : s < (h2 ++ [Cell.lst (l0.map D.int)]).length ∧ c < (h2 ++ [Cell.lst (l0.map D.int)]).length := by simp; omega
  have S3 : Src (h2 ++ [Cell.lst (l0.map D.int)] ++ [Cell.lst (V1L one r1 l0 ++ V2L m F h2.length l0 (told (bordA one)))]) s c := S2.app.app
  generalize (h2 ++ [Cell.lst (l0.map D.int)]).length = nv at k4 hn3 ⊢
  generalize h2 ++ [Cell.lst (l0.map D.int)] ++ [Cell.lst (V1L one r1 l0 ++ V2L m F h2.length l0 (told (bordA one)))] = h3 at k3 k4 k5 S3 ⊢
  generalize h2.length = r2 at hr2 k3 k4 ⊢
  have okv : ∀ d ∈ V1L one r1 l0 ++ V2L m F r2 l0 (told (bordA one)), OK s c h3 d := fun d hd => by
    rcases List.mem_append.mp hd with hd | hd
    · exact v1_ok o1 h07.1 h07.2 k5 (by omega) (by omega) d hd
    · exact v2_ok g bg h07.1 h07.2 k3 hr2.1 hr2.2 d hd
  have vlen : (V1L one r1 l0 ++ V2L m F r2 l0 (told (bordA one))).length = 15 := rfl
  generalize V1L one r1 l0 ++ V2L m F r2 l0 (told (bordA one)) = VV at k4 okv vlen
  -- bent ones
  have hsp1 : sp 1000000000 (chD one) = true := (o1.g.mono (by decide) (Nat.le_refl _)).sp (by decide)
  have hdp1 := depth_ch one
  have hbk1 := o1.g.bulk
  have hrng : rangeOf [.v (.int 4)] = some [.int 0, .int 1, .int 2, .int 3] := rfl
  obtain ⟨ds, h4, e5, okb, lenb, G4, S4⟩ := lc_by (test := fun ρ h => evT (callN fns (k + 8)) none ρ h) (elt := fun ρ h => asD (ev (callN fns (k + 8)) (.call 16 [(.var 1), (.var 15)]) ρ h)) (tg := .nm 22)
    (w := ⟨[.int 0, .int 1, .int 2, .int 3], none, none⟩) (ρ := wipeR [x0, some (.ref s), x2, some (famD m F), some (.int z), some (.int far), x6, x7, some (chD (told (sumA one other t))), y9, y10, y11, some (lotD l0), some (.ref nv), x14, some (chD one), some (chD other), some (.int t), some (chD (told (bordA one))), y19, y20, x21, x22] [("turn", 22)])
    (fun done acc hh => (∀ d ∈ acc, OK s c hh d) ∧ acc.length = done.length ∧ Grow s c h3 hh ∧ Src hh s c) [.int 0, .int 1, .int 2, .int 3] [] [] h3 ⟨fun d hd => (nomatch hd), rfl, .refl, S3⟩ (by simp) (fun _ _ _ _ => rfl) (by
      rintro d done rest acc hh hd ⟨ha, hl, G, SS⟩
      have hdi : ∃ i, d = .int i := by
        have : d ∈ [D.int 0, D.int 1, D.int 2, D.int 3] := by rw [List.nil_append] at hd; rw [hd]; simp
        simp only [List.mem_cons, List.not_mem_nil, or_false] at this
        rcases this with rfl | rfl | rfl | rfl <;> exact ⟨_, rfl⟩
      obtain ⟨i, rfl⟩ := hdi
      refine ⟨_, rfl, true, _, rfl, fun _ => ?_, fun hz => nomatch hz⟩
      have : EQ (callN fns (k + 8)) (.call 16 [(.var 1), (.var 15)]) [x0, some (.ref s), x2, some (famD m F), some (.int z), some (.int far), x6, x7, some (chD (told (sumA one other t))), y9, y10, y11, some (lotD l0), some (.ref nv), x14, some (chD one), some (chD other), some (.int t), some (chD (told (bordA one))), y19, y20, x21, some (.int i)] hh fun r h5 => ∃ d, r = .v d ∧ OK s c h5 d ∧ Grow s c hh h5 ∧ Src h5 s c := by
        refine q_call <| q_escons <| q_var rfl <| q_escons <| q_var rfl <| q_esnil ((bent16 (k + 1) s c hh (chD one) SS hsp1 hdp1 (by omega)).mono ?_)
        rintro d h5 ⟨hB, G5, S5⟩
        exact ⟨d, rfl, hB.le (by decide) (by omega), G5, S5⟩
      obtain ⟨r, h5, e5, d, rfl, hB, G5, S5⟩ := this
      refine ⟨d, h5, ?_, fun q hq => ?_, by simp [hl], G.trans G5, S5⟩
      · show asD (ev _ _ [x0, some (.ref s), x2, some (famD m F), some (.int z), some (.int far), x6, x7, some (chD (told (sumA one other t))), y9, y10, y11, some (lotD l0), some (.ref nv), x14, some (chD one), some (chD other), some (.int t), some (chD (told (bordA one))), y19, y20, x21, some (.int i)] _) = _
        rw [e5]; rfl
      · rcases List.mem_append.mp hq with hq | hq
        · exact (ha q hq).grow G5
        · rw [List.mem_singleton.mp hq]; exact hB)
  have k6 : look h4 nv = some (.lst VV) := G4.keep _ _ k4 (by omega) (by omega)
  have f5 : binop .add h4 (.v (.ref nv)) (.f ds) = some (.f (VV ++ ds)) := by
    simp only [binop, lstOf, k6]
    rw [if_pos]
    have : ds.length = 4 := lenb
    exact decide_eq_true (by omega)
  refine q_cons <| q_for <| q_wof <| q_bin <| q_var rfl <| q_lc <| q_wrange <| q_rscons <| q_int <| q_rsnil ⟨_, hrng, _, _, e5, _, f5, _, rfl, ?_⟩
  have okall : ∀ d ∈ VV ++ ds, OK s c h4 d := fun d hd => by
    rcases List.mem_append.mp hd with hd | hd
    · exact (okv d hd).grow G4
    · exact okb d hd
  refine for_by (fun done ρ hh => (∃ y14 y21, ρ = [x0, some (.ref s), x2, some (famD m F), some (.int z), some (.int far), x6, x7, some (chD (told (sumA one other t))), y9, y10, y11, some (lotD l0), some (.ref nv), y14, some (chD one), some (chD other), some (.int t), some (chD (told (bordA one))), y19, y20, y21, x22]) ∧ ∃ gg, hh = h4 ++ gg) (VV ++ ds) [] _ _ ⟨⟨_, _, rfl⟩, [], (List.append_nil _).symm⟩ (fun _ _ _ _ => rfl) ?_ ?_
  · rintro d done rest ρ hh hd ⟨⟨y14, y21, rfl⟩, gg, rfl⟩
    refine ⟨_, rfl, ?_⟩
    have hdm : d ∈ VV ++ ds := by rw [List.nil_append] at hd; rw [hd]; simp
    obtain ⟨o, eo, y21', g5, rfl⟩ := judge_ok (k := k + 5) (h := h4 ++ gg) (s := s) (c := c) (m := m) (z := z) (t := t) (far := far) (F := F) (one := one) (other := other) (x0 := x0) (x2 := x2) (x6 := x6) (x7 := x7) (y9 := y9) (y10 := y10) (y11 := y11) (y19 := y19) (y20 := y20) (x22 := x22) (l0 := l0) (n13 := nv) (y21 := y21) ((okall d hdm).grow .app)
    exact ⟨_, eo, ⟨_, _, rfl⟩, gg ++ g5, List.append_assoc _ _ _⟩
  · rintro ρ hh ⟨⟨y14, y21, rfl⟩, gg, rfl⟩
    exact q_nil ⟨_, _, _, _, _, rfl, S4.app⟩
end
end Pk86

set_option linter.all false
set_option maxRecDepth 100000
set_option autoImplicit false
/-! L86e: the law. -/
namespace Pk86
open PySem Co
section
variable {k s c : Nat} {h : Hh} {m z t mx i : Int} {far : Int} {F : List Lot} {x0 x2 x3 x4 x5 x6 x7 x8 x9 x10 x11 x12 x13 x14 x15 x16 x17 x18 x19 x20 x21 x22 : Option D}
theorem ex_of {cl : Call} {b : List S} {ρ : Rho} {h : Hh} {P : Out → Prop} (q : SsQ cl b ρ h P) : ∃ o, (fun ρ h => exs cl b ρ h) ρ h = some o ∧ P o := q
theorem inner_ok (g : GoodF m F) (f0 : 0 ≤ far) (f1 : far ≤ 100000) (S : Src h s c) :
    SsQ (callN fns (k + 8)) (inA ++ (inB ++ (inC ++ inD))) [x0, some (.ref s), x2, some (famD m F), some (.int z), some (.int far), some (.int mx), some (.str (py (famD m F)).shown), x8, x9, x10, x11, x12, x13, x14, x15, x16, x17, x18, x19, x20, x21, x22] h fun o => ∃ y4 y8 y9 y10 y11 y12 y13 y14 y15 y16 y17 y18 y19 y20 y21 y22 h', o = .nx [x0, some (.ref s), x2, some (famD m F), y4, some (.int far), some (.int mx), some (.str (py (famD m F)).shown), y8, y9, y10, y11, y12, y13, y14, y15, y16, y17, y18, y19, y20, y21, y22] h' ∧ Src h' s c := by
  refine q_app ((inA_ok (k := k + 6) g f0 f1 S).mono ?_)
  rintro o ⟨one, other, t, h1, rfl, o1, o2, t0, t1, S1⟩
  refine q_app ((inB_ok (k := k + 5) o1 o2 t0 t1 S1).mono ?_)
  rintro o ⟨h2, rfl, S2⟩
  refine q_app ((inC_ok (k := k + 4) g o1 S2).mono ?_)
  rintro o ⟨y9, y10, y11, y19, y20, h3, rfl, S3⟩
  refine (inD_ok (k := k) g o1 S3).mono ?_
  rintro o ⟨y12, y13, y14, y21, h4, rfl, S4⟩
  exact ⟨_, _, _, _, _, _, _, _, _, _, _, _, _, _, _, _, _, rfl, S4⟩
theorem max_ok : ∀ (ls : List Int) (x : Int), (0 ≤ x ∧ x ≤ 7) → (∀ y ∈ ls, 0 ≤ y ∧ y ≤ 7) → 0 ≤ ls.foldl max x ∧ ls.foldl max x ≤ 7
  | [], x, h, _ => h
  | y :: ls, x, h, hs => by
    have h1 := hs y List.mem_cons_self
    exact max_ok ls (max x y) (by omega) fun q hq => hs q (List.mem_cons_of_mem _ hq)
theorem ne_lots {F : List Lot} : cmpop .ne h (.v (.tup (F.map lotD))) (.v (.tup [])) = some (!decide (F = [])) := by
  have h1 : nat? (.tup (F.map lotD)) = true := by rw [nat?]; exact nats_lots F
  have h2 := deps_lots F
  have := eq_nat (h := h) (b := .tup []) h1 rfl (by simp only [py, PyData.depth]; omega) (by simp [py, pys, PyData.depth, PyData.depthAll])
  have e : decide (D.tup (F.map lotD) = .tup []) = decide (F = []) := by
    rw [decide_eq_decide]
    constructor
    · intro q; injection q with q; simpa using q
    · intro q; rw [q]; rfl
  rw [e] at this
  simp only [cmpop] at this ⊢
  rw [this]; rfl
def Most (i mo sz : Int) : Prop := (∀ h : Hh, item h (.f [.int 3, .int 5, .int 6, .int 7]) (.v (.int i)) = some (.int mo)) ∧ (∀ h : Hh, item h (.f [.int 3, .int 3, .int 4, .int 4]) (.v (.int i)) = some (.int sz)) ∧ 0 ≤ mo ∧ mo ≤ 7 ∧ 0 ≤ sz ∧ sz ≤ 7
theorem most_ok {j : Nat} (hj : j < 4) : ∃ mo sz, Most (j : Int) mo sz := by
  match j, hj with
  | 0, _ => exact ⟨3, 3, fun _ => rfl, fun _ => rfl, by decide, by decide, by decide, by decide⟩
  | 1, _ => exact ⟨5, 3, fun _ => rfl, fun _ => rfl, by decide, by decide, by decide, by decide⟩
  | 2, _ => exact ⟨6, 4, fun _ => rfl, fun _ => rfl, by decide, by decide, by decide, by decide⟩
  | 3, _ => exact ⟨7, 4, fun _ => rfl, fun _ => rfl, by decide, by decide, by decide, by decide⟩
theorem lapA_ok {j : Nat} (hj : j < 4) (S : Src h s c) :
    SsQ (callN fns (k + 8)) lapA [x0, some (.ref s), some (.int (j : Nat)), x3, x4, x5, x6, x7, x8, x9, x10, x11, x12, x13, x14, x15, x16, x17, x18, x19, x20, x21, x22] h fun o => ∃ (m : Int) (F : List Lot) (far mx : Int) (h' : Hh), o = .nx [x0, some (.ref s), some (.int (j : Nat)), some (famD m F), x4, some (.int far), some (.int mx), some (.str (py (famD m F)).shown), x8, x9, x10, x11, x12, x13, x14, x15, x16, x17, x18, x19, x20, x21, x22] h' ∧ GoodF m F ∧ 0 ≤ far ∧ far ≤ 100000 ∧ 0 ≤ mx ∧ mx ≤ 7 ∧ Src h' s c := by
  obtain ⟨mo, sz, e1, e2, mo0, mo1, sz0, sz1⟩ := most_ok hj
  refine q_cons <| q_par <| q_escons <| q_call <| q_escons <| q_var rfl <| q_escons <| q_ix <| q_lst <| q_escons <| q_int <| q_escons <| q_int <| q_escons <| q_int <| q_escons <| q_int <| q_esnil ⟨rfl, q_var rfl ⟨_, e1 _, ?_⟩⟩
  refine q_escons <| q_ix <| q_lst <| q_escons <| q_int <| q_escons <| q_int <| q_escons <| q_int <| q_escons <| q_int <| q_esnil ⟨rfl, q_var rfl ⟨_, e2 _, q_esnil ((family20 (k + 5) s c h mo sz mo0 mo1 sz0 sz1 S).mono ?_)⟩⟩
  rintro d h1 ⟨m, L, rfl, hm, hs, hL, G1, S1⟩
  have epow : ∀ hh : Hh, binop .pow hh (.v (.int 10)) (.v (.int 5)) = some (.v (.int 100000)) := fun _ => rfl
  refine q_escons <| q_call <| q_escons <| q_var rfl <| q_escons <| q_lst <| q_escons <| q_int <| q_escons <| q_int <| q_escons <| q_bin <| q_int <| q_int ⟨_, epow _, q_esnil ⟨rfl, q_esnil ?_⟩⟩
  obtain ⟨hs1, hc1⟩ := S1.lt
  refine (of_ok (k := k + 6) (ds := [.int 1, .int 4, .int 100000]) pick12 of13 (S1.app (g := [Cell.lst [.int 1, .int 4, .int 100000]])) (fun h' G => seq_keep last_look (by omega) (by omega) G) (by simp) (by simp)).mono ?_
  rintro d h2 ⟨hd, G2, S2⟩
  have hfar : ∃ far : Int, d = .int far ∧ 0 ≤ far ∧ far ≤ 100000 := by
    simp only [List.mem_cons, List.not_mem_nil, or_false] at hd
    rcases hd with rfl | rfl | rfl <;> exact ⟨_, rfl, by decide, by decide⟩
  obtain ⟨far, rfl, f0, f1⟩ := hfar
  refine q_esnil ⟨_, rfl, ?_⟩
  have gF := fam_good hm hs
  have efam : (if madeA L ≠ [] then madeA L else [[]]) = (if madeA L = [] then [[]] else madeA L) := by
    by_cases q : madeA L = [] <;> simp [q]
  -- no family without lots
  refine q_cons <| q_asg <| ?_
  have hite : EQ (callN fns (k + 8)) (.ite (.cmp .ne (.ix (.var 3) (.int 1)) (.tup [])) (.var 3) (.tup [(.ix (.var 3) (.int 0)), (.tup [(.tup [])])])) [x0, some (.ref s), some (.int (j : Nat)), some (famD m (madeA L)), x4, some (.int far), x6, x7, x8, x9, x10, x11, x12, x13, x14, x15, x16, x17, x18, x19, x20, x21, x22] h2 fun r h3 => r = .v (famD m (if madeA L ≠ [] then madeA L else [[]])) ∧ h3 = h2 := by
    refine q_ite <| q_cmp <| q_ix <| q_var rfl <| q_int ⟨_, fam_ix, q_tup <| q_esnil ⟨rfl, _, ne_lots, _, rfl, fun zz => ?_, fun zz => ?_⟩⟩
    · have : madeA L ≠ [] := by simpa using zz
      refine q_var rfl ⟨?_, rfl⟩
      rw [if_pos this]
    · have : madeA L = [] := by simpa using zz
      have f3 : ∀ hh : Hh, item hh (.v (famD m (madeA L))) (.v (.int 0)) = some (.int m) := fun _ => rfl
      refine q_tup <| q_escons <| q_ix <| q_var rfl <| q_int ⟨_, f3 _, q_escons <| q_tup <| q_escons <| q_tup <| q_esnil ⟨rfl, q_esnil ⟨rfl, q_esnil ⟨rfl, ?_, rfl⟩⟩⟩⟩
      rw [if_neg (by simp [this])]
      rfl
  refine hite.mono ?_
  rintro r h3 ⟨rfl, rfl⟩
  refine ⟨_, rfl, ?_⟩
  generalize (if madeA L ≠ [] then madeA L else [[]]) = F at gF ⊢
  -- most and kept
  have hFl := gF.len
  obtain ⟨h4, e4, hq⟩ := lc_fm (test := fun ρ h => evT (callN fns (k + 8)) none ρ h) (elt := fun ρ h => asD (ev (callN fns (k + 8)) (.bi .len [(.var 10)]) ρ h)) (tg := .nm 10)
    (w := ⟨F.map lotD, none, none⟩) (ρ := wipeR [x0, some (.ref s), some (.int (j : Nat)), some (famD m F), x4, some (.int far), x6, x7, x8, x9, x10, x11, x12, x13, x14, x15, x16, x17, x18, x19, x20, x21, x22] [("lot", 10)]) lotD (fun l => some (.int (l.length : Nat))) (fun hh => hh = h3) F [] h3 rfl (fun _ _ => rfl) (by simp; omega) (by
      rintro l hl hh rfl
      refine ⟨_, rfl, true, _, rfl, fun _ => ⟨.int (l.length : Nat), hh, ?_, rfl, rfl⟩, fun hz => nomatch hz⟩
      have : EQ (callN fns (k + 8)) (.bi .len [.var 10]) [x0, some (.ref s), some (.int (j : Nat)), some (famD m F), x4, some (.int far), x6, x7, x8, x9, some (lotD l), x11, x12, x13, x14, x15, x16, x17, x18, x19, x20, x21, x22] hh fun r h5 => r = .v (.int (l.length : Nat)) ∧ h5 = hh :=
        q_bi <| q_rscons <| q_var rfl <| q_rsnil ⟨_, _, len_lot, rfl, rfl⟩
      obtain ⟨r, h5, e5, rfl, rfl⟩ := this
      show asD (ev _ _ [x0, some (.ref s), some (.int (j : Nat)), some (famD m F), x4, some (.int far), x6, x7, x8, x9, some (lotD l), x11, x12, x13, x14, x15, x16, x17, x18, x19, x20, x21, x22] _) = _
      rw [e5]; rfl)
  rw [hq, List.nil_append, fm_some (fun l : Lot => D.int (l.length : Nat)), show (F.map fun l => D.int (l.length : Nat)) = (F.map fun l => ((l.length : Nat) : Int)).map D.int by rw [List.map_map]; rfl] at e4
  have hmx : ∃ mx : Int, bltn .max h3 [.f ((F.map fun l => ((l.length : Nat) : Int)).map D.int)] = some (.v (.int mx), h3) ∧ 0 ≤ mx ∧ mx ≤ 7 := by
    have hin : ∀ y ∈ F.map (fun l => ((l.length : Nat) : Int)), 0 ≤ y ∧ y ≤ 7 := fun y hy => by
      obtain ⟨l, hl, rfl⟩ := List.mem_map.mp hy
      have := (seven_in (gF.sub l hl)).1
      omega
    have hne : F.map (fun l => ((l.length : Nat) : Int)) ≠ [] := by simpa using gF.ne
    cases q : F.map (fun l => ((l.length : Nat) : Int)) with
    | nil => exact absurd q hne
    | cons a r =>
      rw [q] at hin
      refine ⟨r.foldl max a, ?_, max_ok r a (hin a List.mem_cons_self) fun y hy => hin y (List.mem_cons_of_mem _ hy)⟩
      show (match ints1 h3 (.f ((a :: r).map D.int)) with | some ns => (maxI ns).map fun m => (Res.v (.int m), h3) | none => none) = _
      simp only [ints1, Co.listOf, ints_ok, maxI, Option.map_some]
  obtain ⟨mx, emx, mx0, mx1⟩ := hmx
  have frep : ∀ hh : Hh, bltn .repr hh [.v (famD m F)] = some (.v (.str (py (famD m F)).shown), hh) := fun hh => v_repr (N := 100) (by decide) (fam_sp (by decide) gF) (by have := fam_depth (m := m) (F := F); omega) (by have := fam_bulk gF; omega)
  refine q_cons <| q_par <| q_escons <| q_bi <| q_rscons <| q_lc <| q_wof <| q_ix <| q_var rfl <| q_int ⟨_, fam_ix, _, rfl, _, _, e4, q_rsnil ⟨_, _, emx, ?_⟩⟩
  refine q_escons <| q_bi <| q_rscons <| q_var rfl <| q_rsnil ⟨_, _, frep _, q_esnil ⟨_, rfl, q_nil ?_⟩⟩
  exact ⟨m, F, far, mx, _, rfl, gF, f0, f1, mx0, mx1, S2⟩
set_option maxHeartbeats 0 in
theorem lap_ok {j : Nat} (hj : j < 4) (S : Src h s c) :
    SsQ (callN fns (k + 8)) (lapA ++ [lapFor, lapEnd]) [x0, some (.ref s), some (.int (j : Nat)), x3, x4, x5, x6, x7, x8, x9, x10, x11, x12, x13, x14, x15, x16, x17, x18, x19, x20, x21, x22] h fun o => ∃ y2 y3 y4 y5 y6 y7 y8 y9 y10 y11 y12 y13 y14 y15 y16 y17 y18 y19 y20 y21 y22 h', o = .nx [x0, some (.ref s), y2, y3, y4, y5, y6, y7, y8, y9, y10, y11, y12, y13, y14, y15, y16, y17, y18, y19, y20, y21, y22] h' ∧ Src h' s c := by
  refine q_app ((lapA_ok (k := k) hj S).mono ?_)
  rintro o ⟨m, F, far, mx, h1, rfl, gF, f0, f1, mx0, mx1, S1⟩
  have hr : rangeOf [.v (.int (mx + 1))] = some ((List.range (mx + 1).toNat).map fun k : Nat => D.int (k : Int)) := by
    have := range_nat (n := (mx + 1).toNat) (by omega)
    rwa [show (((mx + 1).toNat : Nat) : Int) = mx + 1 by omega] at this
  obtain ⟨ρ', h2, e2, ⟨y4, y8, y9, y10, y11, y12, y13, y14, y15, y16, y17, y18, y19, y20, y21, y22, rfl⟩, S2⟩ := for_ls (body := fun ρ h => exs (callN fns (k + 8)) (inA ++ (inB ++ (inC ++ inD))) ρ h) (tg := .nm 4) (w := ⟨(List.range (mx + 1).toNat).map fun k : Nat => D.int (k : Int), none, none⟩) (fun k : Nat => D.int (k : Int))
    (fun done ρ hh => (∃ y4 y8 y9 y10 y11 y12 y13 y14 y15 y16 y17 y18 y19 y20 y21 y22, ρ = [x0, some (.ref s), some (.int (j : Nat)), some (famD m F), y4, some (.int far), some (.int mx), some (.str (py (famD m F)).shown), y8, y9, y10, y11, y12, y13, y14, y15, y16, y17, y18, y19, y20, y21, y22]) ∧ Src hh s c) (List.range (mx + 1).toNat) [] _ h1 ⟨⟨_, _, _, _, _, _, _, _, _, _, _, _, _, _, _, _, rfl⟩, S1⟩ (fun _ _ _ _ => rfl) (by
      rintro ls1 z ls2 hls ρ hh ⟨⟨y4, y8, y9, y10, y11, y12, y13, y14, y15, y16, y17, y18, y19, y20, y21, y22, rfl⟩, SS⟩
      refine ⟨_, rfl, ?_⟩
      obtain ⟨o, eo, v4, v8, v9, v10, v11, v12, v13, v14, v15, v16, v17, v18, v19, v20, v21, v22, h5, rfl, S5⟩ := inner_ok (k := k) (m := m) (F := F) (far := far) (mx := mx) (z := (z : Int)) (x0 := x0) (x2 := some (.int (j : Nat))) (x8 := y8) (x9 := y9) (x10 := y10) (x11 := y11) (x12 := y12) (x13 := y13) (x14 := y14) (x15 := y15) (x16 := y16) (x17 := y17) (x18 := y18) (x19 := y19) (x20 := y20) (x21 := y21) (x22 := y22) gF f0 f1 SS
      exact ⟨_, eo, _, _, rfl, ⟨_, _, _, _, _, _, _, _, _, _, _, _, _, _, _, _, rfl⟩, S5⟩)
  refine q_cons <| q_for <| q_wrange <| q_rscons <| q_bin <| q_var rfl <| q_int ⟨_, rfl, q_rsnil ⟨_, hr, _, e2, ?_⟩⟩
  have frep : ∀ hh : Hh, bltn .repr hh [.v (famD m F)] = some (.v (.str (py (famD m F)).shown), hh) := fun hh => v_repr (N := 100) (by decide) (fam_sp (by decide) gF) (by have := fam_depth (m := m) (F := F); omega) (by have := fam_bulk gF; omega)
  refine q_cons <| q_iff <| q_cmp <| q_bi <| q_rscons <| q_var rfl <| q_rsnil ⟨_, _, frep _, q_var rfl ⟨_, ne_shown (N := 100) (fam_sp (by decide) gF), rfl, q_nil <| q_nil ?_⟩⟩
  exact ⟨_, _, _, _, _, _, _, _, _, _, _, _, _, _, _, _, _, _, _, _, _, _, rfl, S2⟩
theorem last_border : told (bordA [([0, 1, 2], 2)]) = [([0, 1], 2), ([0, 2], -2), ([1, 2], 2)] := by
  have hs : keysT (bordA [([0, 1, 2], 2)]) = [[0, 1], [0, 2], [1, 2]] := by
    refine List.Perm.eq_of_pairwise (le := fun a b => lotLe a b = true) (fun a b _ _ => lotLe_anti) (List.pairwise_mergeSort (fun a b c => lotLe_trans a b c) lotLe_total _) (by decide) ?_
    exact (keys_perm _).trans (by decide +kernel)
  rw [told_eq, hs]
  decide +kernel
set_option maxHeartbeats 0 in
theorem law_ok (ns : List Int) (hn : ns.length ≤ 63) : CQ (callN fns (k + 9)) 29 [.fl (ns.map D.int)] [] fun d _ => d = .bl true := by
  refine q_fn (fn := c_law) rfl rfl ?_
  show SsQ (callN fns (k + 8)) lawBody [some (.fl (ns.map D.int)), none, none, none, none, none, none, none, none, none, none, none, none, none, none, none, none, none, none, none, none, none, none] [] _
  refine q_cons <| q_asg <| q_call <| q_escons <| q_var rfl <| q_esnil ((source_ok (k := k + 7) source11 hn).mono ?_)
  rintro d h1 ⟨s, c, rfl, S1, _, _, _⟩
  refine ⟨_, rfl, ?_⟩
  have hr : rangeOf [.v (.int 4)] = some ((List.range 4).map fun k : Nat => D.int (k : Int)) := range_nat (n := 4) (by decide)
  obtain ⟨ρ', h2, e2, ⟨y2, y3, y4, y5, y6, y7, y8, y9, y10, y11, y12, y13, y14, y15, y16, y17, y18, y19, y20, y21, y22, rfl⟩, S2⟩ := for_ls (body := fun ρ h => exs (callN fns (k + 8)) (lapA ++ [lapFor, lapEnd]) ρ h) (tg := .nm 2) (w := ⟨(List.range 4).map fun k : Nat => D.int (k : Int), none, none⟩) (fun k : Nat => D.int (k : Int))
    (fun done ρ hh => (∃ y2 y3 y4 y5 y6 y7 y8 y9 y10 y11 y12 y13 y14 y15 y16 y17 y18 y19 y20 y21 y22, ρ = [some (.fl (ns.map D.int)), some (.ref s), y2, y3, y4, y5, y6, y7, y8, y9, y10, y11, y12, y13, y14, y15, y16, y17, y18, y19, y20, y21, y22]) ∧ Src hh s c) (List.range 4) [] _ h1 ⟨⟨_, _, _, _, _, _, _, _, _, _, _, _, _, _, _, _, _, _, _, _, _, rfl⟩, S1⟩ (fun _ _ _ _ => rfl) (by
      rintro ls1 j ls2 hls ρ hh ⟨⟨y2, y3, y4, y5, y6, y7, y8, y9, y10, y11, y12, y13, y14, y15, y16, y17, y18, y19, y20, y21, y22, rfl⟩, SS⟩
      rw [List.nil_append] at hls
      have hj : j < 4 := List.mem_range.mp (by rw [hls]; simp)
      refine ⟨_, rfl, ?_⟩
      obtain ⟨o, eo, w2, w3, w4, w5, w6, w7, w8, w9, w10, w11, w12, w13, w14, w15, w16, w17, w18, w19, w20, w21, w22, h5, rfl, S5⟩ := lap_ok (k := k) (x0 := some (.fl (ns.map D.int))) (x3 := y3) (x4 := y4) (x5 := y5) (x6 := y6) (x7 := y7) (x8 := y8) (x9 := y9) (x10 := y10) (x11 := y11) (x12 := y12) (x13 := y13) (x14 := y14) (x15 := y15) (x16 := y16) (x17 := y17) (x18 := y18) (x19 := y19) (x20 := y20) (x21 := y21) (x22 := y22) hj SS
      exact ⟨_, eo, _, _, rfl, ⟨_, _, _, _, _, _, _, _, _, _, _, _, _, _, _, _, _, _, _, _, _, rfl⟩, S5⟩)
  refine q_cons <| q_for <| q_wrange <| q_rscons <| q_int <| q_rsnil ⟨_, hr, _, e2, ?_⟩
  have hc1 : ∀ p ∈ [(([0, 1, 2], 2) : Lot × Int)], p.1.length ≤ 3 := by decide
  refine q_cons <| q_ret <| q_cmp <| q_call <| q_escons <| q_tup <| q_escons <| q_tup <| q_escons <| q_tup <| q_escons <| q_int <| q_escons <| q_int <| q_escons <| q_int <| q_esnil ⟨rfl, q_escons <| q_int <| q_esnil ⟨rfl, q_esnil ⟨rfl, q_esnil ((bord7 (k + 6) 3 h2 [([0, 1, 2], 2)] hc1 (by decide)).mono ?_)⟩⟩⟩
  rintro d h3 ⟨rfl, g3, rfl⟩
  refine q_tup <| q_escons <| q_tup <| q_escons <| q_tup <| q_escons <| q_int <| q_escons <| q_int <| q_esnil ⟨rfl, q_escons <| q_int <| q_esnil ⟨rfl, ?_⟩⟩
  refine q_escons <| q_tup <| q_escons <| q_tup <| q_escons <| q_int <| q_escons <| q_int <| q_esnil ⟨rfl, q_escons <| q_neg <| q_int ⟨_, rfl, q_esnil ⟨rfl, ?_⟩⟩⟩
  refine q_escons <| q_tup <| q_escons <| q_tup <| q_escons <| q_int <| q_escons <| q_int <| q_esnil ⟨rfl, q_escons <| q_int <| q_esnil ⟨rfl, ?_⟩⟩
  refine q_esnil ⟨rfl, _, eq_ch (B := [([0, 1], 2), ([0, 2], -2), ([1, 2], 2)]), ?_⟩
  show D.bl _ = _
  rw [last_border]; rfl
theorem law_true (ns : List Int) (hn : ns.length ≤ 63) : ∃ h, callN fns 40 29 [.fl (ns.map D.int)] [] = some (.bl true, h) := by
  obtain ⟨d, h, e, rfl⟩ := law_ok (k := 31) ns hn
  exact ⟨h, e⟩
end
end Pk86

namespace Pk86
open PySem Co
def topAt (i : Nat) : Stmt := PySem.Challenge.pw_topplingsteps_k86_whole_chains_and_borde.main.body.getD i (.Pass ⟨0, 0, 0, 0⟩)
def names : List Str := fns.map (·.name)
theorem k0 : chkD names c_is_thing (topAt 1) = true := by decide +kernel
theorem b0 : BndOk (topAt 1) "is_thing" ["value", "many"] := fun _ _ _ _ _ _ us hl => match us, hl with | [_, _], _ => rfl
theorem k1 : chkD names c_is_thing_lot_of (topAt 2) = true := by decide +kernel
theorem b1 : BndOk (topAt 2) "is_thing_lot_of" ["many", "value"] := fun _ _ _ _ _ _ us hl => match us, hl with | [_, _], _ => rfl
theorem k2 : chkD names c_sides_of (topAt 3) = true := by decide +kernel
theorem b2 : BndOk (topAt 3) "sides_of" ["lot"] := fun _ _ _ _ _ _ us hl => match us, hl with | [_], _ => rfl
theorem k3 : chkD names c_lots_of_size (topAt 4) = true := by decide +kernel
theorem b3 : BndOk (topAt 4) "lots_of_size" ["family", "size"] := fun _ _ _ _ _ _ us hl => match us, hl with | [_, _], _ => rfl
theorem k4 : chkD names c_told_chain (topAt 5) = true := by decide +kernel
theorem b4 : BndOk (topAt 5) "told_chain" ["numbers"] := fun _ _ _ _ _ _ us hl => match us, hl with | [_], _ => rfl
theorem k5 : chkD names c_is_chain (topAt 6) = true := by decide +kernel
theorem b5 : BndOk (topAt 6) "is_chain" ["family", "size", "value"] := fun _ _ _ _ _ _ us hl => match us, hl with | [_, _, _], _ => rfl
theorem k6 : chkD names c_chain_sum (topAt 7) = true := by decide +kernel
theorem b6 : BndOk (topAt 7) "chain_sum" ["one", "other", "times"] := fun _ _ _ _ _ _ us hl => match us, hl with | [_, _, _], _ => rfl
theorem k7 : chkD names c_border_of (topAt 8) = true := by decide +kernel
theorem b7 : BndOk (topAt 8) "border_of" ["chain"] := fun _ _ _ _ _ _ us hl => match us, hl with | [_], _ => rfl
theorem k8 : chkD names c_is_closed (topAt 9) = true := by decide +kernel
theorem b8 : BndOk (topAt 9) "is_closed" ["chain"] := fun _ _ _ _ _ _ us hl => match us, hl with | [_], _ => rfl
theorem k9 : chkD names c_reading (topAt 10) = true := by decide +kernel
theorem b9 : BndOk (topAt 10) "reading" ["row", "chain"] := fun _ _ _ _ _ _ us hl => match us, hl with | [_, _], _ => rfl
theorem k10 : chkD names c_step_up (topAt 11) = true := by decide +kernel
theorem b10 : BndOk (topAt 11) "step_up" ["family", "size", "row"] := fun _ _ _ _ _ _ us hl => match us, hl with | [_, _, _], _ => rfl
theorem k11 : chkD names c_law_source (topAt 13) = true := by decide +kernel
theorem b11 : BndOk (topAt 13) "_law_source" ["script"] := fun _ _ _ _ _ _ us hl => match us, hl with | [_], _ => rfl
theorem k12 : chkD names c_law_pick (topAt 14) = true := by decide +kernel
theorem b12 : BndOk (topAt 14) "_law_pick" ["source", "many"] := fun _ _ _ _ _ _ us hl => match us, hl with | [_, _], _ => rfl
theorem k13 : chkD names c_law_of (topAt 15) = true := by decide +kernel
theorem b13 : BndOk (topAt 15) "_law_of" ["source", "some"] := fun _ _ _ _ _ _ us hl => match us, hl with | [_, _], _ => rfl
theorem k14 : chkD names c_law_mixed (topAt 16) = true := by decide +kernel
theorem b14 : BndOk (topAt 16) "_law_mixed" ["source", "things"] := fun _ _ _ _ _ _ us hl => match us, hl with | [_, _], _ => rfl
theorem k15 : chkD names c_law_number (topAt 17) = true := by decide +kernel
theorem b15 : BndOk (topAt 17) "_law_number" ["value"] := fun _ _ _ _ _ _ us hl => match us, hl with | [_], _ => rfl
theorem k16 : chkD names c_law_bent (topAt 18) = true := by decide +kernel
theorem b16 : BndOk (topAt 18) "_law_bent" ["source", "value"] := fun _ _ _ _ _ _ us hl => match us, hl with | [_, _], _ => rfl
theorem k17 : chkD names c_law_parts (topAt 19) = true := by decide +kernel
theorem b17 : BndOk (topAt 19) "_law_parts" ["lot"] := fun _ _ _ _ _ _ us hl => match us, hl with | [_], _ => rfl
theorem k18 : chkD names c_law_made (topAt 20) = true := by decide +kernel
theorem b18 : BndOk (topAt 20) "_law_made" ["m", "lots"] := fun _ _ _ _ _ _ us hl => match us, hl with | [_, _], _ => rfl
theorem k19 : chkD names c_law_plane (topAt 21) = true := by decide +kernel
theorem b19 : BndOk (topAt 21) "_law_plane" [] := fun _ _ _ _ _ _ us hl => match us, hl with | [], _ => rfl
theorem k20 : chkD names c_law_family (topAt 22) = true := by decide +kernel
theorem b20 : BndOk (topAt 22) "_law_family" ["source", "most", "size"] := fun _ _ _ _ _ _ us hl => match us, hl with | [_, _, _], _ => rfl
theorem k21 : chkD names c_law_sized (topAt 23) = true := by decide +kernel
theorem b21 : BndOk (topAt 23) "_law_sized" ["family", "k"] := fun _ _ _ _ _ _ us hl => match us, hl with | [_, _], _ => rfl
theorem k22 : chkD names c_law_told (topAt 24) = true := by decide +kernel
theorem b22 : BndOk (topAt 24) "_law_told" ["numbers"] := fun _ _ _ _ _ _ us hl => match us, hl with | [_], _ => rfl
theorem k23 : chkD names c_law_border (topAt 25) = true := by decide +kernel
theorem b23 : BndOk (topAt 25) "_law_border" ["chain"] := fun _ _ _ _ _ _ us hl => match us, hl with | [_], _ => rfl
theorem k24 : chkD names c_law_sum (topAt 26) = true := by decide +kernel
theorem b24 : BndOk (topAt 26) "_law_sum" ["one", "other", "times"] := fun _ _ _ _ _ _ us hl => match us, hl with | [_, _, _], _ => rfl
theorem k25 : chkD names c_law_chain (topAt 27) = true := by decide +kernel
theorem b25 : BndOk (topAt 27) "_law_chain" ["source", "family", "k", "far"] := fun _ _ _ _ _ _ us hl => match us, hl with | [_, _, _, _], _ => rfl
theorem k26 : chkD names c_law_reads (topAt 28) = true := by decide +kernel
theorem b26 : BndOk (topAt 28) "_law_reads" ["row", "chain"] := fun _ _ _ _ _ _ us hl => match us, hl with | [_, _], _ => rfl
theorem k27 : chkD names c_law_is_lot (topAt 29) = true := by decide +kernel
theorem b27 : BndOk (topAt 29) "_law_is_lot" ["m", "value"] := fun _ _ _ _ _ _ us hl => match us, hl with | [_, _], _ => rfl
theorem k28 : chkD names c_law_is_chain (topAt 30) = true := by decide +kernel
theorem b28 : BndOk (topAt 30) "_law_is_chain" ["family", "k", "value"] := fun _ _ _ _ _ _ us hl => match us, hl with | [_, _, _], _ => rfl
theorem k29 : chkD names c_law (topAt 31) = true := by decide +kernel
theorem b29 : BndOk (topAt 31) "law" ["script"] := fun _ _ _ _ _ _ us hl => match us, hl with | [_], _ => rfl
end Pk86
open PySem PySem.W PyProof.Rows
set_option maxHeartbeats 0 in
theorem PySem.Challenge.cw_topplingsteps_k86_whole_chains_and_borde_holds : PySem.Challenge.rw_topplingsteps_k86_whole_chains_and_borde.Holds := by
  w_on; o_law; k_head; (case hw => w_witness2)
  k_fill
  refine Co.walk_core (l := PySem.Challenge.rw_topplingsteps_k86_whole_chains_and_borde) (n := 63) (k := 40) (fns := Pk86.fns) (i := 29) (fn := Pk86.c_law) (x := "script") rfl (by decide) rfl ⟨rfl, by decide, by decide⟩ (fun w h Y => PySem.W.kIn_of Y) rfl rfl rfl ?F (fun ns hl => Pk86.law_true ns hl)
  case F =>
    intro w mg h KX G
    refine ⟨Co.facts_cons ?d0 (Co.facts_cons ?d1 (Co.facts_cons ?d2 (Co.facts_cons ?d3 (Co.facts_cons ?d4 (Co.facts_cons ?d5 (Co.facts_cons ?d6 (Co.facts_cons ?d7 (Co.facts_cons ?d8 (Co.facts_cons ?d9 (Co.facts_cons ?d10 (Co.facts_cons ?d11 (Co.facts_cons ?d12 (Co.facts_cons ?d13 (Co.facts_cons ?d14 (Co.facts_cons ?d15 (Co.facts_cons ?d16 (Co.facts_cons ?d17 (Co.facts_cons ?d18 (Co.facts_cons ?d19 (Co.facts_cons ?d20 (Co.facts_cons ?d21 (Co.facts_cons ?d22 (Co.facts_cons ?d23 (Co.facts_cons ?d24 (Co.facts_cons ?d25 (Co.facts_cons ?d26 (Co.facts_cons ?d27 (Co.facts_cons ?d28 (Co.facts_cons ?d29 (Co.facts_nil)))))))))))))))))))))))))))))), Co.blt_cons KX G ?z0 (Co.blt_cons KX G ?z1 (Co.blt_cons KX G ?z2 (Co.blt_cons KX G ?z3 (Co.blt_cons KX G ?z4 (Co.blt_cons KX G ?z5 (Co.blt_cons KX G ?z6 (Co.blt_cons KX G ?z7 (Co.blt_cons KX G ?z8 (Co.blt_cons KX G ?z9 (Co.blt_cons KX G ?z10 (Co.blt_cons KX G ?z11 (Co.blt_cons KX G ?z12 (Co.blt_cons KX G ?z13 (Co.blt_cons KX G ?z14 (Co.blt_cons KX G ?z15 (Co.blt_cons KX G ?z16 (Co.blt_cons KX G ?z17 (Co.blt_cons KX G ?z18 (Co.blt_nil)))))))))))))))))))⟩
    case d0 => refine' Co.def_in KX G ?a ?l ?c ?k Pk86.k0 Pk86.b0; (case a => k_is); (case l => k_is); (case c => k_is); (case k => k_is)
    case d1 => refine' Co.def_in KX G ?a ?l ?c ?k Pk86.k1 Pk86.b1; (case a => k_is); (case l => k_is); (case c => k_is); (case k => k_is)
    case d2 => refine' Co.def_in KX G ?a ?l ?c ?k Pk86.k2 Pk86.b2; (case a => k_is); (case l => k_is); (case c => k_is); (case k => k_is)
    case d3 => refine' Co.def_in KX G ?a ?l ?c ?k Pk86.k3 Pk86.b3; (case a => k_is); (case l => k_is); (case c => k_is); (case k => k_is)
    case d4 => refine' Co.def_in KX G ?a ?l ?c ?k Pk86.k4 Pk86.b4; (case a => k_is); (case l => k_is); (case c => k_is); (case k => k_is)
    case d5 => refine' Co.def_in KX G ?a ?l ?c ?k Pk86.k5 Pk86.b5; (case a => k_is); (case l => k_is); (case c => k_is); (case k => k_is)
    case d6 => refine' Co.def_in KX G ?a ?l ?c ?k Pk86.k6 Pk86.b6; (case a => k_is); (case l => k_is); (case c => k_is); (case k => k_is)
    case d7 => refine' Co.def_in KX G ?a ?l ?c ?k Pk86.k7 Pk86.b7; (case a => k_is); (case l => k_is); (case c => k_is); (case k => k_is)
    case d8 => refine' Co.def_in KX G ?a ?l ?c ?k Pk86.k8 Pk86.b8; (case a => k_is); (case l => k_is); (case c => k_is); (case k => k_is)
    case d9 => refine' Co.def_in KX G ?a ?l ?c ?k Pk86.k9 Pk86.b9; (case a => k_is); (case l => k_is); (case c => k_is); (case k => k_is)
    case d10 => refine' Co.def_in KX G ?a ?l ?c ?k Pk86.k10 Pk86.b10; (case a => k_is); (case l => k_is); (case c => k_is); (case k => k_is)
    case d11 => refine' Co.def_in KX G ?a ?l ?c ?k Pk86.k11 Pk86.b11; (case a => k_is); (case l => k_is); (case c => k_is); (case k => k_is)
    case d12 => refine' Co.def_in KX G ?a ?l ?c ?k Pk86.k12 Pk86.b12; (case a => k_is); (case l => k_is); (case c => k_is); (case k => k_is)
    case d13 => refine' Co.def_in KX G ?a ?l ?c ?k Pk86.k13 Pk86.b13; (case a => k_is); (case l => k_is); (case c => k_is); (case k => k_is)
    case d14 => refine' Co.def_in KX G ?a ?l ?c ?k Pk86.k14 Pk86.b14; (case a => k_is); (case l => k_is); (case c => k_is); (case k => k_is)
    case d15 => refine' Co.def_in KX G ?a ?l ?c ?k Pk86.k15 Pk86.b15; (case a => k_is); (case l => k_is); (case c => k_is); (case k => k_is)
    case d16 => refine' Co.def_in KX G ?a ?l ?c ?k Pk86.k16 Pk86.b16; (case a => k_is); (case l => k_is); (case c => k_is); (case k => k_is)
    case d17 => refine' Co.def_in KX G ?a ?l ?c ?k Pk86.k17 Pk86.b17; (case a => k_is); (case l => k_is); (case c => k_is); (case k => k_is)
    case d18 => refine' Co.def_in KX G ?a ?l ?c ?k Pk86.k18 Pk86.b18; (case a => k_is); (case l => k_is); (case c => k_is); (case k => k_is)
    case d19 => refine' Co.def_in KX G ?a ?l ?c ?k Pk86.k19 Pk86.b19; (case a => k_is); (case l => k_is); (case c => k_is); (case k => k_is)
    case d20 => refine' Co.def_in KX G ?a ?l ?c ?k Pk86.k20 Pk86.b20; (case a => k_is); (case l => k_is); (case c => k_is); (case k => k_is)
    case d21 => refine' Co.def_in KX G ?a ?l ?c ?k Pk86.k21 Pk86.b21; (case a => k_is); (case l => k_is); (case c => k_is); (case k => k_is)
    case d22 => refine' Co.def_in KX G ?a ?l ?c ?k Pk86.k22 Pk86.b22; (case a => k_is); (case l => k_is); (case c => k_is); (case k => k_is)
    case d23 => refine' Co.def_in KX G ?a ?l ?c ?k Pk86.k23 Pk86.b23; (case a => k_is); (case l => k_is); (case c => k_is); (case k => k_is)
    case d24 => refine' Co.def_in KX G ?a ?l ?c ?k Pk86.k24 Pk86.b24; (case a => k_is); (case l => k_is); (case c => k_is); (case k => k_is)
    case d25 => refine' Co.def_in KX G ?a ?l ?c ?k Pk86.k25 Pk86.b25; (case a => k_is); (case l => k_is); (case c => k_is); (case k => k_is)
    case d26 => refine' Co.def_in KX G ?a ?l ?c ?k Pk86.k26 Pk86.b26; (case a => k_is); (case l => k_is); (case c => k_is); (case k => k_is)
    case d27 => refine' Co.def_in KX G ?a ?l ?c ?k Pk86.k27 Pk86.b27; (case a => k_is); (case l => k_is); (case c => k_is); (case k => k_is)
    case d28 => refine' Co.def_in KX G ?a ?l ?c ?k Pk86.k28 Pk86.b28; (case a => k_is); (case l => k_is); (case c => k_is); (case k => k_is)
    case d29 => refine' Co.def_in KX G ?a ?l ?c ?k Pk86.k29 Pk86.b29; (case a => k_is); (case l => k_is); (case c => k_is); (case k => k_is)
    case z0 => k_is
    case z1 => k_is
    case z2 => k_is
    case z3 => k_is
    case z4 => k_is
    case z5 => k_is
    case z6 => k_is
    case z7 => k_is
    case z8 => k_is
    case z9 => k_is
    case z10 => k_is
    case z11 => k_is
    case z12 => k_is
    case z13 => k_is
    case z14 => k_is
    case z15 => k_is
    case z16 => k_is
    case z17 => k_is
    case z18 => k_is
