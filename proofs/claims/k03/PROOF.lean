import PyProof.Rows.All
import Wide.All
import OpenK.AllK
import Wide.FinOn
import HandS.ForMost
import HandS.ForExc
import HandS.CallSlots
import HandS.Wide
import HandS.TupMul
import HandS.Style
import KE.GoesZip
import HandS.TupAny
import HandS.Deep
import HandS.Flow
import HandS.Strs
import HandS.Text
import PyProof.Rows.InDataRows
import HandS.IsInst
import HandS.TupLen
import HandS.RaiseMore
import HandS.SortInts
import HandS.Conv
import KE.SortData
import PyProof.TupleOfSeq
import HandS.ExcValue
import KE.DataMinMax
import PyProof.MinMaxWalk
import HandS.ExcIs
import HandS.Defaults
import HandS.HotCalls
import HandS.ExcCtx
import KE.DataFind
import HandS.WordsExc
import HandS.ExcOwn
import HandS.Small
import HandS.TryOnly
import HandS.Walk
import HandS.Zip
import KE.GoesMore
import HandS.Sort
import KE.GoesEnum
import HandS.HeadHook2
import HandS.HeadEnd
import HandS.EndBits
import HandS.Head0
import HandS.Head1
import HandS.Head2
import PySem.Challenge.RW_notetracks_k03_deltas
set_option autoImplicit false
/-! E1: data, store, compiled code, the evaluator. Core Lean only. -/
namespace Nt
/-- data: what never changes -/
inductive D where
  | non | bl (b : Bool) | int (i : Int) | str (x : List Nat)
  | tup (ds : List D) | lst (ds : List D) | dct (t : Bool) (ks vs : List D)
  | snd (ks vs : List D) (c : Int) | exc (c : Nat) | fn (f : Nat) (cap : List D) | scr (ns : List Int)
deriving Inhabited
/-- a field of an instance -/
inductive FV where
  | val (d : D) | ref (n : Nat)
/-- what a cell of the store holds -/
inductive SO where
  | lst (ds : List D) | dct (t : Bool) (ks vs : List D) | snd (ks vs : List D) (c : Int) | ins (c : Nat) (fs : List (Nat × FV))
abbrev Store := List SO
inductive Slot where
  | val (d : D) | ref (n : Nat) | own (o : SO)
abbrev Env := List (Option Slot)
inductive Res (α : Type) where
  | ok (a : α) (s : Store) | exc (c : Nat) (s : Store) | stuck
def Res.bind {α β : Type} (r : Res α) (f : α → Store → Res β) : Res β :=
  match r with
  | .ok a s => f a s
  | .exc c s => .exc c s
  | .stuck => .stuck
@[simp] theorem bind_ok {α β : Type} (a : α) (s : Store) (f : α → Store → Res β) : (Res.ok a s).bind f = f a s := (rfl)
@[simp] theorem bind_exc {α β : Type} (c : Nat) (s : Store) (f : α → Store → Res β) : (Res.exc c s).bind f = .exc c s := (rfl)
@[simp] theorem bind_stuck {α β : Type} (f : α → Store → Res β) : (Res.stuck : Res α).bind f = .stuck := (rfl)
/-- nothing raised -/
def Res.nox {α : Type} (r : Res α) : Res α :=
  match r with
  | .ok a s => .ok a s
  | .exc _ _ => .stuck
  | .stuck => .stuck
@[simp] theorem nox_ok {α : Type} (a : α) (s : Store) : (Res.ok a s).nox = .ok a s := (rfl)
/-- a pure answer -/
def Res.of {α : Type} (o : Option α) (s : Store) : Res α :=
  match o with
  | some a => .ok a s
  | none => .stuck
@[simp] theorem of_some {α : Type} (a : α) (s : Store) : Res.of (some a) s = .ok a s := (rfl)
@[simp] theorem of_none {α : Type} (s : Store) : Res.of (none : Option α) s = .stuck := (rfl)
/-! ### limits -/
/-- most items of a list, a text -/
def LIM : Nat := 1000000
def smallI (a : Int) : Bool := decide (-18446744073709551616 < a) && decide (a < 18446744073709551616)
def mulOk (a b : Int) : Bool := smallI a || smallI b || decide (a.natAbs.log2 + b.natAbs.log2 < 100000000)
def rngOk (a : Int) : Bool := decide (-4611686018427387904 ≤ a) && decide (a < 4611686018427387904)
def ixOk (a : Int) : Bool := decide (-4611686018427387904 ≤ a) && decide (a < 4611686018427387904)
/-! ### == -/
def allL (f : D → Bool) : List D → Bool
  | [] => true
  | x :: xs => f x && allL f xs
def eqL (f : D → D → Bool) : List D → List D → Bool
  | [], [] => true
  | x :: xs, y :: ys => f x y && eqL f xs ys
  | _, _ => false
/-- data that == may look at, to a depth -/
def plainN : Nat → D → Bool
  | 0, _ => false
  | n + 1, d =>
    match d with
    | .non => true
    | .bl _ => true
    | .int _ => true
    | .str x => x.all (fun c => decide (c < 1114112))
    | .tup ds => allL (plainN n) ds
    | .lst ds => allL (plainN n) ds
    | _ => false
def b2i (b : Bool) : Int := if b then 1 else 0
def eqN : Nat → D → D → Bool
  | 0, _, _ => false
  | n + 1, a, b =>
    match a, b with
    | .non, .non => true
    | .bl a, .bl b => a == b
    | .bl a, .int j => b2i a == j
    | .int i, .bl b => i == b2i b
    | .int i, .int j => i == j
    | .str x, .str y => x == y
    | .lst xs, .lst ys => eqL (eqN n) xs ys
    | .tup xs, .tup ys => eqL (eqN n) xs ys
    | _, _ => false
def DEP : Nat := 40
def eqD (a b : D) : Option Bool := if plainN DEP a && plainN DEP b then some (eqN DEP a b) else none
/-! ### order: of data that are alike -/
def alL (f : D → D → Bool) : List D → List D → Bool
  | x :: xs, y :: ys => f x y && alL f xs ys
  | _, _ => true
def alikeN : Nat → D → D → Bool
  | 0, _, _ => false
  | n + 1, a, b =>
    match a, b with
    | .bl _, .bl _ => true
    | .int _, .int _ => true
    | .str _, .str _ => true
    | .tup xs, .tup ys => alL (alikeN n) xs ys
    | _, _ => false
def ltS : List Nat → List Nat → Bool
  | [], [] => false
  | [], _ :: _ => true
  | _ :: _, [] => false
  | x :: xs, y :: ys => if x = y then ltS xs ys else decide (x < y)
/-- the first items that differ decide -/
def ltL (eq lt : D → D → Bool) : List D → List D → Bool
  | [], [] => false
  | [], _ :: _ => true
  | _ :: _, [] => false
  | x :: xs, y :: ys => if eq x y then ltL eq lt xs ys else lt x y
def ltN : Nat → D → D → Bool
  | 0, _, _ => false
  | n + 1, a, b =>
    match a, b with
    | .bl a, .bl b => decide (b2i a < b2i b)
    | .int i, .int j => decide (i < j)
    | .str x, .str y => ltS x y
    | .tup xs, .tup ys => ltL (eqN n) (ltN n) xs ys
    | _, _ => false
def leD (a b : D) : Bool := !ltN DEP b a
def isTupNE : D → Bool
  | .tup (_ :: _) => true
  | _ => false
def isAtom : D → Bool
  | .bl _ => true
  | .int _ => true
  | .str _ => true
  | _ => false
def allAlike (ds : List D) : Bool := allL (fun a => allL (fun b => alikeN DEP a b) ds) ds
def sortable (ds : List D) : Bool := decide (ds.length ≤ LIM) && allL (plainN DEP) ds && allAlike ds && (allL isTupNE ds || allL isAtom ds)
def sortD (ds : List D) : Option (List D) := if sortable ds then some (ds.mergeSort leD) else none
/-! ### keys of dicts -/
def keyEq1 : D → D → Bool
  | .int i, .int j => i == j
  | .str x, .str y => x == y
  | _, _ => false
def keyEq : D → D → Bool
  | .tup a, .tup b => eqL keyEq1 a b
  | a, b => keyEq1 a b
def isKey1 : D → Bool
  | .int _ => true
  | .str x => x.all (fun c => decide (c < 1114112))
  | _ => false
/-- short, or three with a text ahead (no constant of the module is such) -/
def isKeyT : List D → Bool
  | [] => true
  | [a] => isKey1 a
  | [a, b] => isKey1 a && isKey1 b
  | [.str x, b, c] => isKey1 (.str x) && isKey1 b && isKey1 c
  | _ => false
def isKey : D → Bool
  | .tup a => isKeyT a
  | a => isKey1 a
def isTup : D → Bool
  | .tup _ => true
  | _ => false
/-- a key of the kind that the table has -/
def keyFits (t : Bool) (k : D) : Bool := isKey k && isTup k == t
def look {α : Type} (k : D) : List D → List α → Option α
  | k' :: ks, v :: vs => if keyEq k' k then some v else look k ks vs
  | _, _ => none
def hasK (k : D) (ks : List D) : Bool := ks.any fun k' => keyEq k' k
def repV {α : Type} (k : D) (v : α) : List D → List α → List α
  | k' :: ks, v' :: vs => (if keyEq k' k then v else v') :: repV k v ks vs
  | _, _ => []
def putV {α : Type} (k : D) (v : α) (ks : List D) (vs : List α) : List α := if hasK k ks then repV k v ks vs else vs ++ [v]
def putKs (k : D) (ks : List D) : List D := if hasK k ks then ks else ks ++ [k]
/-! ### places -/
def ixN (n : Nat) (i : Int) : Option Nat :=
  if 0 ≤ i then (if i < n then some i.toNat else none) else if -(n : Int) ≤ i then some (i + n).toNat else none
def atI {α : Type} (xs : List α) (i : Int) : Option α := (ixN xs.length i).bind fun j => xs[j]?
/-- a slice's bound -/
def sIx (n d : Nat) : D → Option Nat
  | .non => some d
  | .int v => if ixOk v then some (if v < 0 then (v + (n : Int)).toNat else min v.toNat n) else none
  | _ => none
def cut {α : Type} (xs : List α) (a b : Nat) : List α := (xs.drop a).take (b - a)
def sliceL {α : Type} (xs : List α) (lo hi : D) : Option (List α) :=
  match sIx xs.length 0 lo, sIx xs.length xs.length hi with
  | some a, some b => some (cut xs a b)
  | _, _ => none
def sliceD (x l h : D) : Option D :=
  match x with
  | .tup xs => (sliceL xs l h).map .tup
  | .lst xs => (sliceL xs l h).map .lst
  | .str xs => if xs.length ≤ LIM then (sliceL xs l h).map .str else none
  | _ => none
/-! ### operations -/
inductive O1 where
  | neg | len | tuple | list | sorted | sortset | lenset | all | sum | max | min | minT | abs | int | str
  | isNone | notNone | isTrue | notTrue | notFalse | isFalse | isInt | isBool | isStr | isTup | isIntStr | rev | upper | dict (t : Bool) | isExc (c : Nat) | isVE
  | sortKey0
deriving DecidableEq
inductive O2 where
  | add | sub | mul | fdiv | mod | pow | eq | ne | lt | le | gt | ge | inn | notin | idx | max | min | minT | count | index | join | split
deriving DecidableEq
inductive O3 where
  | get | min | max
deriving DecidableEq
def addD : D → D → Option D
  | .int a, .int b => some (.int (a + b))
  | .str a, .str b => if a.length + b.length ≤ LIM then some (.str (a ++ b)) else none
  | .tup a, .tup b => if a.length + b.length ≤ LIM then some (.tup (a ++ b)) else none
  | .lst a, .lst b => if a.length + b.length ≤ LIM then some (.lst (a ++ b)) else none
  | _, _ => none
def subD : D → D → Option D
  | .int a, .int b => some (.int (a - b))
  | _, _ => none
def mulD : D → D → Option D
  | .int a, .int b => if mulOk a b then some (.int (a * b)) else none
  | .lst a, .int b => if ixOk b && decide (a.length * b.toNat ≤ LIM) then some (.lst (List.replicate b.toNat a).flatten) else none
  | .tup a, .int b => if ixOk b && decide (a.length * b.toNat ≤ LIM) then some (.tup (List.replicate b.toNat a).flatten) else none
  | _, _ => none
def divOk (b : Int) : Bool := decide (0 < b) && decide (b < 18446744073709551616)
def fdivD : D → D → Option D
  | .int a, .int b => if divOk b then some (.int (a / b)) else none
  | _, _ => none
def modD : D → D → Option D
  | .int a, .int b => if divOk b then some (.int (a % b)) else none
  | _, _ => none
def powD : D → D → Option D
  | .int a, .int b => if decide (0 ≤ b) && decide (b ≤ 1000) && smallI a then some (.int (a ^ b.toNat)) else none
  | _, _ => none
def cmpD (fi : Int → Int → Bool) (fs : List Nat → List Nat → Bool) : D → D → Option D
  | .int a, .int b => some (.bl (fi a b))
  | .str a, .str b => some (.bl (fs a b))
  | _, _ => none
def eqVal (a b : D) : Option D := (eqD a b).map .bl
def neVal (a b : D) : Option D := (eqD a b).map fun t => .bl (!t)
def memL (x : D) (ys : List D) : Option Bool :=
  if plainN DEP x && allL (plainN DEP) ys then some (ys.any fun y => eqN DEP y x) else none
def inD (x : D) : D → Option Bool
  | .str y => match x with
    | .str [c] => some (y.contains c)
    | _ => none
  | .tup ys => memL x ys
  | .lst ys => memL x ys
  | .dct t ks vs => if keyFits t x then some (look x ks vs).isSome else none
  | _ => none
def idxD : D → D → Option D
  | .tup xs, .int i => if ixOk i then atI xs i else none
  | .lst xs, .int i => if ixOk i then atI xs i else none
  | .str xs, .int i => if ixOk i && decide (xs.length ≤ LIM) then (atI xs i).map fun c => .str [c] else none
  | .dct t ks vs, k => if keyFits t k then look k ks vs else none
  | .scr xs, .int i => if ixOk i then (atI xs i).map .int else none
  | _, _ => none
def allInts : List D → Option (List Int)
  | [] => some []
  | .int i :: r => (allInts r).map (i :: ·)
  | _ => none
def maxI : List Int → Int
  | [] => 0
  | [a] => a
  | a :: b :: r => let m := maxI (b :: r); if a < m then m else a
def minI : List Int → Int
  | [] => 0
  | [a] => a
  | a :: b :: r => let m := minI (b :: r); if m < a then m else a
def allBls : List D → Option (List Bool)
  | [] => some []
  | .bl i :: r => (allBls r).map (i :: ·)
  | _ => none
def seqOf : D → Option (List D)
  | .tup xs => some xs
  | .lst xs => some xs
  | _ => none
def lenD : D → Option D
  | .str x => if x.length ≤ LIM then some (.int x.length) else none
  | .tup x => some (.int x.length)
  | .lst x => some (.int x.length)
  | .dct _ ks _ => some (.int ks.length)
  | .scr x => some (.int x.length)
  | _ => none
/-- the first of each -/
def dedup : List D → List D
  | [] => []
  | x :: xs => x :: (dedup xs).filter fun y => !keyEq x y
def setOk (xs : List D) : Bool := allL isKey xs && decide (xs.length ≤ LIM)
def strAll : List D → Option (List (List Nat))
  | [] => some []
  | .str x :: r => (strAll r).map (x :: ·)
  | _ => none
def joinS (sep : List Nat) : List (List Nat) → List Nat
  | [] => []
  | [x] => x
  | x :: y :: r => x ++ sep ++ joinS sep (y :: r)
def splitS (c : Nat) : List Nat → List (List Nat)
  | [] => [[]]
  | x :: xs => if x = c then [] :: splitS c xs else
    match splitS c xs with
    | [] => [[x]]
    | y :: r => (x :: y) :: r
/-- the figures of a number -/
def natDigits : Nat → List Nat := fun n => (Nat.toDigits 10 n).map Char.toNat
def intText (i : Int) : List Nat := if i < 0 then 45 :: natDigits i.natAbs else natDigits i.natAbs
def digitsVal (x : List Nat) : Nat := x.foldl (fun n c => 10 * n + (c - 48)) 0
def isFigs (x : List Nat) : Bool := !x.isEmpty && x.all (fun c => decide (48 ≤ c) && decide (c ≤ 57)) && decide (x.length ≤ 640)
def pairAll : List D → Option (List D × List D)
  | [] => some ([], [])
  | .tup [k, v] :: r => (pairAll r).map fun p => (k :: p.1, v :: p.2)
  | _ => none
def dictPut (t : List D × List D) : List D → List D → List D × List D
  | k :: ks, v :: vs => dictPut (putKs k t.1, putV k v t.1 t.2) ks vs
  | _, _ => t
def keysFit (t : Bool) (ks : List D) : Bool := allL (keyFits t) ks
def firstLess (a : D × D) (b : D × D) : Bool := !ltN DEP b.1 a.1
def idxOf (x : D) : List D → Nat → Option Nat
  | [], _ => none
  | y :: ys, n => if eqN DEP y x then some n else idxOf x ys (n + 1)
def upperC (c : Nat) : Nat := if 97 ≤ c ∧ c ≤ 122 then c - 32 else c
def key0 : D → Option D
  | .tup (x :: _) => some x
  | _ => none
def keys0 : List D → Option (List D)
  | [] => some []
  | d :: r => match key0 d, keys0 r with
    | some k, some ks => some (k :: ks)
    | _, _ => none
def le0 (a b : D) : Bool := match a, b with
  | .tup (.int i :: _), .tup (.int j :: _) => decide (i ≤ j)
  | _, _ => false
def truth : D → Option Bool
  | .non => some false
  | .bl b => some b
  | .int i => some (i != 0)
  | .str x => if x.length ≤ LIM then some (!x.isEmpty) else none
  | .tup x => some (!x.isEmpty)
  | .lst x => some (!x.isEmpty)
  | .dct false ks _ => some (!ks.isEmpty)
  | _ => none
/-- the classes above a class of errors: 0 NoteError, 1 NoTrack, 2 NoEvent, 3 NoBar, 4 NoKey, 5 NoBytes, 6 NoText -/
def isSub (c x : Nat) : Bool := c == x || x == 0
def op1 : O1 → D → Option D
  | .neg, .int i => some (.int (-i))
  | .len, d => lenD d
  | .tuple, .tup x => some (.tup x)
  | .tuple, .lst x => some (.tup x)
  | .list, .tup x => some (.lst x)
  | .list, .lst x => some (.lst x)
  | .list, .dct _ ks _ => some (.lst ks)
  | .sorted, .tup x => (sortD x).map .lst
  | .sorted, .lst x => (sortD x).map .lst
  | .sortset, .lst x => if setOk x then (sortD (dedup x)).map .lst else none
  | .sortset, .tup x => if setOk x then (sortD (dedup x)).map .lst else none
  | .lenset, .lst x => if setOk x then some (.int (dedup x).length) else none
  | .all, .lst x => (allBls x).map fun bs => .bl (bs.all id)
  | .sum, .lst x => (allInts x).map fun is => .int is.sum
  | .max, .lst xs => (allInts xs).bind fun is => if is.isEmpty then none else some (.int (maxI is))
  | .min, .lst xs => (allInts xs).bind fun is => if is.isEmpty then none else some (.int (minI is))
  | .minT, d => match seqOf d with
    | some (x :: r) => if sortable (x :: r) then some (r.foldl (fun a y => if ltN DEP y a then y else a) x) else none
    | _ => none
  | .abs, .int i => some (.int (if i < 0 then -i else i))
  | .int, .int i => some (.int i)
  | .int, .bl b => some (.int (b2i b))
  | .int, .str x => if isFigs x then some (.int (digitsVal x)) else none
  | .str, .int i => if smallI i then some (.str (intText i)) else none
  | .str, .str x => some (.str x)
  | .isNone, .non => some (.bl true)
  | .isNone, _ => some (.bl false)
  | .notNone, .non => some (.bl false)
  | .notNone, _ => some (.bl true)
  | .isTrue, .bl b => some (.bl b)
  | .notTrue, .bl b => some (.bl (!b))
  | .isFalse, .bl b => some (.bl (!b))
  | .notFalse, .bl b => some (.bl b)
  | .isInt, d => match d with
    | .int _ => some (.bl true)
    | .bl _ => some (.bl true)
    | .fn _ _ => none
    | .snd _ _ _ => none
    | .exc _ => none
    | _ => some (.bl false)
  | .isBool, d => match d with
    | .bl _ => some (.bl true)
    | .fn _ _ => none
    | .snd _ _ _ => none
    | .exc _ => none
    | _ => some (.bl false)
  | .isStr, d => match d with
    | .str _ => some (.bl true)
    | .fn _ _ => none
    | .snd _ _ _ => none
    | .exc _ => none
    | _ => some (.bl false)
  | .isTup, d => match d with
    | .tup _ => some (.bl true)
    | .fn _ _ => none
    | .snd _ _ _ => none
    | .exc _ => none
    | _ => some (.bl false)
  | .isIntStr, d => match d with
    | .int _ => some (.bl true)
    | .bl _ => some (.bl true)
    | .str _ => some (.bl true)
    | .fn _ _ => none
    | .snd _ _ _ => none
    | .exc _ => none
    | _ => some (.bl false)
  | .isExc x, .exc c => some (.bl (isSub c x))
  | .isVE, .exc _ => some (.bl true)
  | .rev, .tup x => some (.tup x.reverse)
  | .rev, .lst x => some (.lst x.reverse)
  | .upper, .str x => if x.all (fun c => decide (c < 128)) then some (.str (x.map upperC)) else none
  | .dict t, .lst x => (pairAll x).bind fun p => if keysFit t p.1 && decide (p.1.length ≤ LIM) then some (let q := dictPut ([], []) p.1 p.2; .dct t q.1 q.2) else none
  | .dict t, .tup x => (pairAll x).bind fun p => if keysFit t p.1 && decide (p.1.length ≤ LIM) then some (let q := dictPut ([], []) p.1 p.2; .dct t q.1 q.2) else none
  | .sortKey0, d => (seqOf d).bind fun x => (keys0 x).bind fun ks => (allInts ks).bind fun _ => if x.length ≤ LIM then some (.lst (x.mergeSort le0)) else none
  | _, _ => none
def op2 : O2 → D → D → Option D
  | .add, a, b => addD a b
  | .sub, a, b => subD a b
  | .mul, a, b => mulD a b
  | .fdiv, a, b => fdivD a b
  | .mod, a, b => modD a b
  | .pow, a, b => powD a b
  | .eq, a, b => eqVal a b
  | .ne, a, b => neVal a b
  | .lt, a, b => cmpD (fun i j => decide (i < j)) (fun x y => ltS x y) a b
  | .le, a, b => cmpD (fun i j => decide (i ≤ j)) (fun x y => !ltS y x) a b
  | .gt, a, b => cmpD (fun i j => decide (j < i)) (fun x y => ltS y x) a b
  | .ge, a, b => cmpD (fun i j => decide (j ≤ i)) (fun x y => !ltS x y) a b
  | .inn, a, b => (inD a b).map .bl
  | .notin, a, b => (inD a b).map fun t => .bl (!t)
  | .idx, a, b => idxD a b
  | .max, .int i, .int j => some (.int (if i < j then j else i))
  | .min, .int i, .int j => some (.int (if j < i then j else i))
  | .minT, .tup x, .tup y => if sortable [.tup x, .tup y] then some (if ltN DEP (.tup y) (.tup x) then .tup y else .tup x) else none
  | .count, .lst xs, x => if plainN DEP x && allL (plainN DEP) xs then some (.int (xs.filter fun y => eqN DEP y x).length) else none
  | .count, .tup xs, x => if plainN DEP x && allL (plainN DEP) xs then some (.int (xs.filter fun y => eqN DEP y x).length) else none
  | .index, .lst xs, x => if plainN DEP x && allL (plainN DEP) xs then (idxOf x xs 0).map fun n => .int n else none
  | .index, .tup xs, x => if plainN DEP x && allL (plainN DEP) xs then (idxOf x xs 0).map fun n => .int n else none
  | .index, .str xs, .str [c] => if xs.contains c && decide (xs.length ≤ LIM) then some (.int (xs.findIdx (· == c) : Nat)) else none
  | .join, .str sep, .lst xs => (strAll xs).bind fun ys => if (joinS sep ys).length ≤ LIM then some (.str (joinS sep ys)) else none
  | .split, .str x, .str [c] => if x.length ≤ LIM && x.all (fun c => decide (c < 1114112)) then some (.lst ((splitS c x).map .str)) else none
  | _, _, _ => none
def op3 : O3 → D → D → D → Option D
  | .get, .dct t ks vs, k, d => if keyFits t k then some ((look k ks vs).getD d) else none
  | _, _, _, _ => none
/-! ### compiled code -/
mutual
inductive Tg where
  | v (i : Nat) | t (ts : Tgs)
inductive Tgs where
  | nil | cons (t : Tg) (ts : Tgs)
end
mutual
inductive PE where
  | cst (d : D) | gl (k : Nat) | var (i : Nat) | peek (i : Nat) | sn (r : PR)
  | tup (es : PEs) | lst (es : PEs) | dct (t : Bool) (ks vs : PEs)
  | o1 (o : O1) (a : PE) | o2 (o : O2) (a b : PE) | o3 (o : O3) (a b c : PE)
  | chain (o p : O2) (a b c : PE)
  | band (a b : PE) | bor (a b : PE) | bnot (a : PT) | ifx (c : PT) (a b : PE)
  | slc (a lo hi : PE)
  | call (f : Nat) (es : PAs) | callv (i : Nat) (es : PEs)
  | lc (t : Tg) (it : PI) (cond : PT) (elt : PE) (own : List Nat)
  | fld (a : PE) (k : Nat) | rfld (r : PR) (k : Nat)
  | lam (f : Nat) (cap : List Nat)
  | lrng1 (a : PE) | lrng2 (a b : PE) | inR (x a b : PE)
/-- a test -/
inductive PT where
  | v (e : PE) | and (a b : PT) | or (a b : PT) | not (a : PT) | yes
inductive PEs where
  | nil | cons (e : PE) (es : PEs)
inductive PR where
  | rv (i : Nat) | rf (r : PR) (k : Nat)
inductive PAs where
  | nil | val (e : PE) (es : PAs) | ref (r : PR) (es : PAs)
inductive PI where
  | of (e : PE) | rng1 (a : PE) | rng2 (a b : PE) | rng3 (a b c : PE) | enum (e : PE) | zip2 (a b : PE) | zip3 (a b c : PE)
end
/-- a new thing: of a slot's own, a cell of the store, or plain -/
inductive Md where
  | val | own | cell
mutual
inductive PS where
  | asg (t : Tg) (e : PE)
  | par (is : List (Nat × Md)) (es : PEs)
  | own (i : Nat) (e : PE) | cell (i : Nat) (e : PE)
  | newS (i : Nat) | newO (i : Nat) (c f : Nat) (es : PAs) | setS (r : PR) (k : Nat)
  | app (i : Nat) (e : PE) | ext (i : Nat) (e : PE) | seti (i : Nat) (k e : PE)
  | appR (r : PR) (e : PE) | remR (r : PR) (e : PE) | setR (r : PR) (k e : PE)
  | setf (r : PR) (k : Nat) (e : PE)
  | asgF (i : Nat) (r : PR) (k : Nat) (e : PE)
  | ifs (c : PT) (a b : PSs)
  | for_ (t : Tg) (it : PI) (body : PSs)
  | whl (c : PT) (body : PSs)
  | ret (e : PE) | retR (r : PR) | retN
  | ex (e : PE) | raise (c : Nat) | pass
  | kill (is : List Nat) | freeze (i : Nat) | trunc (n : Nat)
  | try_ (body : PSs) (i : Nat)
inductive PSs where
  | nil | cons (s : PS) (ss : PSs)
end
def isNonE : PE → Bool
  | .cst .non => true
  | _ => false
/-- a slice's bound: an int, or none where none is written -/
def gI (b : Bool) (d : D) : Option D :=
  match b, d with
  | true, .non => some .non
  | false, .int i => some (.int i)
  | _, _ => none
/-! ### the evaluator -/
inductive Arg where
  | val (d : D) | ref (n : Nat)
/-- what the defs do: by number, of arguments, over a store -/
abbrev Calls := Nat → List Arg → Store → Res D
/-- the module's constants -/
abbrev Glob := Nat → Option D
mutual
def bindT : Tg → D → Env → Option Env
  | .v i, d, e => if i < e.length then some (e.set i (some (.val d))) else none
  | .t ts, d, e => match d with
    | .tup ds => bindTs ts ds e
    | .lst ds => bindTs ts ds e
    | _ => none
def bindTs : Tgs → List D → Env → Option Env
  | .nil, ds, e => match ds with
    | [] => some e
    | _ :: _ => none
  | .cons t ts, ds, e => match ds with
    | d :: ds => (bindT t d e).bind fun e' => bindTs ts ds e'
    | [] => none
end
def lookF (k : Nat) : List (Nat × FV) → Option FV
  | [] => none
  | (j, v) :: r => if j = k then some v else lookF k r
def putF (k : Nat) (v : FV) : List (Nat × FV) → List (Nat × FV)
  | [] => [(k, v)]
  | (j, u) :: r => if j = k then (j, v) :: r else (j, u) :: putF k v r
def frozen : SO → Option D
  | .lst ds => some (.lst ds)
  | .dct t ks vs => some (.dct t ks vs)
  | .snd ks vs c => some (.snd ks vs c)
  | .ins _ _ => none
def rdO : SO → Option D
  | .lst ds => some (.lst ds)
  | .dct t ks vs => some (.dct t ks vs)
  | _ => none
def evR (env : Env) (s : Store) : PR → Option Nat
  | .rv i => match env[i]? with
    | some (some (.ref n)) => some n
    | _ => none
  | .rf r k => match evR env s r with
    | some n => match s[n]? with
      | some (.ins _ fs) => match lookF k fs with
        | some (.ref m) => some m
        | _ => none
      | _ => none
    | none => none
def itemsOf : D → Option (List D)
  | .tup x => some x
  | .lst x => some x
  | .str x => some (x.map fun c => .str [c])
  | _ => none
def rngFrom (a : Int) : Nat → List D
  | 0 => []
  | n + 1 => .int a :: rngFrom (a + 1) n
def rngStep (a c : Int) : Nat → List D
  | 0 => []
  | n + 1 => .int a :: rngStep (a + c) c n
def rng1 : D → Option (List D)
  | .int b => if rngOk b then some (rngFrom 0 b.toNat) else none
  | _ => none
def rng2 : D → D → Option (List D)
  | .int a, .int b => if rngOk a && rngOk b then some (rngFrom a (b - a).toNat) else none
  | _, _ => none
def inRD : D → D → D → Option D
  | .int i, .int a, .int b => some (.bl (decide (a ≤ i ∧ i < b)))
  | _, _, _ => none
def lrgD (o : Option (List D)) : Option D := o.bind fun xs => if xs.length ≤ LIM then some (.lst xs) else none
def rng3 : D → D → D → Option (List D)
  | .int a, .int b, .int c => if rngOk a && rngOk b && decide (0 < c) && decide (c < 1000000000) then some (rngStep a c ((b - a + c - 1) / c).toNat) else none
  | _, _, _ => none
def enumFrom (n : Nat) : List D → List D
  | [] => []
  | x :: xs => .tup [.int n, x] :: enumFrom (n + 1) xs
def zipD : List D → List D → List D
  | x :: xs, y :: ys => .tup [x, y] :: zipD xs ys
  | _, _ => []
def zipOf : D → D → Option (List D)
  | .tup xs, .tup ys => some (zipD xs ys)
  | .lst xs, .lst ys => some (zipD xs ys)
  | _, _ => none
def zip3D : List D → List D → List D → List D
  | x :: xs, y :: ys, z :: zs => .tup [x, y, z] :: zip3D xs ys zs
  | _, _, _ => []
/-- three tuples -/
def zip3T (x y z : D) : Option (List D) := match x, y, z with
  | .tup xs, .tup ys, .tup zs => some (zip3D xs ys zs)
  | _, _, _ => none
/-- a comprehension's turns -/
def lcL (f : D → Store → Res (Option D)) : List D → List D → Store → Res (List D)
  | [], acc, s => .ok acc s
  | x :: xs, acc, s => (f x s).bind fun o s1 => match o with
    | none => lcL f xs acc s1
    | some d => if acc.length < LIM then lcL f xs (acc ++ [d]) s1 else .stuck
def wipeE (e : Env) : List Nat → Env
  | [] => e
  | i :: r => (wipeE e r).set i none
def anyRef : List Arg → Bool
  | [] => false
  | .ref _ :: _ => true
  | .val _ :: r => anyRef r
/-- a call: of data alone it is apart from our store -/
def callOf (C : Calls) (f : Nat) (as : List Arg) (s : Store) : Res D :=
  if anyRef as then C f as s else
    match C f as [] with
    | .ok d _ => .ok d s
    | .exc c _ => .exc c s
    | .stuck => .stuck
def dispPut (t : Bool) (acc : List D × List D) : List D → List D → Option (List D × List D)
  | k :: ks, v :: vs => if keyFits t k then dispPut t (putKs k acc.1, putV k v acc.1 acc.2) ks vs else none
  | [], [] => some acc
  | _, _ => none
def capOf (e : Env) : List Nat → Option (List D)
  | [] => some []
  | i :: r => match e[i]? with
    | some (some (.val d)) => (capOf e r).map (d :: ·)
    | _ => none
section
variable (G : Glob) (C : Calls)
mutual
def evE : PE → Env → Store → Res D
  | .cst d, _, s => .ok d s
  | .gl k, _, s => .of (G k) s
  | .var i, e, s => match e[i]? with
    | some (some (.val d)) => .ok d s
    | _ => .stuck
  | .peek i, e, s => match e[i]? with
    | some (some (.own o)) => .of (rdO o) s
    | _ => .stuck
  | .sn r, e, s => match evR e s r with
    | some n => match s[n]? with
      | some o => .of (rdO o) s
      | none => .stuck
    | none => .stuck
  | .tup es, e, s => (evEs es e s).bind fun ds s => .ok (.tup ds) s
  | .lst es, e, s => (evEs es e s).bind fun ds s => .ok (.lst ds) s
  | .dct t ks vs, e, s => (evEs ks e s).bind fun ks s => (evEs vs e s).bind fun vs s => match dispPut t ([], []) ks vs with
    | some q => .ok (.dct t q.1 q.2) s
    | none => .stuck
  | .o1 o a, e, s => (evE a e s).bind fun x s => .of (op1 o x) s
  | .o2 o a b, e, s => (evE a e s).bind fun x s => (evE b e s).bind fun y s => .of (op2 o x y) s
  | .o3 o a b c, e, s => (evE a e s).bind fun x s => (evE b e s).bind fun y s => (evE c e s).bind fun z s => .of (op3 o x y z) s
  | .chain o p a b c, e, s => (evE a e s).bind fun x s => (evE b e s).bind fun y s => match op2 o x y with
    | some (.bl true) => (evE c e s).bind fun z s => .of (op2 p y z) s
    | some (.bl false) => .ok (.bl false) s
    | _ => .stuck
  | .band a b, e, s => (evE a e s).bind fun x s => match x with
    | .bl true => evE b e s
    | .bl false => .ok (.bl false) s
    | _ => .stuck
  | .bor a b, e, s => (evE a e s).bind fun x s => match x with
    | .bl true => .ok (.bl true) s
    | .bl false => evE b e s
    | _ => .stuck
  | .bnot a, e, s => (evT a e s).bind fun t s => .ok (.bl (!t)) s
  | .ifx c a b, e, s => (evT c e s).bind fun t s => if t then evE a e s else evE b e s
  | .slc a lo hi, e, s => (evE a e s).bind fun x s => ((evE lo e s).bind fun l s => .of (gI (isNonE lo) l) s).bind fun l s => ((evE hi e s).bind fun h s => .of (gI (isNonE hi) h) s).bind fun h s => .of (sliceD x l h) s
  | .call f es, e, s => (evA es e s).bind fun as s => callOf C f as s
  | .callv i es, e, s => match e[i]? with
    | some (some (.val (.fn f cap))) => (evEs es e s).bind fun ds s => callOf C f ((cap ++ ds).map .val) s
    | _ => .stuck
  | .lc t it cond elt own, e, s => (evI it e s).bind fun xs s =>
      (lcL (fun x s => match bindT t x (wipeE e own) with
        | some e' => (evT cond e' s).bind fun c s => if c then (evE elt e' s).bind fun d s => .ok (some d) s else .ok none s
        | none => .stuck) xs [] s).nox.bind fun ds s => .ok (.lst ds) s
  | .fld a k, e, s => (evE a e s).bind fun x s => match x with
    | .snd ks vs c => match k with
      | 0 => .ok (.dct true ks vs) s
      | 1 => .ok (.int c) s
      | _ => .stuck
    | _ => .stuck
  | .rfld r k, e, s => match evR e s r with
    | some n => match s[n]? with
      | some (.ins _ fs) => match lookF k fs with
        | some (.val d) => .ok d s
        | _ => .stuck
      | _ => .stuck
    | none => .stuck
  | .inR x a b, e, s => (evE x e s).bind fun x s => (evE a e s).bind fun y s => (evE b e s).bind fun z s => .of (inRD x y z) s
  | .lrng1 a, e, s => (evE a e s).bind fun x s => .of (lrgD (rng1 x)) s
  | .lrng2 a b, e, s => (evE a e s).bind fun x s => (evE b e s).bind fun y s => .of (lrgD (rng2 x y)) s
  | .lam f cap, e, s => match capOf e cap with
    | some ds => .ok (.fn f ds) s
    | none => .stuck
def evEs : PEs → Env → Store → Res (List D)
  | .nil, _, s => .ok [] s
  | .cons a es, e, s => (evE a e s).bind fun x s => (evEs es e s).bind fun xs s => .ok (x :: xs) s
def evA : PAs → Env → Store → Res (List Arg)
  | .nil, _, s => .ok [] s
  | .val a es, e, s => (evE a e s).bind fun x s => (evA es e s).bind fun xs s => .ok (.val x :: xs) s
  | .ref r es, e, s => match evR e s r with
    | some n => (evA es e s).bind fun xs s => .ok (.ref n :: xs) s
    | none => .stuck
/-- a test -/
def evT : PT → Env → Store → Res Bool
  | .and a b, e, s => (evT a e s).bind fun t s => if t then evT b e s else .ok false s
  | .or a b, e, s => (evT a e s).bind fun t s => if t then .ok true s else evT b e s
  | .not a, e, s => (evT a e s).bind fun t s => .ok (!t) s
  | .v a, e, s => (evE a e s).bind fun x s => .of (truth x) s
  | .yes, _, s => .ok true s
def evI : PI → Env → Store → Res (List D)
  | .of a, e, s => (evE a e s).bind fun x s => .of (itemsOf x) s
  | .rng1 a, e, s => (evE a e s).bind fun x s => .of (rng1 x) s
  | .rng2 a b, e, s => (evE a e s).bind fun x s => (evE b e s).bind fun y s => .of (rng2 x y) s
  | .rng3 a b c, e, s => (evE a e s).bind fun x s => (evE b e s).bind fun y s => (evE c e s).bind fun z s => .of (rng3 x y z) s
  | .enum a, e, s => (evE a e s).bind fun x s => .of ((seqOf x).map (enumFrom 0)) s
  | .zip2 a b, e, s => (evE a e s).bind fun x s => (evE b e s).bind fun y s => .of (zipOf x y) s
  | .zip3 a b c, e, s => (evE a e s).bind fun x s => (evE b e s).bind fun y s => (evE c e s).bind fun z s => .of (zip3T x y z) s
end
end
/-! ### statements -/
inductive Out where
  | nx (e : Env) (s : Store) | rt (d : D) (s : Store) | exc (c : Nat) (s : Store) | stuck
def Res.out {α : Type} (r : Res α) (f : α → Store → Out) : Out :=
  match r with
  | .ok a s => f a s
  | .exc c s => .exc c s
  | .stuck => .stuck
@[simp] theorem out_ok {α : Type} (a : α) (s : Store) (f : α → Store → Out) : (Res.ok a s).out f = f a s := (rfl)
@[simp] theorem out_exc {α : Type} (c : Nat) (s : Store) (f : α → Store → Out) : (Res.exc c s : Res α).out f = .exc c s := (rfl)
@[simp] theorem out_stuck {α : Type} (f : α → Store → Out) : (Res.stuck : Res α).out f = .stuck := (rfl)
def Out.then (o : Out) (f : Env → Store → Out) : Out :=
  match o with
  | .nx e s => f e s
  | o => o
@[simp] theorem then_nx (e : Env) (s : Store) (f : Env → Store → Out) : (Out.nx e s).then f = f e s := (rfl)
@[simp] theorem then_rt (d : D) (s : Store) (f : Env → Store → Out) : (Out.rt d s).then f = .rt d s := (rfl)
@[simp] theorem then_exc (c : Nat) (s : Store) (f : Env → Store → Out) : (Out.exc c s).then f = .exc c s := (rfl)
@[simp] theorem then_stuck (f : Env → Store → Out) : Out.stuck.then f = .stuck := (rfl)
/-- a loop over data -/
def forL (f : D → Env → Store → Out) : List D → Env → Store → Out
  | [], e, s => .nx e s
  | d :: ds, e, s => (f d e s).then fun e s => forL f ds e s
def whlL (t : Env → Store → Res Bool) (f : Env → Store → Out) : Nat → Env → Store → Out
  | 0, _, _ => .stuck
  | n + 1, e, s => (t e s).out fun b s => if b then (f e s).then fun e s => whlL t f n e s else .nx e s
def FUEL : Nat := 1000000
def thaw : D → Option SO
  | .lst ds => some (.lst ds)
  | .dct t ks vs => some (.dct t ks vs)
  | _ => none
/-- a slot is filled -/
def setE (e : Env) (i : Nat) (x : Slot) : Option Env := if i < e.length then some (e.set i (some x)) else none
def Out.ofE (o : Option Env) (s : Store) : Out :=
  match o with
  | some e => .nx e s
  | none => .stuck
@[simp] theorem ofE_some (e : Env) (s : Store) : Out.ofE (some e) s = .nx e s := (rfl)
@[simp] theorem ofE_none (s : Store) : Out.ofE none s = .stuck := (rfl)
def storeP : List (Nat × Md) → List D → Env → Store → Option (Env × Store)
  | [], [], e, s => some (e, s)
  | (i, .val) :: r, d :: ds, e, s => (setE e i (.val d)).bind fun e => storeP r ds e s
  | (i, .own) :: r, d :: ds, e, s => (thaw d).bind fun o => (setE e i (.own o)).bind fun e => storeP r ds e s
  | (i, .cell) :: r, d :: ds, e, s => (thaw d).bind fun o => (setE e i (.ref s.length)).bind fun e => storeP r ds e (s ++ [o])
  | _, _, _, _ => none
/-- o[k] = d -/
def putO (o : SO) (k d : D) : Option SO :=
  match o with
  | .lst xs => match k with
    | .int i => (ixN xs.length i).map fun j => .lst (xs.set j d)
    | _ => none
  | .dct t ks vs => if keyFits t k && decide (ks.length < LIM) then some (.dct t (putKs k ks) (putV k d ks vs)) else none
  | _ => none
def removeD (x : D) : List D → Option (List D)
  | [] => none
  | y :: ys => if eqN DEP y x then some ys else (removeD x ys).map (y :: ·)
/-- no slot refers to a cell from n on -/
def below (n : Nat) : Env → Bool
  | [] => true
  | some (.ref m) :: r => decide (m < n) && below n r
  | _ :: r => below n r
def fBelow (n : Nat) : List (Nat × FV) → Bool
  | [] => true
  | (_, .ref m) :: r => decide (m < n) && fBelow n r
  | _ :: r => fBelow n r
def sBelow (n : Nat) : Store → Bool
  | [] => true
  | .ins _ fs :: r => fBelow n fs && sBelow n r
  | _ :: r => sBelow n r
/-- what is said of an error -/
def excWord : Nat → Option (List Nat)
  | 1 => some [110, 111, 32, 116, 114, 97, 99, 107]
  | 2 => some [110, 111, 32, 101, 118, 101, 110, 116]
  | 3 => some [110, 111, 32, 98, 97, 114]
  | 4 => some [110, 111, 32, 107, 101, 121]
  | 5 => some [110, 111, 32, 98, 121, 116, 101, 115]
  | 6 => some [110, 111, 32, 116, 101, 120, 116]
  | _ => none
/-- try: an error is told by its word -/
def tryO (o : Out) : Out :=
  match o with
  | .exc c s => match excWord c with
    | some w => .rt (.str w) s
    | none => .stuck
  | o => o
section
variable (G : Glob) (C : Calls)
mutual
def exec : PS → Env → Store → Out
  | .asg t a, e, s => (evE G C a e s).out fun d s => .ofE (bindT t d e) s
  | .par is es, e, s => (evEs G C es e s).out fun ds s => match storeP is ds e s with
    | some (e, s) => .nx e s
    | none => .stuck
  | .own i a, e, s => (evE G C a e s).out fun d s => .ofE ((thaw d).bind fun o => setE e i (.own o)) s
  | .cell i a, e, s => (evE G C a e s).out fun d s => match thaw d with
    | some o => .ofE (setE e i (.ref s.length)) (s ++ [o])
    | none => .stuck
  | .newS i, e, s => .ofE (setE e i (.ref s.length)) (s ++ [.snd [] [] 0])
  | .newO i c f es, e, s => (evA G C es e s).out fun as s => (callOf C f (.ref s.length :: as) (s ++ [.ins c []])).out fun d s' => match d with
    | .non => .ofE (setE e i (.ref s.length)) s'
    | _ => .stuck
  | .setS r k, e, s => match evR e s r with
    | some n => match s[n]? with
      | some (.ins c fs) => .nx e ((s ++ [SO.snd [] [] 0]).set n (.ins c (putF k (.ref s.length) fs)))
      | _ => .stuck
    | none => .stuck
  | .app i a, e, s => match e[i]? with
    | some (some (.own (.lst xs))) => (evE G C a e s).out fun d s => if xs.length < LIM then .nx (e.set i (some (.own (.lst (xs ++ [d]))))) s else .stuck
    | _ => .stuck
  | .ext i a, e, s => match e[i]? with
    | some (some (.own (.lst xs))) => (evE G C a e s).out fun d s => match d with
      | .lst ys => if xs.length + ys.length ≤ LIM then .nx (e.set i (some (.own (.lst (xs ++ ys))))) s else .stuck
      | _ => .stuck
    | _ => .stuck
  | .seti i k a, e, s => match e[i]? with
    | some (some (.own o)) => (evE G C a e s).out fun d s => (evE G C k e s).out fun k s => match putO o k d with
      | some o => .nx (e.set i (some (.own o))) s
      | none => .stuck
    | _ => .stuck
  | .appR r a, e, s => match evR e s r with
    | some n => (evE G C a e s).out fun d s => match s[n]? with
      | some (.lst xs) => if xs.length < LIM then .nx e (s.set n (.lst (xs ++ [d]))) else .stuck
      | _ => .stuck
    | none => .stuck
  | .remR r a, e, s => match evR e s r with
    | some n => (evE G C a e s).out fun d s => match s[n]? with
      | some (.lst xs) => if plainN DEP d && allL (plainN DEP) xs then match removeD d xs with
          | some ys => .nx e (s.set n (.lst ys))
          | none => .stuck
        else .stuck
      | _ => .stuck
    | none => .stuck
  | .setR r k a, e, s => (evE G C a e s).out fun d s => match evR e s r with
    | some n => (evE G C k e s).out fun k s => match s[n]? with
      | some o => match putO o k d with
        | some o => .nx e (s.set n o)
        | none => .stuck
      | none => .stuck
    | none => .stuck
  | .setf r k a, e, s => (evE G C a e s).out fun d s => match evR e s r with
    | some n => match s[n]? with
      | some (.ins c fs) => .nx e (s.set n (.ins c (putF k (.val d) fs)))
      | _ => .stuck
    | none => .stuck
  | .asgF i r k a, e, s => (evE G C a e s).out fun d s => match d with
    | .tup [x, y] => match setE e i (.val x) with
      | some e => match evR e s r with
        | some n => match s[n]? with
          | some (.ins c fs) => .nx e (s.set n (.ins c (putF k (.val y) fs)))
          | _ => .stuck
        | none => .stuck
      | none => .stuck
    | _ => .stuck
  | .ifs c a b, e, s => (evT G C c e s).out fun t s => if t then execs a e s else execs b e s
  | .for_ t it body, e, s => (evI G C it e s).out fun xs s => forL (fun x e s => match bindT t x e with
    | some e => execs body e s
    | none => .stuck) xs e s
  | .whl c body, e, s => whlL (fun e s => evT G C c e s) (fun e s => execs body e s) FUEL e s
  | .ret a, e, s => (evE G C a e s).out fun d s => .rt d s
  | .retR r, e, s => match evR e s r with
    | some n => match s[n]? with
      | some o => match frozen o with
        | some d => .rt d s
        | none => .stuck
      | none => .stuck
    | none => .stuck
  | .retN, _, s => .rt .non s
  | .ex a, e, s => (evE G C a e s).out fun _ s => .nx e s
  | .raise c, _, s => .exc c s
  | .pass, e, s => .nx e s
  | .kill is, e, s => .nx (wipeE e is) s
  | .freeze i, e, s => match e[i]? with
    | some (some (.own o)) => match frozen o with
      | some d => .nx (e.set i (some (.val d))) s
      | none => .stuck
    | _ => .stuck
  | .try_ body _, e, s => tryO (execs body e s)
  | .trunc n, e, s => if below n e && sBelow n (s.take n) then .nx e (s.take n) else .stuck
def execs : PSs → Env → Store → Out
  | .nil, e, s => .nx e s
  | .cons p ps, e, s => (exec p e s).then fun e s => execs ps e s
end
/-- a def -/
structure Def where
  params : Nat
  slots : Nat
  body : PSs
inductive Fn where
  | code (d : Def) | nat (φ : List Arg → Store → Res D)
def startE (n : Nat) (as : List Arg) : Env :=
  as.map (fun a => match a with
    | .val d => some (.val d)
    | .ref m => some (.ref m)) ++ List.replicate (n - as.length) none
def finish (o : Out) : Res D :=
  match o with
  | .nx _ s => .ok .non s
  | .rt d s => .ok d s
  | .exc c s => .exc c s
  | .stuck => .stuck
@[simp] theorem finish_nx (e : Env) (s : Store) : finish (.nx e s) = .ok .non s := (rfl)
@[simp] theorem finish_rt (d : D) (s : Store) : finish (.rt d s) = .ok d s := (rfl)
@[simp] theorem finish_exc (c : Nat) (s : Store) : finish (.exc c s) = .exc c s := (rfl)
def runDef (d : Def) (as : List Arg) (s : Store) : Res D :=
  if as.length = d.params then finish (execs G C d.body (startE d.slots as) s) else .stuck
end
abbrev Table := Nat → Option Fn
/-- what the defs do, calls nested to a depth -/
def run (G : Glob) (T : Table) : Nat → Calls
  | 0 => fun _ _ _ => .stuck
  | n + 1 => fun f as s => match T f with
    | some (.code d) => runDef G (run G T n) d as s
    | some (.nat φ) => φ as s
    | none => .stuck
/-! ### Sounds, as one cell -/
def asList : D → List D
  | .lst x => x
  | _ => []
/-- begin(channel, key, force, mark) -/
def sndBegin (as : List Arg) (s : Store) : Res D :=
  match as with
  | [.ref n, .val (.int ch), .val (.int key), .val force, .val mark] => match s[n]? with
    | some (.snd ks vs c) =>
      let k := D.tup [.int ch, .int key]
      let it := D.tup [.int (c + 1), force, mark]
      match look k ks vs with
      | some (.lst xs) => if xs.length < LIM then .ok .non (s.set n (.snd ks (putV k (.lst (xs ++ [it])) ks vs) (c + 1))) else .stuck
      | some _ => .stuck
      | none => if ks.length < LIM then .ok .non (s.set n (.snd (ks ++ [k]) (vs ++ [.lst [it]]) (c + 1))) else .stuck
    | _ => .stuck
  | _ => .stuck
/-- finish(channel, key) -/
def sndFinish (as : List Arg) (s : Store) : Res D :=
  match as with
  | [.ref n, .val (.int ch), .val (.int key)] => match s[n]? with
    | some (.snd ks vs c) =>
      let k := D.tup [.int ch, .int key]
      match look k ks vs with
      | some (.lst (.tup [_, force, mark] :: r)) => .ok (.tup [mark, force]) (s.set n (.snd ks (putV k (.lst r) ks vs) c))
      | some (.lst []) => .ok .non s
      | some _ => .stuck
      | none => .ok .non s
    | _ => .stuck
  | _ => .stuck
end Nt
set_option autoImplicit false
/-! E3f: how long a number is -/
namespace Nt
/-- at most b bits -/
def Bits (z : Int) (b : Nat) : Prop := z.natAbs < 2 ^ b
theorem Bits.mono {z : Int} {a b : Nat} (h : Bits z a) (k : a ≤ b) : Bits z b := Nat.lt_of_lt_of_le h (Nat.pow_le_pow_right (by decide) k)
theorem Bits.zero {b : Nat} : Bits 0 b := Nat.pow_pos (by decide)
theorem Bits.log2 {z : Int} {b : Nat} (h : Bits z b) : z.natAbs.log2 ≤ b := by
  by_cases h0 : z.natAbs = 0
  · rw [h0]; exact Nat.zero_le _
  · exact Nat.le_of_lt ((Nat.log2_lt h0).mpr h)
theorem Bits.of_log2 {z : Int} {b : Nat} (h : z.natAbs.log2 < b) : Bits z b := by
  by_cases h0 : z.natAbs = 0
  · unfold Bits; rw [h0]; exact Nat.pow_pos (by decide)
  · exact (Nat.log2_lt h0).mp h
theorem Bits.add {y z : Int} {b : Nat} (h : Bits y b) (k : Bits z b) : Bits (y + z) (b + 1) := by
  unfold Bits at *
  have := Int.natAbs_add_le y z
  rw [Nat.pow_succ]
  omega
theorem Bits.small {z : Int} (h : -1000000 < z) (k : z < 1000000) : Bits z 20 := by
  have : (2 : Nat) ^ 20 = 1048576 := by decide
  unfold Bits; rw [this]; omega
theorem Bits.mul {y z : Int} {a b : Nat} (h : Bits y a) (k : Bits z b) : Bits (y * z) (a + b) := by
  unfold Bits at *
  rw [Int.natAbs_mul, Nat.pow_add]
  exact Nat.mul_lt_mul'' h k
theorem mulOk_bits {y z : Int} {a b : Nat} (h : Bits y a) (k : Bits z b) (l : a + b < 100000000) : mulOk y z = true := by
  have := h.log2
  have := k.log2
  unfold mulOk
  rw [decide_eq_true (by omega : y.natAbs.log2 + z.natAbs.log2 < 100000000), Bool.or_true]
end Nt
set_option Elab.async false
set_option linter.all false
set_option maxRecDepth 100000
set_option autoImplicit false
/-! E2a: how data, cells and slots stand in the heap -/
namespace Nt
open PySem PySem.Spec PyProof.Rows L2
abbrev Frag := PySem.W.Frag
/-- what is known of the program's top: the written part, where the classes stand (0 .. 6 errors, 7 Sounds, 8 Player, 9 Reader) -/
structure Pm where
  K : Frag
  cls : Nat → Addr
def sV (x : List Nat) : Str := ⟨x.toArray⟩
theorem sV_inj {x y : List Nat} (h : sV x = sV y) : x = y := by
  unfold sV at h
  have h2 : x.toArray = y.toArray := congrArg Str.cps h
  simpa using congrArg Array.toList h2
theorem sV_len (x : List Nat) : (sV x).length = x.length := by
  show x.toArray.size = x.length
  simp
/-- a text of one's own as a list -/
theorem sV_of (s : Str) : sV s.cps.toList = s := by
  cases s
  simp [sV]
/-- a key -/
def kD : Key → D
  | .inl i => .int i
  | .inr x => .str x.cps.toList
def ktD (k : List Key) : D := .tup (k.map kD)
/-- a tuple of the written part -/
def KT (K : Frag) (a : Addr) (xs : List V) : Prop :=
  ∃ (o : Obj) (its : Array Value) (n : Nat), K.lookup a = some o ∧ o.cls = .type "tuple" ∧ o.data = .seq its n ∧ its.size ≤ sizeLine ∧ Vals xs its.toList
/-- a tuple that does not change -/
def FzT (K : Frag) (M : Addr → Prop) (H : Hp) (a : Addr) (xs : List V) : Prop := (H a = some (.tup xs) ∧ ¬ M a) ∨ KT K a xs
def FzL (M : Addr → Prop) (H : Hp) (a : Addr) (xs : List V) : Prop := H a = some (.lst xs) ∧ ¬ M a
/-- the script -/
def FzS (K : Frag) (M : Addr → Prop) (H : Hp) (a : Addr) (xs : List V) : Prop := (Rd H a (.lst xs) ∧ ¬ M a) ∨
  ∃ (o : Obj) (its : Array Value) (n : Nat), K.lookup a = some o ∧ o.cls = .type "list" ∧ o.dict = none ∧ o.data = .seq its n ∧ its.size ≤ sizeLine ∧ Vals xs its.toList
theorem FzS.sq {K : Frag} {M : Addr → Prop} {H : Hp} {a : Addr} {xs : List V} (h : FzS K M H a xs) : SqL K H a xs := by
  rcases h with h | h
  · exact .inl h.1
  · exact .inr h
theorem FzT.sq {K : Frag} {M : Addr → Prop} {H : Hp} {a : Addr} {xs : List V} (h : FzT K M H a xs) : SqT K H a xs := by
  rcases h with h | h
  · exact .inl (.inl h.1)
  · exact .inr h
theorem FzL.sq {K : Frag} {M : Addr → Prop} {H : Hp} {a : Addr} {xs : List V} (h : FzL M H a xs) : SqL K H a xs := .inl (.inl h.1)
/-- the names of fields -/
def fName : Nat → Str
  | 0 => "rows"
  | 1 => "count"
  | 2 => "piece"
  | 3 => "events"
  | 4 => "now"
  | 5 => "place"
  | 6 => "sounding"
  | 7 => "some"
  | _ => "running"
mutual
/-- data d stands at the value v -/
inductive RV (P : Pm) (M : Addr → Prop) (H : Hp) : D → V → Prop
  | non : RV P M H .non .non
  | bl (b : Bool) : RV P M H (.bl b) (.bl b)
  | int (i : Int) : RV P M H (.int i) (.int i)
  | str (x : List Nat) : RV P M H (.str x) (.str (sV x))
  | tup {a : Addr} {vs : List V} {ds : List D} : H a = some (.tup vs) → ¬ M a → RVs P M H ds vs → RV P M H (.tup ds) (.ref a)
  | ktup {a : Addr} {vs : List V} {ds : List D} : KT P.K a vs → isKey (.tup ds) = false → RVs P M H ds vs → RV P M H (.tup ds) (.ref a)
  | lst {a : Addr} {vs : List V} {ds : List D} : FzL M H a vs → RVs P M H ds vs → RV P M H (.lst ds) (.ref a)
  | dK {a : Addr} {kvs : List (Key × V)} {ds : List D} : H a = some (.dK kvs) → ¬ M a → RVs P M H ds (kvs.map (·.2)) → RV P M H (.dct false (kvs.map fun p => kD p.1) ds) (.ref a)
  | dT {a : Addr} {kvs : List (List Key × V)} {ds : List D} : H a = some (.dT kvs) → ¬ M a → RVs P M H ds (kvs.map (·.2)) → RV P M H (.dct true (kvs.map fun p => ktD p.1) ds) (.ref a)
  | snd {a dx m : Addr} {kvs : List (List Key × V)} {ds : List D} {c : Int} : H a = some (.ins (P.cls 7) dx [("rows", .ref m), ("count", .int c)]) → H dx = some (.own a) → ¬ M a → H m = some (.dT kvs) → ¬ M m →
      RVs P M H ds (kvs.map (·.2)) → RV P M H (.snd (kvs.map fun p => ktD p.1) ds c) (.ref a)
  | scr {a : Addr} {ns : List Int} : FzS P.K M H a (ns.map V.int) → RV P M H (.scr ns) (.ref a)
inductive RVs (P : Pm) (M : Addr → Prop) (H : Hp) : List D → List V → Prop
  | nil : RVs P M H [] []
  | cons {d : D} {v : V} {ds : List D} {vs : List V} : RV P M H d v → RVs P M H ds vs → RVs P M H (d :: ds) (v :: vs)
end
section
variable {P : Pm} {M M' : Addr → Prop} {H H' : Hp}
theorem RVs.length : ∀ {ds : List D} {vs : List V}, RVs P M H ds vs → ds.length = vs.length
  | _, _, .nil => rfl
  | _, _, .cons _ t => by rw [List.length_cons, List.length_cons, RVs.length t]
/-- what is kept -/
structure Stp (M : Addr → Prop) (H : Hp) (M' : Addr → Prop) (H' : Hp) : Prop where
  keep : ∀ a o, H a = some o → ¬ M a → H' a = some o
  new : ∀ a, M' a → M a ∨ H a = none
theorem Stp.refl : Stp M H M H := ⟨fun _ _ h _ => h, fun _ h => .inl h⟩
theorem Stp.trans {M1 : Addr → Prop} {H1 : Hp} (a : Stp M H M1 H1) (b : Stp M1 H1 M' H') : Stp M H M' H' := by
  refine ⟨fun x o h n => ?_, fun x h => ?_⟩
  · refine b.keep x o (a.keep x o h n) fun m => ?_
    rcases a.new x m with q | q
    · exact n q
    · rw [h] at q; cases q
  · rcases b.new x h with q | q
    · exact a.new x q
    · cases e : H x with
      | none => exact .inr rfl
      | some o =>
        by_cases m : M x
        · exact .inl m
        · rw [a.keep x o e m] at q; cases q
theorem Stp.out {a : Addr} {o : HO} (s : Stp M H M' H') (h : H a = some o) (n : ¬ M a) : ¬ M' a := fun m => by
  rcases s.new a m with q | q
  · exact n q
  · rw [h] at q; cases q
theorem FzT.mono {a : Addr} {xs : List V} (s : Stp M H M' H') (h : FzT P.K M H a xs) : FzT P.K M' H' a xs := by
  rcases h with ⟨h, n⟩ | h
  · exact .inl ⟨s.keep a _ h n, s.out h n⟩
  · exact .inr h
theorem FzL.mono {a : Addr} {xs : List V} (s : Stp M H M' H') (h : FzL M H a xs) : FzL M' H' a xs := by
  exact ⟨s.keep a _ h.1 h.2, s.out h.1 h.2⟩
theorem FzS.mono {a : Addr} {xs : List V} (s : Stp M H M' H') (h : FzS P.K M H a xs) : FzS P.K M' H' a xs := by
  rcases h with ⟨h, n⟩ | h
  · rcases h with h | ⟨o, h⟩
    · exact .inl ⟨.inl (s.keep a _ h n), s.out h n⟩
    · exact .inl ⟨.inr ⟨o, s.keep a _ h n⟩, s.out h n⟩
  · exact .inr h
/-- own dicts of instances are not changeable things -/
def OwnOut (M : Addr → Prop) (H : Hp) : Prop := ∀ a x, H a = some (.own x) → ¬ M a
mutual
theorem RV.mono (s : Stp M H M' H') (ow : OwnOut M H) : ∀ {d : D} {v : V}, RV P M H d v → RV P M' H' d v
  | _, _, .non => .non
  | _, _, .bl b => .bl b
  | _, _, .int i => .int i
  | _, _, .str x => .str x
  | _, _, .tup h n t => .tup (s.keep _ _ h n) (s.out h n) (RVs.mono s ow t)
  | _, _, .ktup h n t => .ktup h n (RVs.mono s ow t)
  | _, _, .lst h t => .lst (h.mono s) (RVs.mono s ow t)
  | _, _, .dK h n t => .dK (s.keep _ _ h n) (s.out h n) (RVs.mono s ow t)
  | _, _, .dT h n t => .dT (s.keep _ _ h n) (s.out h n) (RVs.mono s ow t)
  | _, _, .snd h h1 n h2 n2 t => .snd (s.keep _ _ h n) (s.keep _ _ h1 (ow _ _ h1)) (s.out h n) (s.keep _ _ h2 n2) (s.out h2 n2) (RVs.mono s ow t)
  | _, _, .scr h => .scr (h.mono s)
theorem RVs.mono (s : Stp M H M' H') (ow : OwnOut M H) : ∀ {ds : List D} {vs : List V}, RVs P M H ds vs → RVs P M' H' ds vs
  | _, _, .nil => .nil
  | _, _, .cons h t => .cons (RV.mono s ow h) (RVs.mono s ow t)
end
theorem RVs.append : ∀ {ds es : List D} {vs ws : List V}, RVs P M H ds vs → RVs P M H es ws → RVs P M H (ds ++ es) (vs ++ ws)
  | _, _, _, _, .nil, t => t
  | _, _, _, _, .cons h r, t => .cons h (RVs.append r t)
theorem RVs.get : ∀ {ds : List D} {vs : List V} {i : Nat} {d : D}, RVs P M H ds vs → ds[i]? = some d → ∃ v, vs[i]? = some v ∧ RV P M H d v
  | _, _, _, _, .nil, e => by simp at e
  | _, _, 0, _, .cons h _, e => by
    simp at e
    subst e
    exact ⟨_, by simp, h⟩
  | _, _, i + 1, _, .cons _ t, e => by
    obtain ⟨v, h1, h2⟩ := RVs.get (i := i) t (by simpa using e)
    exact ⟨v, by simpa using h1, h2⟩
theorem RVs.set : ∀ {ds : List D} {vs : List V} (i : Nat) {d : D} {v : V}, RV P M H d v → RVs P M H ds vs → RVs P M H (ds.set i d) (vs.set i v)
  | _, _, _, _, _, _, .nil => .nil
  | _, _, 0, _, _, h, .cons _ t => .cons h t
  | _, _, i + 1, _, _, h, .cons q t => .cons q (RVs.set i h t)
theorem RVs.take : ∀ {ds : List D} {vs : List V} (n : Nat), RVs P M H ds vs → RVs P M H (ds.take n) (vs.take n)
  | _, _, 0, _ => .nil
  | _, _, _ + 1, .nil => .nil
  | _, _, n + 1, .cons h t => .cons h (RVs.take n t)
theorem RVs.drop : ∀ {ds : List D} {vs : List V} (n : Nat), RVs P M H ds vs → RVs P M H (ds.drop n) (vs.drop n)
  | _, _, 0, h => h
  | _, _, _ + 1, .nil => .nil
  | _, _, n + 1, .cons _ t => RVs.drop n t
theorem RVs.reverse : ∀ {ds : List D} {vs : List V}, RVs P M H ds vs → RVs P M H ds.reverse vs.reverse
  | _, _, .nil => .nil
  | _, _, .cons h t => by
    rw [List.reverse_cons, List.reverse_cons]
    exact RVs.append (RVs.reverse t) (.cons h .nil)
theorem RVs.cut {ds : List D} {vs : List V} (a b : Nat) (h : RVs P M H ds vs) : RVs P M H (Nt.cut ds a b) (Nt.cut vs a b) := (h.drop a).take (b - a)
theorem RVs.flatten : ∀ (n : Nat) {ds : List D} {vs : List V}, RVs P M H ds vs → RVs P M H (List.replicate n ds).flatten (List.replicate n vs).flatten
  | 0, _, _, _ => .nil
  | n + 1, _, _, h => by
    rw [List.replicate_succ, List.replicate_succ, List.flatten_cons, List.flatten_cons]
    exact h.append (RVs.flatten n h)
theorem RVs.ints : ∀ {ds : List D} {vs : List V} {is : List Int}, RVs P M H ds vs → allInts ds = some is → vs = is.map V.int
  | _, _, _, .nil, e => by
    simp [allInts] at e
    subst e
    rfl
  | _, _, is, .cons h t, e => by
    cases h <;> simp [allInts] at e
    obtain ⟨r, e1, rfl⟩ := e
    rw [RVs.ints t e1]
    rfl
theorem RVs.bls : ∀ {ds : List D} {vs : List V} {is : List Bool}, RVs P M H ds vs → allBls ds = some is → vs = is.map V.bl
  | _, _, _, .nil, e => by
    simp [allBls] at e
    subst e
    rfl
  | _, _, is, .cons h t, e => by
    cases h <;> simp [allBls] at e
    obtain ⟨r, e1, rfl⟩ := e
    rw [RVs.bls t e1]
    rfl
theorem RVs.strs : ∀ {ds : List D} {vs : List V} {is : List (List Nat)}, RVs P M H ds vs → strAll ds = some is → vs = is.map fun x => V.str (sV x)
  | _, _, _, .nil, e => by
    simp [strAll] at e
    subst e
    rfl
  | _, _, is, .cons h t, e => by
    cases h <;> simp [strAll] at e
    obtain ⟨r, e1, rfl⟩ := e
    rw [RVs.strs t e1]
    rfl
end
/-! ### the store's cells -/
/-- the roots of the cells -/
def root (ρ : List (List Addr)) (n : Nat) : Option Addr := (ρ[n]?).bind fun fp => fp.head?
def FvOk (P : Pm) (M : Addr → Prop) (H : Hp) (ρ : List (List Addr)) : FV → V → Prop
  | .val d, v => RV P M H d v
  | .ref n, v => ∃ a, root ρ n = some a ∧ v = .ref a
inductive FsOk (P : Pm) (M : Addr → Prop) (H : Hp) (ρ : List (List Addr)) : List (Nat × FV) → List (Str × V) → Prop
  | nil : FsOk P M H ρ [] []
  | cons {k : Nat} {f : FV} {v : V} {fs : List (Nat × FV)} {vs : List (Str × V)} : k ≤ 8 → FvOk P M H ρ f v → FsOk P M H ρ fs vs → FsOk P M H ρ ((k, f) :: fs) ((fName k, v) :: vs)
/-- the lists of a Sounds -/
inductive LsOk (P : Pm) (M : Addr → Prop) (H : Hp) : List D → List V → List Addr → Prop
  | nil : LsOk P M H [] [] []
  | cons {b : Addr} {ds : List D} {vs : List V} {es : List D} {ws : List V} {bs : List Addr} : H b = some (.lst vs) → RVs P M H ds vs → LsOk P M H es ws bs → LsOk P M H (.lst ds :: es) (.ref b :: ws) (b :: bs)
inductive CellOk (P : Pm) (M : Addr → Prop) (H : Hp) (ρ : List (List Addr)) : SO → List Addr → Prop
  | lst {a : Addr} {ds : List D} {vs : List V} : H a = some (.lst vs) → RVs P M H ds vs → CellOk P M H ρ (.lst ds) [a]
  | dK {a : Addr} {kvs : List (Key × V)} {ds : List D} : H a = some (.dK kvs) → RVs P M H ds (kvs.map (·.2)) → CellOk P M H ρ (.dct false (kvs.map fun p => kD p.1) ds) [a]
  | dT {a : Addr} {kvs : List (List Key × V)} {ds : List D} : H a = some (.dT kvs) → RVs P M H ds (kvs.map (·.2)) → CellOk P M H ρ (.dct true (kvs.map fun p => ktD p.1) ds) [a]
  | snd {a dx m : Addr} {kvs : List (List Key × V)} {ds : List D} {bs : List Addr} {c : Int} : H a = some (.ins (P.cls 7) dx [("rows", .ref m), ("count", .int c)]) → H dx = some (.own a) → H m = some (.dT kvs) →
      LsOk P M H ds (kvs.map (·.2)) bs → CellOk P M H ρ (.snd (kvs.map fun p => ktD p.1) ds c) (a :: m :: bs)
  | ins {a dx : Addr} {c : Nat} {fs : List (Nat × FV)} {vs : List (Str × V)} : H a = some (.ins (P.cls c) dx vs) → H dx = some (.own a) → c = 8 ∨ c = 9 → FsOk P M H ρ fs vs → fs.length ≤ 9 → CellOk P M H ρ (.ins c fs) [a]
inductive CellsOk (P : Pm) (M : Addr → Prop) (H : Hp) (ρ : List (List Addr)) : Store → List (List Addr) → Prop
  | nil : CellsOk P M H ρ [] []
  | cons {o : SO} {fp : List Addr} {s : Store} {fps : List (List Addr)} : CellOk P M H ρ o fp → CellsOk P M H ρ s fps → CellsOk P M H ρ (o :: s) (fp :: fps)
abbrev inR (ρ : List (List Addr)) : Addr → Prop := fun a => a ∈ ρ.flatten
/-- slot i holds something of its own, at a -/
def Ow (σ : L2.St) (e : Env) (a : Addr) : Prop := ∃ (i : Nat) (o : SO), e[i]? = some (some (Slot.own o)) ∧ σ[i]? = some (some (V.ref a))
abbrev Mu (Z : Addr → Prop) (ρ : List (List Addr)) (σ : L2.St) (e : Env) : Addr → Prop := fun a => Z a ∨ inR ρ a ∨ Ow σ e a
inductive SlotOk (P : Pm) (M : Addr → Prop) (H : Hp) (ρ : List (List Addr)) : Slot → V → Prop
  | val {d : D} {v : V} : RV P M H d v → SlotOk P M H ρ (.val d) v
  | ref {n : Nat} {a : Addr} : root ρ n = some a → SlotOk P M H ρ (.ref n) (.ref a)
  | own {o : SO} {a : Addr} : CellOk P M H ρ o [a] → ¬ inR ρ a → SlotOk P M H ρ (.own o) (.ref a)
/-- the store alone; M: all that may not be in data -/
structure Rs (P : Pm) (M : Addr → Prop) (ρ : List (List Addr)) (H : Hp) (s : Store) : Prop where
  cells : CellsOk P M H ρ s ρ
  nd : ρ.flatten.Nodup
  here : ∀ a, M a → Mut (H a)
  sub : ∀ a, inR ρ a → M a
theorem own_out {M : Addr → Prop} {H : Hp} (h : ∀ a, M a → Mut (H a)) : OwnOut M H := fun a x e m => by
  have := h a m
  rw [e] at this
  exact this
theorem tup_out {M : Addr → Prop} {H : Hp} (h : ∀ a, M a → Mut (H a)) {a : Addr} {xs : List V} (e : H a = some (.tup xs)) : ¬ M a := fun m => by
  have := h a m
  rw [e] at this
  exact this
theorem Rs.out {P : Pm} {M : Addr → Prop} {ρ : List (List Addr)} {H : Hp} {s : Store} (h : Rs P M ρ H s) : OwnOut M H := own_out h.here
/-- the store and the slots; Z: what is forbidden from outside -/
structure Rp (P : Pm) (Z : Addr → Prop) (ρ : List (List Addr)) (H : Hp) (σ : L2.St) (e : Env) (s : Store) : Prop where
  rs : Rs P (Mu Z ρ σ e) ρ H s
  len : e.length = σ.length
  slot : ∀ (i : Nat) (x : Slot), e[i]? = some (some x) → ∃ v, σ[i]? = some (some v) ∧ SlotOk P (Mu Z ρ σ e) H ρ x v
  apart : ∀ (i j : Nat) (o o' : SO) (a : Addr), e[i]? = some (some (Slot.own o)) → e[j]? = some (some (Slot.own o')) → σ[i]? = some (some (V.ref a)) → σ[j]? = some (some (V.ref a)) → i = j
  oz : ∀ a, Ow σ e a → ¬ Z a
/-- what an expression, a call leaves: all but the cells; new cells are new -/
structure Ex (ρ : List (List Addr)) (H : Hp) (ρ' : List (List Addr)) (H' : Hp) : Prop where
  keep : ∀ a o, H a = some o → ¬ inR ρ a → H' a = some o
  new : ∀ a, inR ρ' a → inR ρ a ∨ H a = none
  roots : ∀ n a, root ρ n = some a → root ρ' n = some a
theorem Ex.refl {ρ : List (List Addr)} {H : Hp} : Ex ρ H ρ H := ⟨fun _ _ h _ => h, fun _ h => .inl h, fun _ _ h => h⟩
theorem Ex.stp {ρ ρ' : List (List Addr)} {H H' : Hp} (x : Ex ρ H ρ' H') : Stp (inR ρ) H (inR ρ') H' := ⟨x.keep, x.new⟩
theorem Ex.trans {ρ ρ1 ρ2 : List (List Addr)} {H H1 H2 : Hp} (a : Ex ρ H ρ1 H1) (b : Ex ρ1 H1 ρ2 H2) : Ex ρ H ρ2 H2 :=
  ⟨(a.stp.trans b.stp).keep, (a.stp.trans b.stp).new, fun n x h => b.roots n x (a.roots n x h)⟩
theorem Ex.mu {Z : Addr → Prop} {ρ ρ' : List (List Addr)} {σ : L2.St} {e : Env} {H H' : Hp} (x : Ex ρ H ρ' H') : Stp (Mu Z ρ σ e) H (Mu Z ρ' σ e) H' := by
  refine ⟨fun a o h n => x.keep a o h fun m => n (.inr (.inl m)), fun a h => ?_⟩
  rcases h with h | h | h
  · exact .inl (.inl h)
  · rcases x.new a h with q | q
    · exact .inl (.inr (.inl q))
    · exact .inr q
  · exact .inl (.inr (.inr h))
theorem Ex.z {M : Addr → Prop} {ρ ρ' : List (List Addr)} {H H' : Hp} (x : Ex ρ H ρ' H') (hs : ∀ a, inR ρ a → M a) : Stp M H (fun a => M a ∨ inR ρ' a) H' := by
  refine ⟨fun a o h n => x.keep a o h fun m => n (hs a m), fun a h => ?_⟩
  rcases h with h | h
  · exact .inl h
  · rcases x.new a h with q | q
    · exact .inl (hs a q)
    · exact .inr q
section
variable {P : Pm} {M M' : Addr → Prop} {H : Hp}
mutual
theorem RV.less (k : ∀ a, M' a → M a) : ∀ {d : D} {v : V}, RV P M H d v → RV P M' H d v
  | _, _, .non => .non
  | _, _, .bl b => .bl b
  | _, _, .int i => .int i
  | _, _, .str x => .str x
  | _, _, .tup h n t => .tup h (fun m => n (k _ m)) (RVs.less k t)
  | _, _, .ktup h n t => .ktup h n (RVs.less k t)
  | _, _, .lst h t => .lst ⟨h.1, fun m => h.2 (k _ m)⟩ (RVs.less k t)
  | _, _, .dK h n t => .dK h (fun m => n (k _ m)) (RVs.less k t)
  | _, _, .dT h n t => .dT h (fun m => n (k _ m)) (RVs.less k t)
  | _, _, .snd h h1 n h2 n2 t => .snd h h1 (fun m => n (k _ m)) h2 (fun m => n2 (k _ m)) (RVs.less k t)
  | _, _, .scr h => .scr (by
    rcases h with ⟨h, n⟩ | h
    · exact .inl ⟨h, fun m => n (k _ m)⟩
    · exact .inr h)
theorem RVs.less (k : ∀ a, M' a → M a) : ∀ {ds : List D} {vs : List V}, RVs P M H ds vs → RVs P M' H ds vs
  | _, _, .nil => .nil
  | _, _, .cons h t => .cons (RV.less k h) (RVs.less k t)
end
theorem FsOk.imp {H' : Hp} {ρ ρ' : List (List Addr)} (f : ∀ d v, RV P M H d v → RV P M' H' d v) (g : ∀ n a, root ρ n = some a → root ρ' n = some a) : ∀ {fs : List (Nat × FV)} {vs : List (Str × V)}, FsOk P M H ρ fs vs → FsOk P M' H' ρ' fs vs
  | _, _, .nil => .nil
  | _, _, .cons (f := fv) hk h t => .cons hk (by
    cases fv with
    | val d => exact f _ _ h
    | ref n =>
      obtain ⟨a, h1, h2⟩ := h
      exact ⟨a, g _ _ h1, h2⟩) (FsOk.imp f g t)
end
end Nt
set_option Elab.async false
set_option linter.all false
set_option maxRecDepth 100000
set_option maxHeartbeats 4000000
set_option autoImplicit false
/-! E3a: tuple * int of any kind -/
namespace Nt
open PySem PySem.Spec PyProof.Rows L2
theorem nt_mul1 (l : Addr) (items : Array Value) (n : Nat) (dd : Option Addr) (sl : Array (Option Value)) (x : Int) (u : Tok) (c0 : (decide (x < -(2 ^ 63)) || decide (x ≥ 2 ^ 63)) = false) (c1 : (items.isEmpty || x == 1) = true) :
    Meets (Builtin.«tuple.__mul__» ⟨[.ref l, .int x u], []⟩) (fun _ R s => s.heap.get? l = some { cls := .type "tuple", dict := dd, data := .seq items n, slots := sl } ∧
      R (.ok (.ret (Value.ref l))) s) :=
  .of_wp fun prog w A R s h => by
    obtain ⟨hp, g, d, tk, os⟩ := s
    obtain ⟨hl, h⟩ := h
    have f1 := AutoSeq1.idx_int
    wp_walk using wpAny_loadPart' hl
    refine wpAny_ite_false (decide_eq_false (by rw [c0]; exact Bool.false_ne_true)) ?_
    wp_walk using wpAny_loadPart' hl
    exact ⟨_, rfl, h⟩
theorem nt_mul0 (l : Addr) (items : Array Value) (n : Nat) (dd : Option Addr) (sl : Array (Option Value)) (x : Int) (u : Tok) (c0 : (decide (x < -(2 ^ 63)) || decide (x ≥ 2 ^ 63)) = false) (c1 : (items.isEmpty || x == 1) = false) (c2 : (decide (x ≤ 0) || items.isEmpty) = true) :
    Meets (Builtin.«tuple.__mul__» ⟨[.ref l, .int x u], []⟩) (fun _ R s => s.heap.get? l = some { cls := .type "tuple", dict := dd, data := .seq items n, slots := sl } ∧
      R (.ok (.ret (Value.ref s.heap.objs.size))) { s with heap := s.heap.push { cls := Value.type "tuple", data := Data.seq #[] }, toks := s.toks }) :=
  .of_wp fun prog w A R s h => by
    obtain ⟨hp, g, d, tk, os⟩ := s
    obtain ⟨hl, h⟩ := h
    have f1 := AutoSeq1.idx_int
    wp_walk using wpAny_loadPart' hl
    refine wpAny_ite_false (decide_eq_false (by rw [c0]; exact Bool.false_ne_true)) ?_
    wp_walk using wpAny_loadPart' hl
    exact ⟨_, rfl, h⟩
/-- t * k: the whole of it is t itself -/
def rRepA (K : Frag) : R2 := fun x y H Q => ∃ l k xs, x = .ref l ∧ y = .int k ∧ SqT K H l xs ∧ -(2 ^ 63) ≤ k ∧ k < 2 ^ 63 ∧ xs.length * k.toNat ≤ 1000000 ∧
  (xs = [] ∨ k = 1 → Q (.ref l) H) ∧ (¬ (xs = [] ∨ k = 1) → ∀ p, H p = none → Q (.ref p) (upd H p (.tup (List.replicate k.toNat xs).flatten)))
section
variable {X : Cx}
theorem op_repA : OpR X (binaryOp .Mult) (rRepA X.K) := by
  intro pins s σ H x y v u Q I rx ry h
  obtain ⟨l, k, xs, rfl, rfl, hT, h1, h2, hz, q1, q2⟩ := h
  cases rx
  obtain ⟨t, rfl⟩ := ry
  obtain ⟨its, r, ⟨⟨cls, dd, data, sl⟩, ho, hc, n, hd⟩, hs⟩ := I.tuple hT
  simp only at hc hd
  subst hc hd
  have hle : its.length = xs.length := r.length.symm
  have hsz0 : its.toArray.size = xs.length := by rw [List.size_toArray, hle]
  have hi : its.toArray.isEmpty = decide (xs = []) := by
    cases its with
    | nil =>
      have : xs = [] := List.eq_nil_of_length_eq_zero hle.symm
      subst this
      rfl
    | cons a b =>
      have : xs ≠ [] := fun e => by subst e; simp at hle
      simp [this]
  have c0 : (decide (k < -(2 ^ 63)) || decide (k ≥ 2 ^ 63)) = false := by
    rw [decide_eq_false (by omega), decide_eq_false (by omega)] <;> rfl
  by_cases hw : xs = [] ∨ k = 1
  · have c1 : (its.toArray.isEmpty || k == 1) = true := by
      rw [hi]
      rcases hw with hw | hw
      · rw [decide_eq_true hw]; rfl
      · rw [hw]; simp
    refine wpAny_binaryOp_repeat_ref (T := "tuple") (U := "int") (by decide) ⟨_, ho, rfl⟩ (fun s' => typeIs_int s' k t) noFill_tuple_mul F.fills_int_mul F.slot_int_rmul repeat_tuple F.slot_int_index.lookup
      (call_meets F.slot_int_rmul (typeIs_int s k t) F.entry_int_rmul (F.args_int_rmul_2 _ _) (int_rmul_tuple k t l its.toArray n dd sl)
        ⟨ho, rfl, ⟨_, ho, rfl⟩, call_meets F.slot_tuple_mul ⟨_, ho, rfl⟩ F.entry_tuple_mul (F.args_tuple_mul_2 _ _) (nt_mul1 l its.toArray n dd sl k t c0 c1) ⟨ho, ?_⟩⟩)
    exact ⟨.ref l, H, I, rfl, q1 hw⟩
  · have hne : xs ≠ [] := fun e => hw (.inl e)
    have hk1 : k ≠ 1 := fun e => hw (.inr e)
    have c1 : (its.toArray.isEmpty || k == 1) = false := by
      rw [hi, decide_eq_false hne, Bool.false_or]
      exact beq_eq_false_iff_ne.mpr hk1
    by_cases hk : k ≤ 0
    · have c2 : (decide (k ≤ 0) || its.toArray.isEmpty) = true := by rw [decide_eq_true hk]; rfl
      refine wpAny_binaryOp_repeat_ref (T := "tuple") (U := "int") (by decide) ⟨_, ho, rfl⟩ (fun s' => typeIs_int s' k t) noFill_tuple_mul F.fills_int_mul F.slot_int_rmul repeat_tuple F.slot_int_index.lookup
        (call_meets F.slot_int_rmul (typeIs_int s k t) F.entry_int_rmul (F.args_int_rmul_2 _ _) (int_rmul_tuple k t l its.toArray n dd sl)
          ⟨ho, rfl, ⟨_, ho, rfl⟩, call_meets F.slot_tuple_mul ⟨_, ho, rfl⟩ F.entry_tuple_mul (F.args_tuple_mul_2 _ _) (nt_mul0 l its.toArray n dd sl k t c0 c1 c2) ⟨ho, ?_⟩⟩)
      have e : (List.replicate k.toNat xs).flatten = [] := by
        have : k.toNat = 0 := by omega
        rw [this]; rfl
      have q := q2 hw
      rw [e] at q
      refine ⟨.ref s.heap.objs.size, _, I.laid (t' := s.toks) (o := .tup []) (fun b ob q => Heap.get?_push_of_some _ q) (Nat.le_refl _) ?_, rfl, q _ (I.hok.fresh (Nat.le_refl _))⟩
      exact ⟨by rw [sizeLine_eq]; exact Nat.zero_le _, [], .nil, IsTup.new _ _⟩
    · have c2 : (decide (k ≤ 0) || its.toArray.isEmpty) = false := by
        rw [hi, decide_eq_false hne, Bool.or_false]; exact decide_eq_false hk
      have hm : ((its.toArray.size : Nat) : Int) * k ≤ 1000000 := by
        rw [hsz0]
        have e1 : (k.toNat : Int) = k := by omega
        rw [← e1, ← Int.natCast_mul]
        omega
      have flen : (List.replicate k.toNat its).flatten.length ≤ sizeLine := by
        rw [PyProof.Rows.lm_len_rep_flat, hle, sizeLine_eq, Nat.mul_comm]
        omega
      have c4 : Builtin.Tuple.tupleTooMany (((its.toArray.size : Nat) : Int) * k) = false := by
        unfold Builtin.Tuple.tupleTooMany
        rw [sizeLine_eq]
        exact decide_eq_false (by omega)
      refine wpAny_binaryOp_repeat_ref (T := "tuple") (U := "int") (by decide) ⟨_, ho, rfl⟩ (fun s' => typeIs_int s' k t) noFill_tuple_mul F.fills_int_mul F.slot_int_rmul repeat_tuple F.slot_int_index.lookup
        (call_meets F.slot_int_rmul (typeIs_int s k t) F.entry_int_rmul (F.args_int_rmul_2 _ _) (int_rmul_tuple k t l its.toArray n dd sl)
          ⟨ho, rfl, ⟨_, ho, rfl⟩, call_meets F.slot_tuple_mul ⟨_, ho, rfl⟩ F.entry_tuple_mul (F.args_tuple_mul_2 _ _) (tuple_mulW l its.toArray n dd sl k t c0 c1 c2 (by omega) c4 (by rw [size_rep, List.size_toArray]; exact flen)) ⟨ho, ?_⟩⟩)
      rw [size_rep]
      refine ⟨.ref s.heap.objs.size, _, I.laid (t' := s.toks) (o := .tup (List.replicate k.toNat xs).flatten) (fun b ob q => Heap.get?_push_of_some _ q) (Nat.le_refl _) ?_, rfl, q2 hw _ (I.hok.fresh (Nat.le_refl _))⟩
      refine ⟨?_, _, r.rep k.toNat, IsTup.new _ _⟩
      rw [PyProof.Rows.lm_len_rep_flat, sizeLine_eq, Nat.mul_comm]
      omega
end
/-! ### t[::-1] -/
section
variable {prog : Program} {w : World} {A : Around} {E : Value → Shared → Prop} {s : Shared}
theorem adjust_rev (n : Nat) : Builtin.Slice.sliceAdjust none none (-1) (n : Int) = ((n : Int) - 1, -1) := rfl
theorem places_rev (n : Nat) : Builtin.Slice.slicePlaces ((n : Int) - 1) (-1) (-1) = n := by
  unfold Builtin.Slice.slicePlaces
  have h1 : ¬ ((-1 : Int) > 0) := by omega
  simp only [h1, if_false]
  split
  · simp <;> omega
  · omega
theorem pick_rev (xs : Array Value) : ((List.range xs.size).filterMap fun (m : Nat) => xs[(((xs.size : Int) - 1) + (m : Int) * (-1)).toNat]?) = xs.toList.reverse := by
  have e : ((List.range xs.size).filterMap fun (m : Nat) => xs[(((xs.size : Int) - 1) + (m : Int) * (-1)).toNat]?) = ((List.range xs.size).map fun k => xs.size - 1 - k).filterMap (xs[·]?) := by
    rw [List.filterMap_map]
    congr 1
    funext m
    have : (((xs.size : Int) - 1) + (m : Int) * (-1)).toNat = xs.size - 1 - m := by omega
    rw [this]
    rfl
  rw [e, PySem.W.krv_range, List.filterMap_reverse, PySem.W.krv_all]
theorem sliceApplied_rev {sl : Addr} {vl vu vs : Value} {n : Nat} {Q : Int × Int × Nat → Shared → Prop} (hs : s.heap.IsSliceOf sl vl vu vs) (pl : IsPart vl none) (pu : IsPart vu none) (ps : IsPart vs (some (-1)))
    (h : Q ((n : Int) - 1, -1, n) s) : wpAny (model prog w) A (Builtin.Slice.sliceApplied (.ref sl) (pure (n : Int))) Q E s := by
  obtain ⟨os, hos, hcs, hds⟩ := id hs
  unfold Builtin.Slice.sliceApplied Builtin.Slice.sliceFields
  refine wpAny_bind (wpAny_bind (wpAny_field hos hds (x := vl) rfl (wpAny_bind (wpAny_field hos hds (x := vu) rfl (wpAny_bind (wpAny_field hos hds (x := vs) rfl (wpAny_pure ?_)))))))
  refine wpAny_bind (HT.slicePart_ ps ?_)
  show wpAny _ _ (if ((-1 : Int) == 0) = true then _ else _) _ _ s
  rw [if_neg (by decide)]
  refine wpAny_bind (HT.slicePart_ pl (wpAny_bind (HT.slicePart_ pu (wpAny_bind (wpAny_pure ?_)))))
  show wpAny _ _ (match Builtin.Slice.sliceAdjust none none (-1) (n : Int) with | (lo, hi) => pure (lo, (-1 : Int), Builtin.Slice.slicePlaces lo hi (-1))) _ _ s
  rw [adjust_rev]
  show wpAny _ _ (pure ((n : Int) - 1, (-1 : Int), Builtin.Slice.slicePlaces ((n : Int) - 1) (-1) (-1))) _ _ s
  rw [places_rev]
  exact wpAny_pure h
open HT in
theorem getItem_tuple_rev {t sl : Addr} {items : Array Value} {vl vu vs : Value} {Q : Value → Shared → Prop} (ht : IsTup s.heap t items) (hs : s.heap.IsSliceOf sl vl vu vs) (pl : IsPart vl none) (pu : IsPart vu none) (ps : IsPart vs (some (-1)))
    (hsz : items.size ≤ sizeLine)
    (h : Q (.ref s.heap.objs.size) { s with heap := s.heap.push { cls := .type "tuple", data := .seq items.toList.reverse.toArray } }) : wpAny (model prog w) A (getItem (.ref t) (.ref sl)) Q E s := by
  obtain ⟨os, hos, hcs, hds⟩ := id hs
  have hTs : s.TypeIs (.ref sl) "slice" := ⟨os, hos, hcs⟩
  unfold getItem
  try with_reducible refine wpAny_holding ?_
  first | refine wpAny_bind (wpAny_pure ?_) | skip
  refine wpAny_bind (wpAny_sequenceKey ht.typeIs (by decide) ?_)
  refine wpAny_bind (wpAny_callSpecial?_slot (name := Str.ofString "__getitem__") ht.typeIs PyProof.Rows.slot_tuple_getitem
    (wpAny_call_entry PyProof.Rows.slot_tuple_getitem ht.typeIs entry_tuple_getitem ?_ (args_tuple_getitem _ _)))
  show wpAny _ _ (Builtin.Tuple.tupleItemsOf (.ref t) >>= _) _ _ s
  refine wpAny_bind (tupleItemsOf_ ht ?_)
  refine wpAny_bind (wpAny_typeOf hTs ?_)
  rw [if_pos (by decide)]
  refine wpAny_bind (sliceApplied_rev hs pl pu ps ?_)
  show wpAny _ _ (if ((items.size : Int) - 1 == 0 && (-1 : Int) == 1 && items.size == items.size) = true then _ else _) _ _ s
  rw [if_neg (by rw [show ((-1 : Int) == 1) = false from rfl, Bool.and_false, Bool.false_and]; exact Bool.false_ne_true), pick_rev]
  have htake : sizeOk (.seq items.toList.reverse.toArray) := by
    show items.toList.reverse.toArray.size ≤ sizeLine
    rw [List.size_toArray, List.length_reverse, Array.length_toList]
    exact hsz
  first
    | exact wpAny_bind (m := Builtin.Tuple.tupleExact _) (wpAny_newObj_type (wpAny_pure ⟨_, rfl, wpAny_pure h⟩) htake)
    | exact wpAny_bind (m := Builtin.Tuple.tupleExact _) (wpAny_newObj_type (wpAny_bind (wpAny_pure (wpAny_pure ⟨_, rfl, wpAny_pure h⟩))) htake)
    | exact wpAny_bind (wpAny_bind (m := Builtin.Tuple.tupleExact _) (wpAny_newObj_type (wpAny_pure (wpAny_pure ⟨_, rfl, wpAny_pure h⟩)) htake))
    | exact wpAny_bind (wpAny_bind (m := Builtin.Tuple.tupleExact _) (wpAny_newObj_type (wpAny_pure ⟨_, rfl, wpAny_pure h⟩) htake))
end
/-- xs[::-1] of a list or a tuple -/
def tRevA (K : Frag) (te : TE) : TE := fun σ H Q => te σ H fun x H1 => ∃ a xs, x = .ref a ∧ ((SqL K H1 a xs ∧ ∀ p, H1 p = none → Q (.ref p) (upd H1 p (.lst xs.reverse))) ∨ (SqT K H1 a xs ∧ ∀ p, H1 p = none → Q (.ref p) (upd H1 p (.tup xs.reverse))))
theorem pe_revA {X : Cx} {e : Expr} {te : TE} {k : Nat} {p1 p2 p3 pos : Pos} (he : L2.PE X e te) : L2.PE X (.Subscript e (.Slice none none (some (.UnaryOp .USub (.Constant (.int 1) k p1) p2)) p3) pos) (tRevA X.K te) := by
  refine ⟨fun pins s σ H Q I h => ?_⟩
  refine Subscript_ (thn (he.run pins s σ H _ I h) fun v s1 ⟨x, H1, I1, r1, q1⟩ => ?_)
  obtain ⟨a, xs, ex, q1⟩ := q1
  subst ex
  cases r1
  have hst : PO X (some (.UnaryOp .USub (.Constant (.int 1) k p1) p2)) (tPart (tUn (rU fun i => .int (-i)) (tC (.int 1)))) := po_some (pe_un un_neg pe_int)
  refine wpAny_Slice (thn (po_none.run pins s1 σ H1 (fun o H2 => o = none ∧ H2 = H1) I1 ⟨rfl, rfl⟩) fun vl s2 ⟨l, H2, I2, pl, el, e2⟩ => ?_)
  subst el e2
  refine thn (po_none.run pins s2 σ H2 (fun o H3 => o = none ∧ H3 = H2) I2 ⟨rfl, rfl⟩) fun vu s3 ⟨u, H3, I3, pu, eu, e3⟩ => ?_
  subst eu e3
  refine thn (hst.run pins s3 σ H3 (fun o H4 => o = some (-1) ∧ H4 = H3) I3 ⟨1, rfl, -1, rfl, rfl, rfl⟩) fun vs s4 ⟨o, H4, I4, ps, eo, e4⟩ => ?_
  subst eo e4
  have I5 : Inv X pins σ H4 { s4 with heap := s4.heap.push { cls := .type "slice", data := .fields #[vl, vu, vs] } } := I4.kept (t' := s4.toks) fun b ob q => Heap.get?_push_of_some _ q
  show wpAny (model X.prog X.w) X.A (subscriptTail e (.Slice none none (some (.UnaryOp .USub (.Constant (.int 1) k p1) p2)) p3) (.ref a) (.ref s4.heap.objs.size)) (EP X pins σ Q) X.xe { s4 with heap := s4.heap.push { cls := .type "slice", data := .fields #[vl, vu, vs] } }
  rcases q1 with ⟨hx, q⟩ | ⟨hx, q⟩
  · obtain ⟨its, r, ht, hz⟩ := I5.list hx
    have hlen := r.length
    refine tail_any (ops := [.ref a, .ref s4.heap.objs.size]) ht.isList.typeIs (PySem.slot_list_getitem.lookup) ?_ (by with_unfolding_all rfl)
    refine wpAny_getItem_list_slice ht.isList (Heap.IsSliceOf.new _ vl vu vs) pl pu ps (by decide) ?_ (by rw [List.size_toArray]; omega)
    rw [PySem.W.krv_pick]
    refine ⟨.ref _, _, I5.laid (t' := s4.toks) (o := .lst xs.reverse) (fun b ob q => Heap.get?_push_of_some _ q) (Nat.le_refl _) ?_, rfl, q _ (I5.hok.fresh (Nat.le_refl _))⟩
    exact ⟨by rw [List.length_reverse]; exact hz, _, 0, r.reverse, Heap.get?_push_size _ rfl⟩
  · obtain ⟨its, r, ht, hz⟩ := I5.tuple hx
    have hlen := r.length
    refine tail_any (ops := [.ref a, .ref s4.heap.objs.size]) ht.typeIs (PyProof.Rows.slot_tuple_getitem.lookup) ?_ (by with_unfolding_all rfl)
    refine getItem_tuple_rev ht (Heap.IsSliceOf.new _ vl vu vs) pl pu ps (by rw [List.size_toArray]; omega) ?_
    refine ⟨.ref _, _, I5.laid (t' := s4.toks) (o := .tup xs.reverse) (fun b ob q => Heap.get?_push_of_some _ q) (Nat.le_refl _) ?_, rfl, q _ (I5.hok.fresh (Nat.le_refl _))⟩
    exact ⟨by rw [List.length_reverse]; exact hz, _, r.reverse, IsTup.new _ _⟩
end Nt
set_option Elab.async false
set_option linter.all false
set_option maxRecDepth 100000
set_option maxHeartbeats 1000000
set_option autoImplicit false
/-! E2b: the operations on data are the model's -/
namespace Nt
open PySem PySem.Spec PyProof.Rows L2
abbrev Sm (H H' : Hp) : Prop := ∀ a o, H a = some o → H' a = some o
theorem Sm.refl {H : Hp} : Sm H H := fun _ _ h => h
theorem Sm.trans {H H' H'' : Hp} (a : Sm H H') (b : Sm H' H'') : Sm H H'' := fun x o h => b x o (a x o h)
theorem Sm.new {H : Hp} {p : Addr} {o : HO} (h : H p = none) : Sm H (upd H p o) := fun a u e => by rw [upd_ne (ne_of_none e h)]; exact e
abbrev Hr (M : Addr → Prop) (H : Hp) : Prop := ∀ a, M a → Mut (H a)
section
variable {P : Pm} {M : Addr → Prop} {H H' : Hp}
theorem Hr.out {p : Addr} (h : Hr M H) (e : H p = none) : ¬ M p := fun m => by
  have := h p m
  rw [e] at this
  exact this
theorem Hr.some {a : Addr} (h : Hr M H) (m : M a) : ∃ o, H a = some o ∧ Mut (some o) := by
  have := h a m
  cases e : H a with
  | none => rw [e] at this; exact this.elim
  | some o => rw [e] at this; exact ⟨o, rfl, this⟩
theorem Hr.sm (h : Hr M H) (s : Sm H H') : Hr M H' := fun a m => by
  obtain ⟨o, e, mu⟩ := h.some m
  rw [s a o e]
  exact mu
theorem FzT.sm {a : Addr} {xs : List V} (s : Sm H H') (h : FzT P.K M H a xs) : FzT P.K M H' a xs := by
  rcases h with ⟨h, n⟩ | h
  · exact .inl ⟨s a _ h, n⟩
  · exact .inr h
theorem FzL.sm {a : Addr} {xs : List V} (s : Sm H H') (h : FzL M H a xs) : FzL M H' a xs := by
  exact ⟨s a _ h.1, h.2⟩
theorem FzS.sm {a : Addr} {xs : List V} (s : Sm H H') (h : FzS P.K M H a xs) : FzS P.K M H' a xs := by
  rcases h with ⟨h, n⟩ | h
  · rcases h with h | ⟨o, h⟩
    · exact .inl ⟨.inl (s a _ h), n⟩
    · exact .inl ⟨.inr ⟨o, s a _ h⟩, n⟩
  · exact .inr h
mutual
theorem RV.sm (s : Sm H H') : ∀ {d : D} {v : V}, RV P M H d v → RV P M H' d v
  | _, _, .non => .non
  | _, _, .bl b => .bl b
  | _, _, .int i => .int i
  | _, _, .str x => .str x
  | _, _, .tup h n t => .tup (s _ _ h) n (RVs.sm s t)
  | _, _, .ktup h n t => .ktup h n (RVs.sm s t)
  | _, _, .lst h t => .lst (h.sm s) (RVs.sm s t)
  | _, _, .dK h n t => .dK (s _ _ h) n (RVs.sm s t)
  | _, _, .dT h n t => .dT (s _ _ h) n (RVs.sm s t)
  | _, _, .snd h h1 n h2 n2 t => .snd (s _ _ h) (s _ _ h1) n (s _ _ h2) n2 (RVs.sm s t)
  | _, _, .scr h => .scr (h.sm s)
theorem RVs.sm (s : Sm H H') : ∀ {ds : List D} {vs : List V}, RVs P M H ds vs → RVs P M H' ds vs
  | _, _, .nil => .nil
  | _, _, .cons h t => .cons (RV.sm s h) (RVs.sm s t)
end
/-- at the value itself also what may change -/
inductive RVw (P : Pm) (M : Addr → Prop) (H : Hp) : D → V → Prop
  | of {d : D} {v : V} : RV P M H d v → RVw P M H d v
  | lst {a : Addr} {vs : List V} {ds : List D} : H a = some (.lst vs) → RVs P M H ds vs → RVw P M H (.lst ds) (.ref a)
  | dK {a : Addr} {kvs : List (Key × V)} {ds : List D} : H a = some (.dK kvs) → RVs P M H ds (kvs.map (·.2)) → RVw P M H (.dct false (kvs.map fun p => kD p.1) ds) (.ref a)
  | dT {a : Addr} {kvs : List (List Key × V)} {ds : List D} : H a = some (.dT kvs) → RVs P M H ds (kvs.map (·.2)) → RVw P M H (.dct true (kvs.map fun p => ktD p.1) ds) (.ref a)
theorem RVw.sm (s : Sm H H') : ∀ {d : D} {v : V}, RVw P M H d v → RVw P M H' d v
  | _, _, .of h => .of (h.sm s)
  | _, _, .lst h t => .lst (s _ _ h) (t.sm s)
  | _, _, .dK h t => .dK (s _ _ h) (t.sm s)
  | _, _, .dT h t => .dT (s _ _ h) (t.sm s)
theorem w_non {v : V} (h : RVw P M H .non v) : v = .non := by cases h with | of h => cases h; rfl
theorem w_bl {b : Bool} {v : V} (h : RVw P M H (.bl b) v) : v = .bl b := by cases h with | of h => cases h; rfl
theorem w_int {i : Int} {v : V} (h : RVw P M H (.int i) v) : v = .int i := by cases h with | of h => cases h; rfl
theorem w_str {x : List Nat} {v : V} (h : RVw P M H (.str x) v) : v = .str (sV x) := by cases h with | of h => cases h; rfl
theorem w_scr {ns : List Int} {v : V} (h : RVw P M H (.scr ns) v) : ∃ a, v = .ref a ∧ FzS P.K M H a (ns.map V.int) := by
  cases h with | of h => cases h with | scr h => exact ⟨_, rfl, h⟩
theorem w_tup {ds : List D} {v : V} (h : RVw P M H (.tup ds) v) : ∃ a vs, v = .ref a ∧ FzT P.K M H a vs ∧ RVs P M H ds vs := by
  cases h with
  | of h => cases h with
    | tup h n t => exact ⟨_, _, rfl, .inl ⟨h, n⟩, t⟩
    | ktup h n t => exact ⟨_, _, rfl, .inr h, t⟩
theorem w_key {ds : List D} {v : V} (h : RVw P M H (.tup ds) v) (hk : isKey (.tup ds) = true) : ∃ a vs, v = .ref a ∧ H a = some (.tup vs) ∧ ¬ M a ∧ RVs P M H ds vs := by
  cases h with
  | of h => cases h with
    | tup h n t => exact ⟨_, _, rfl, h, n, t⟩
    | ktup h n t => rw [hk] at n; cases n
theorem r_tup {ds : List D} {v : V} (h : RV P M H (.tup ds) v) : ∃ a vs, v = .ref a ∧ FzT P.K M H a vs ∧ RVs P M H ds vs := w_tup (.of h)
theorem w_lst {ds : List D} {v : V} (h : RVw P M H (.lst ds) v) : ∃ a vs, v = .ref a ∧ H a = some (.lst vs) ∧ RVs P M H ds vs := by
  cases h with
  | of h => cases h with | lst h t => exact ⟨_, _, rfl, h.1, t⟩
  | lst h t => exact ⟨_, _, rfl, h, t⟩
theorem w_dK {ks ds : List D} {v : V} (h : RVw P M H (.dct false ks ds) v) : ∃ (a : Addr) (kvs : List (Key × V)), v = .ref a ∧ H a = some (.dK kvs) ∧ ks = kvs.map (fun p => kD p.1) ∧ RVs P M H ds (kvs.map (·.2)) := by
  cases h with
  | of h => cases h with | dK h _ t => exact ⟨_, _, rfl, h, rfl, t⟩
  | dK h t => exact ⟨_, _, rfl, h, rfl, t⟩
theorem w_dT {ks ds : List D} {v : V} (h : RVw P M H (.dct true ks ds) v) : ∃ (a : Addr) (kvs : List (List Key × V)), v = .ref a ∧ H a = some (.dT kvs) ∧ ks = kvs.map (fun p => ktD p.1) ∧ RVs P M H ds (kvs.map (·.2)) := by
  cases h with
  | of h => cases h with | dT h _ t => exact ⟨_, _, rfl, h, rfl, t⟩
  | dT h t => exact ⟨_, _, rfl, h, rfl, t⟩
theorem rv_of {ds : List D} {v : V} (h : RVw P M H (.tup ds) v) : RV P M H (.tup ds) v := by cases h with | of h => exact h
/-- a new tuple, list -/
theorem RV.newT {p : Addr} {vs : List V} {ds : List D} (hr : Hr M H) (hp : H p = none) (t : RVs P M H ds vs) : RV P M (upd H p (.tup vs)) (.tup ds) (.ref p) :=
  .tup upd_same (hr.out hp) (t.sm (Sm.new hp))
theorem RV.newL {p : Addr} {vs : List V} {ds : List D} (hr : Hr M H) (hp : H p = none) (t : RVs P M H ds vs) : RV P M (upd H p (.lst vs)) (.lst ds) (.ref p) :=
  .lst ⟨upd_same, hr.out hp⟩ (t.sm (Sm.new hp))
end
theorem lim_line : LIM ≤ sizeLine := by rw [sizeLine_eq]; decide
/-- the reading of an operation on two data -/
def rD2 (P : Pm) (f : D → D → Option D) : R2 := fun x y H Q => ∃ (M : Addr → Prop) (a b d : D), Hr M H ∧ RVw P M H a x ∧ RVw P M H b y ∧ f a b = some d ∧ ∀ H' v, Sm H H' → RV P M H' d v → Q v H'
section
variable {X : Cx} {P : Pm} {pins : List (Addr × Obj)} {s : Shared} {σ : L2.St} {H : Hp}
theorem len_sV (x : List Nat) : (sV x).length = x.length := sV_len x
theorem sV_app (x y : List Nat) : sV x ++ sV y = sV (x ++ y) := by
  show (⟨x.toArray ++ y.toArray⟩ : Str) = ⟨(x ++ y).toArray⟩
  simp
theorem vnil {vs : List V} {ds : List D} {M : Addr → Prop} (t : RVs P M H ds vs) (h : vs = []) : ds = [] := by
  subst h
  cases t
  rfl
theorem op2_add (hK : P.K = X.K) : OpR X (binaryOp .Add) (rD2 P addD) := by
  rintro pins s σ H x y v u Q I rx ry ⟨M, a, b, d, hr, ha, hb, e, q⟩
  unfold addD at e
  split at e
  · rename_i i j
    cases w_int ha
    cases w_int hb
    cases e
    exact op_add pins s σ H _ _ v u Q I rx ry ⟨_, _, rfl, rfl, q H _ Sm.refl (.int _)⟩
  · rename_i i j
    cases w_str ha
    cases w_str hb
    split at e
    · rename_i hl
      cases e
      refine op_add_str pins s σ H _ _ v u Q I rx ry ⟨_, _, rfl, rfl, ?_, ?_⟩
      · rw [len_sV, len_sV]; exact Nat.le_trans hl lim_line
      · rw [sV_app]; exact q H _ Sm.refl (.str _)
    · cases e
  · rename_i i j
    have ha0 := ha
    have hb0 := hb
    obtain ⟨a, vs, rfl, h1, t1⟩ := w_tup ha
    obtain ⟨b, ws, rfl, h2, t2⟩ := w_tup hb
    split at e
    · rename_i hl
      cases e
      refine op_catA pins s σ H _ _ v u Q I rx ry ⟨_, _, _, _, rfl, rfl, hK ▸ h1.sq, hK ▸ h2.sq, ?_, ?_, ?_, ?_⟩
      · rw [← t1.length, ← t2.length]; exact Nat.le_trans hl lim_line
      · intro hn
        have := vnil t1 hn
        subst this
        exact q H _ Sm.refl (rv_of hb0)
      · intro _ hn
        have := vnil t2 hn
        subst this
        rw [List.append_nil] at q
        exact q H _ Sm.refl (rv_of ha0)
      · intro _ _ p hp
        exact q _ _ (Sm.new hp) (RV.newT hr hp (t1.append t2))
    · cases e
  · rename_i i j
    obtain ⟨a, vs, rfl, h1, t1⟩ := w_lst ha
    obtain ⟨b, ws, rfl, h2, t2⟩ := w_lst hb
    split at e
    · rename_i hl
      cases e
      refine op_cat pins s σ H _ _ v u Q I rx ry ⟨_, _, _, _, rfl, rfl, h1, h2, ?_, ?_⟩
      · rw [← t1.length, ← t2.length]; exact Nat.le_trans hl lim_line
      · intro p hp
        exact q _ _ (Sm.new hp) (RV.newL hr hp (t1.append t2))
    · cases e
  · cases e
theorem small_ok {i : Int} (h : smallI i = true) : -(2 ^ 64) < i ∧ i < 2 ^ 64 := by
  unfold smallI at h
  simp only [Bool.and_eq_true, decide_eq_true_eq] at h
  omega
theorem mulOk_ok {i j : Int} (h : mulOk i j = true) : IntMulOk i j := by
  unfold mulOk at h
  simp only [Bool.or_eq_true, decide_eq_true_eq] at h
  rcases h with (h | h) | h
  · exact CMul.ok (.inl (small_ok h))
  · exact CMul.ok (.inr (small_ok h))
  · have b : ∀ x : Int, Builtin.Int.intBits x ≤ x.natAbs.log2 + 1 := fun x => by
      unfold Builtin.Int.intBits
      split <;> omega
    have h1 := b i
    have h2 := b j
    have e : bitsLine = 134217728 := by decide
    unfold IntMulOk
    intro z
    rw [Bool.and_eq_true] at z
    have z2 := z.2
    unfold Builtin.Int.intTooBig at z2
    have z3 := of_decide_eq_true z2
    rw [e] at z3
    omega
theorem op_mulA : OpR X (binaryOp .Mult) (rI (fun i j => IntMulOk i j) fun i j => .int (i * j)) := opI fun _ _ _ _ _ _ _ hc q => mul_int q hc
theorem ix_ok' {i : Int} (h : ixOk i = true) : -(2 ^ 62) ≤ i ∧ i < 2 ^ 62 := by
  unfold ixOk at h
  simp only [Bool.and_eq_true, decide_eq_true_eq] at h
  omega
theorem op2_mul (hK : P.K = X.K) : OpR X (binaryOp .Mult) (rD2 P mulD) := by
  rintro pins s σ H x y v u Q I rx ry ⟨M, a, b, d, hr, ha, hb, e, q⟩
  unfold mulD at e
  split at e
  · split at e
    · rename_i h
      cases w_int ha
      cases w_int hb
      cases e
      exact op_mulA pins s σ H _ _ v u Q I rx ry ⟨_, _, rfl, rfl, mulOk_ok h, q H _ Sm.refl (.int _)⟩
    · cases e
  · split at e
    · rename_i h
      simp only [Bool.and_eq_true, decide_eq_true_eq] at h
      cases w_int hb
      obtain ⟨a, vs, rfl, h1, t1⟩ := w_lst ha
      cases e
      have h2 := ix_ok' h.1
      refine op_rep pins s σ H _ _ v u Q I rx ry ⟨_, _, _, rfl, rfl, h1, by omega, by omega, ?_, fun p hp => q _ _ (Sm.new hp) (RV.newL hr hp (t1.flatten _))⟩
      rw [← t1.length]
      exact Nat.le_trans h.2 lim_line
    · cases e
  · split at e
    · rename_i h
      simp only [Bool.and_eq_true, decide_eq_true_eq] at h
      cases w_int hb
      have ha0 := ha
      obtain ⟨a, vs, rfl, h1, t1⟩ := w_tup ha
      cases e
      have h2 := ix_ok' h.1
      refine op_repA pins s σ H _ _ v u Q I rx ry ⟨_, _, _, rfl, rfl, by rw [← hK]; exact h1.sq, by omega, by omega, ?_, fun hw => ?_, fun hw p hp => q _ _ (Sm.new hp) (RV.newT hr hp (t1.flatten _))⟩
      · rw [← t1.length]
        exact Nat.le_trans h.2 (by decide)
      · rename_i ds k
        have e : (List.replicate k.toNat ds).flatten = ds := by
          rcases hw with hw | hw
          · have : ds = [] := List.eq_nil_of_length_eq_zero (by rw [t1.length, hw]; rfl)
            subst this
            simp
          · rw [hw]; simp
        rw [e] at q
        exact q H _ Sm.refl (rv_of ha0)
    · cases e
  · cases e
theorem op2_sub : OpR X (binaryOp .Sub) (rD2 P subD) := by
  rintro pins s σ H x y v u Q I rx ry ⟨M, a, b, d, hr, ha, hb, e, q⟩
  unfold subD at e
  split at e
  · cases w_int ha
    cases w_int hb
    cases e
    exact op_sub pins s σ H _ _ v u Q I rx ry ⟨_, _, rfl, rfl, q H _ Sm.refl (.int _)⟩
  · cases e
theorem divOk_ok {b : Int} (h : divOk b = true) : 0 < b ∧ b < 18446744073709551616 := by
  unfold divOk at h
  simp only [Bool.and_eq_true, decide_eq_true_eq] at h
  exact h
theorem op2_fdiv : OpR X (binaryOp .FloorDiv) (rD2 P fdivD) := by
  rintro pins s σ H x y v u Q I rx ry ⟨M, a, b, d, hr, ha, hb, e, q⟩
  unfold fdivD at e
  split at e
  · cases w_int ha
    cases w_int hb
    split at e
    · rename_i h
      cases e
      obtain ⟨h1, h2⟩ := divOk_ok h
      refine op_fdivW pins s σ H _ _ v u Q I rx ry ⟨_, _, rfl, rfl, ?_, q H _ Sm.refl (.int _)⟩
      exact wide_div (b := 64) h1 (by omega) (by decide) (by decide)
    · cases e
  · cases e
theorem op2_mod : OpR X (binaryOp .Mod) (rD2 P modD) := by
  rintro pins s σ H x y v u Q I rx ry ⟨M, a, b, d, hr, ha, hb, e, q⟩
  unfold modD at e
  split at e
  · cases w_int ha
    cases w_int hb
    split at e
    · rename_i h
      cases e
      obtain ⟨h1, h2⟩ := divOk_ok h
      exact op_mod pins s σ H _ _ v u Q I rx ry ⟨_, _, rfl, rfl, h1, q H _ Sm.refl (.int _)⟩
    · cases e
  · cases e
theorem op2_pow : OpR X (binaryOp .Pow) (rD2 P powD) := by
  rintro pins s σ H x y v u Q I rx ry ⟨M, a, b, d, hr, ha, hb, e, q⟩
  unfold powD at e
  split at e
  · cases w_int ha
    cases w_int hb
    split at e
    · rename_i h
      cases e
      simp only [Bool.and_eq_true, decide_eq_true_eq] at h
      obtain ⟨h1, h2⟩ := small_ok h.2
      exact L2.op_pow pins s σ H _ _ v u Q I rx ry ⟨_, _, rfl, rfl, ⟨h.1.1, by omega, by omega⟩, q H _ Sm.refl (.int _)⟩
    · cases e
  · cases e
end
/-! ### data as the model's data -/
mutual
def toPy : D → PyData
  | .non => .none
  | .bl b => .bool b
  | .int i => .int i
  | .str x => .str (sV x)
  | .tup ds => .tuple (toPys ds)
  | .lst ds => .list (toPys ds)
  | _ => .none
def toPys : List D → List PyData
  | [] => []
  | d :: ds => toPy d :: toPys ds
end
theorem toPys_map : ∀ ds : List D, toPys ds = ds.map toPy
  | [] => rfl
  | d :: ds => by rw [toPys, toPys_map ds]; rfl
theorem allL_mem {f : D → Bool} : ∀ {ds : List D}, allL f ds = true → ∀ d ∈ ds, f d = true
  | [], _, _, h => by cases h
  | x :: xs, e, d, h => by
    unfold allL at e
    rw [Bool.and_eq_true] at e
    rcases List.mem_cons.mp h with rfl | h
    · exact e.1
    · exact allL_mem e.2 d h
theorem allL_cons {f : D → Bool} {x : D} {xs : List D} (e : allL f (x :: xs) = true) : f x = true ∧ allL f xs = true := by
  unfold allL at e
  rwa [Bool.and_eq_true] at e
section
variable {P : Pm} {M : Addr → Prop} {H : Hp} {K : Frag}
theorem dps_of {n : Nat} (ih : ∀ {d : D} {v : V}, plainN n d = true → RV P M H d v → Dp P.K H v (toPy d)) : ∀ {ds : List D} {vs : List V}, allL (plainN n) ds = true → RVs P M H ds vs → DpAll P.K H vs (toPys ds)
  | _, _, _, .nil => .nil
  | _, _, e, .cons h t => .cons (ih (allL_cons e).1 h) (dps_of ih (allL_cons e).2 t)
theorem dp_of : ∀ (n : Nat) {d : D} {v : V}, plainN n d = true → RV P M H d v → Dp P.K H v (toPy d)
  | 0, _, _, e, _ => by simp [plainN] at e
  | n + 1, d, v, e, h => by
    cases h with
    | non => exact .non
    | bl b => exact .bl b
    | int i => exact .int i
    | str x => exact .str _
    | tup h m t => exact .tup (.inl (.inl h)) (dps_of (dp_of n) (by simpa [plainN] using e) t)
    | ktup h m t => exact .tup (.inr h) (dps_of (dp_of n) (by simpa [plainN] using e) t)
    | lst h t => exact .lst h.sq (dps_of (dp_of n) (by simpa [plainN] using e) t)
    | dK => simp [plainN] at e
    | dT => simp [plainN] at e
    | snd => simp [plainN] at e
    | scr => simp [plainN] at e
theorem dp_w {n : Nat} {d : D} {v : V} (e : plainN n d = true) (h : RVw P M H d v) : Dp P.K H v (toPy d) := by
  cases h with
  | of h => exact dp_of n e h
  | lst h t =>
    cases n with
    | zero => simp [plainN] at e
    | succ n => exact .lst (.inl (.inl h)) (dps_of (dp_of n) (by simpa [plainN] using e) t)
  | dK => cases n <;> simp [plainN] at e
  | dT => cases n <;> simp [plainN] at e
theorem lays_of {n : Nat} (ih : ∀ {d : D}, plainN n d = true → (toPy d).canLay0 = true ∧ (toPy d).depth ≤ n) : ∀ {ds : List D}, allL (plainN n) ds = true → PyData.canLayAll0 (toPys ds) = true ∧ PyData.depthAll (toPys ds) ≤ n
  | [], _ => by
    constructor
    · simp [toPys, PyData.canLayAll0]
    · simp [toPys, PyData.depthAll]
  | d :: ds, e => by
    have h1 := ih (allL_cons e).1
    have h2 := lays_of ih (allL_cons e).2
    constructor
    · rw [toPys, PyData.canLayAll0, h1.1, h2.1]; rfl
    · rw [toPys, PyData.depthAll]
      exact Nat.max_le.mpr ⟨h1.2, h2.2⟩
theorem lay_of : ∀ (n : Nat) {d : D}, plainN n d = true → (toPy d).canLay0 = true ∧ (toPy d).depth ≤ n
  | 0, _, e => by simp [plainN] at e
  | n + 1, d, e => by
    cases d with
    | non => simp [toPy, PyData.canLay0, PyData.depth]
    | bl b => simp [toPy, PyData.canLay0, PyData.depth]
    | int i => simp [toPy, PyData.canLay0, PyData.depth]
    | str x =>
      have e' : x.all (fun c => decide (c < 1114112)) = true := by simpa [plainN] using e
      constructor
      · rw [toPy, PyData.canLay0]
        show (sV x).cps.all _ = true
        unfold sV
        simpa using e'
      · simp [toPy, PyData.depth]
    | tup ds =>
      have h := lays_of (lay_of n) (ds := ds) (by simpa [plainN] using e)
      constructor
      · rw [toPy, PyData.canLay0]; exact h.1
      · rw [toPy, PyData.depth]; exact Nat.succ_le_succ h.2
    | lst ds =>
      have h := lays_of (lay_of n) (ds := ds) (by simpa [plainN] using e)
      constructor
      · rw [toPy, PyData.canLay0]; exact h.1
      · rw [toPy, PyData.depth]; exact Nat.succ_le_succ h.2
    | dct => simp [plainN] at e
    | snd => simp [plainN] at e
    | exc => simp [plainN] at e
    | fn => simp [plainN] at e
    | scr => simp [plainN] at e
theorem shaped_of {d : D} (e : plainN DEP d = true) : SeqAt.shaped (toPy d) = true := by
  obtain ⟨h1, h2⟩ := lay_of DEP e
  unfold SeqAt.shaped
  rw [h1]
  have : (toPy d).depth ≤ 64 := Nat.le_trans h2 (by decide)
  simp [this]
theorem sV_beq (x y : List Nat) : (sV x == sV y) = (x == y) := by
  by_cases h : x = y
  · subst h; simp
  · have h2 : ¬ sV x = sV y := fun e => h (sV_inj e)
    rw [beq_eq_false_iff_ne.mpr h, beq_eq_false_iff_ne.mpr h2]
theorem eqs_of {n : Nat} (ih : ∀ {a b : D}, plainN n a = true → plainN n b = true → eqN n a b = PyData.eqv (toPy a) (toPy b)) : ∀ {xs ys : List D}, allL (plainN n) xs = true → allL (plainN n) ys = true → eqL (eqN n) xs ys = PyData.eqvAll (toPys xs) (toPys ys)
  | [], [], _, _ => by simp [eqL, toPys, PyData.eqvAll]
  | [], y :: ys, _, _ => by simp [eqL, toPys, PyData.eqvAll]
  | x :: xs, [], _, _ => by simp [eqL, toPys, PyData.eqvAll]
  | x :: xs, y :: ys, ea, eb => by
    rw [eqL, toPys, toPys, PyData.eqvAll, ih (allL_cons ea).1 (allL_cons eb).1, eqs_of ih (allL_cons ea).2 (allL_cons eb).2]
theorem eq_of : ∀ (n : Nat) {a b : D}, plainN n a = true → plainN n b = true → eqN n a b = PyData.eqv (toPy a) (toPy b)
  | 0, _, _, e, _ => by simp [plainN] at e
  | n + 1, a, b, ea, eb => by
    cases a <;> first | (simp [plainN] at ea; done) | skip
    all_goals cases b <;> first | (simp [plainN] at eb; done) | skip
    all_goals first
      | (simp [eqN, toPy, PyData.eqv, sV_beq, Nt.b2i]; done)
      | (simp only [eqN, toPy, PyData.eqv]; exact eqs_of (eq_of n) (by simpa [plainN] using ea) (by simpa [plainN] using eb))
end
section
variable {X : Cx} {P : Pm}
theorem op2_eq (hK : P.K = X.K) (hu : X.A.units + 64 < cLine) : OpR X (compareOp .Eq) (rD2 P eqVal) := by
  rintro pins s σ H x y v u Q I rx ry ⟨M, a, b, d, hr, ha, hb, e, q⟩
  unfold eqVal eqD at e
  split at e
  · rename_i h
    rw [Bool.and_eq_true] at h
    cases e
    refine op_eqD hu pins s σ H x y v u Q I rx ry ⟨_, _, hK ▸ dp_w h.1 ha, hK ▸ dp_w h.2 hb, shaped_of h.1, shaped_of h.2, ?_⟩
    rw [← eq_of DEP h.1 h.2]
    exact q H _ Sm.refl (.bl _)
  · cases e
theorem op2_ne (hK : P.K = X.K) (hu : X.A.units + 64 < cLine) : OpR X (compareOp .NotEq) (rD2 P neVal) := by
  rintro pins s σ H x y v u Q I rx ry ⟨M, a, b, d, hr, ha, hb, e, q⟩
  unfold neVal eqD at e
  split at e
  · rename_i h
    rw [Bool.and_eq_true] at h
    cases e
    refine op_neD hu pins s σ H x y v u Q I rx ry ⟨_, _, hK ▸ dp_w h.1 ha, hK ▸ dp_w h.2 hb, shaped_of h.1, shaped_of h.2, ?_⟩
    rw [← eq_of DEP h.1 h.2]
    exact q H _ Sm.refl (.bl _)
  · cases e
theorem ltS_eq : ∀ x y : List Nat, ltS x y = decide (x < y)
  | [], [] => by simp [ltS]
  | [], y :: ys => by simp [ltS]
  | x :: xs, [] => by simp [ltS]
  | x :: xs, y :: ys => by
    unfold ltS
    by_cases h : x = y
    · subst h
      rw [if_pos rfl, ltS_eq xs ys]
      simp
    · rw [if_neg h]
      have : (x :: xs < y :: ys) ↔ x < y := by
        rw [List.cons_lt_cons_iff]
        constructor
        · rintro (q | ⟨q, _⟩)
          · exact q
          · exact absurd q h
        · exact .inl
      simp [this]
end
end Nt
set_option Elab.async false
set_option linter.all false
set_option maxRecDepth 100000
set_option maxHeartbeats 1000000
set_option autoImplicit false
/-! E2c: comparisons, in, items -/
namespace Nt
open PySem PySem.Spec PyProof.Rows L2
section
variable {X : Cx} {P : Pm}
theorem sV_tl (x : List Nat) : (sV x).cps.toList = x := by simp [sV]
theorem op2_cmp {op : CmpOp} {fi : Int → Int → Bool} {fs : List Nat → List Nat → Bool} (h1 : OpR X (compareOp op) (rI0 fun i j => .bl (fi i j)))
    (h2 : OpR X (compareOp op) (fun x y H Q => ∃ i j, x = .str i ∧ y = .str j ∧ Q (.bl (fs i.cps.toList j.cps.toList)) H)) : OpR X (compareOp op) (rD2 P (cmpD fi fs)) := by
  rintro pins s σ H x y v u Q I rx ry ⟨M, a, b, d, hr, ha, hb, e, q⟩
  unfold cmpD at e
  split at e
  · cases w_int ha
    cases w_int hb
    cases e
    exact h1 pins s σ H _ _ v u Q I rx ry ⟨_, _, rfl, rfl, q H _ Sm.refl (.bl _)⟩
  · cases w_str ha
    cases w_str hb
    cases e
    refine h2 pins s σ H _ _ v u Q I rx ry ⟨_, _, rfl, rfl, ?_⟩
    rw [sV_tl, sV_tl]
    exact q H _ Sm.refl (.bl _)
  · cases e
theorem op2_lt : OpR X (compareOp .Lt) (rD2 P (cmpD (fun i j => decide (i < j)) (fun x y => ltS x y))) := op2_cmp op_lt (by simpa only [ltS_eq] using op_lt_str)
theorem op2_le : OpR X (compareOp .LtE) (rD2 P (cmpD (fun i j => decide (i ≤ j)) (fun x y => !ltS y x))) := op2_cmp op_le (by simpa only [ltS_eq] using op_le_str)
theorem op2_gt : OpR X (compareOp .Gt) (rD2 P (cmpD (fun i j => decide (j < i)) (fun x y => ltS y x))) := op2_cmp op_gt (by simpa only [ltS_eq] using op_gt_str)
theorem op2_ge : OpR X (compareOp .GtE) (rD2 P (cmpD (fun i j => decide (j ≤ i)) (fun x y => !ltS x y))) := op2_cmp op_ge (by simpa only [ltS_eq] using op_ge_str)
/-! ### in -/
theorem plain_seq {n : Nat} {ys : List D} (h : allL (plainN n) ys = true) : (toPy (.lst ys)).canLay0 = true ∧ (toPy (.tup ys)).canLay0 = true := by
  have := (lays_of (lay_of n) (ds := ys) h).1
  constructor <;> rw [toPy, PyData.canLay0] <;> exact this
theorem any_eqv {n : Nat} {x : D} (hx : plainN n x = true) : ∀ {ys : List D}, allL (plainN n) ys = true → (ys.any fun y => eqN n y x) = ((toPys ys).any fun z => PyData.eqv z (toPy x))
  | [], _ => rfl
  | y :: ys, h => by
    rw [toPys, List.any_cons, List.any_cons, eq_of n (allL_cons h).1 hx, any_eqv hx (allL_cons h).2]
theorem in_seq {A : Around} {x : D} {ys : List D} {b : Bool} (hu : A.units + 65 < cLine) (e : memL x ys = some b) : allL (plainN DEP) ys = true ∧ plainN DEP x = true ∧ b = ((toPys ys).any fun z => PyData.eqv z (toPy x)) := by
  unfold memL at e
  split at e
  · rename_i h
    rw [Bool.and_eq_true] at h
    cases e
    exact ⟨h.2, h.1, any_eqv h.1 h.2⟩
  · cases e
theorem str_in (y : List Nat) (c : Nat) : (!(Builtin.Str.occurrences (sV y) (sV [c]) 0 (sV y).length 1).isEmpty) = y.contains c := by
  have h := StrLaws.found_one (sV y) c
  have e : (⟨#[c]⟩ : Str) = sV [c] := rfl
  rw [e] at h
  rw [h, sV_tl, List.contains_eq_mem]
/-- a key as the dict's rules take it -/
theorem kD_inj {a b : Key} (h : kD a = kD b) : a = b := by
  cases a with
  | inl a => cases b with
    | inl b => simp [kD] at h; rw [h]
    | inr b => simp [kD] at h
  | inr a => cases b with
    | inl b => simp [kD] at h
    | inr b =>
      simp only [kD, D.str.injEq] at h
      rw [← sV_of a, ← sV_of b, h]
def dK : D → Option Key
  | .int i => some (.inl i)
  | .str x => some (.inr (sV x))
  | _ => none
theorem key1_rv {M : Addr → Prop} {H : Hp} {k : D} {v : V} (h : isKey1 k = true) (r : RVw P M H k v) : ∃ κ : Key, k = kD κ ∧ v = kV κ := by
  cases k <;> simp [isKey1] at h
  · rename_i i
    cases w_int r
    exact ⟨.inl i, rfl, rfl⟩
  · rename_i x
    cases w_str r
    exact ⟨.inr (sV x), by simp [kD, sV_tl], rfl⟩
theorem keys1_rv {M : Addr → Prop} {H : Hp} : ∀ {ks : List D} {vs : List V}, allL isKey1 ks = true → RVs P M H ks vs → ∃ κs : List Key, ks = κs.map kD ∧ vs = κs.map kV
  | _, _, _, .nil => ⟨[], rfl, rfl⟩
  | _, _, h, .cons r t => by
    obtain ⟨κ, rfl, rfl⟩ := key1_rv (allL_cons h).1 (.of r)
    obtain ⟨κs, rfl, rfl⟩ := keys1_rv (allL_cons h).2 t
    exact ⟨κ :: κs, rfl, rfl⟩
theorem keyEq1_kD (a b : Key) : keyEq1 (kD a) (kD b) = decide (a = b) := by
  by_cases h : a = b
  · subst h
    cases a <;> simp [kD, keyEq1]
  · rw [decide_eq_false h]
    cases a with
    | inl a => cases b with
      | inl b => simp [kD, keyEq1]; exact fun e => h (by rw [e])
      | inr b => rfl
    | inr a => cases b with
      | inl b => rfl
      | inr b =>
        have : ¬ a.cps.toList = b.cps.toList := fun e => h (by rw [← sV_of a, ← sV_of b, e])
        simpa [kD, keyEq1] using this
theorem eqL_kD : ∀ a b : List Key, eqL keyEq1 (a.map kD) (b.map kD) = decide (a = b)
  | [], [] => by simp [eqL]
  | [], b :: bs => by simp [eqL]
  | a :: as, [] => by simp [eqL]
  | a :: as, b :: bs => by
    rw [List.map_cons, List.map_cons, eqL, keyEq1_kD, eqL_kD as bs]
    by_cases h : a = b <;> by_cases h2 : as = bs <;> simp [h, h2]
theorem keyEq_kD (a b : Key) : keyEq (kD a) (kD b) = decide (a = b) := by
  rw [← keyEq1_kD]
  cases a <;> cases b <;> rfl
theorem keyEq_ktD (a b : List Key) : keyEq (ktD a) (ktD b) = decide (a = b) := eqL_kD a b
theorem look_val {κ : Type} [DecidableEq κ] {M : Addr → Prop} {H : Hp} {enc : κ → D} (he : ∀ a b, keyEq (enc a) (enc b) = decide (a = b)) (k : κ) : ∀ {kvs : List (κ × V)} {ds : List D}, RVs P M H ds (kvs.map (·.2)) →
    (look (enc k) (kvs.map fun p => enc p.1) ds = none ∧ valV kvs k = none) ∨ ∃ d v, look (enc k) (kvs.map fun p => enc p.1) ds = some d ∧ valV kvs k = some v ∧ RV P M H d v
  | [], _, .nil => .inl ⟨rfl, rfl⟩
  | p :: kvs, [], h => by cases h
  | p :: kvs, d :: ds, h => by
    rw [List.map_cons] at h
    cases h with
    | cons h t =>
      rw [List.map_cons, look, he]
      by_cases e : p.1 = k
      · rw [decide_eq_true e, if_pos rfl]
        exact .inr ⟨_, _, rfl, valV_pos e, h⟩
      · rw [decide_eq_false e, if_neg Bool.false_ne_true, valV_neg e]
        exact look_val he k t
theorem isKeyT_all : ∀ {z : List D}, isKeyT z = true → allL isKey1 z = true
  | [], _ => rfl
  | [a], h => by simpa [allL, isKeyT] using h
  | [a, b], h => by simpa [allL, isKeyT] using h
  | [a, b, c], h => by
    cases a <;> first | (simp [isKeyT] at h; done) | (simpa [allL, isKeyT, and_assoc] using h)
  | a :: b :: c :: d :: r, h => by simp [isKeyT] at h
theorem dget_of {M : Addr → Prop} {H : Hp} {t : Bool} {ks vs : List D} {k : D} {x y : V} (f : keyFits t k = true) (h : RVw P M H (.dct t ks vs) x) (hk : RVw P M H k y) :
    ∃ a o, x = .ref a ∧ DGet H a y o ∧ ((look k ks vs = none ∧ o = none) ∨ ∃ d v, look k ks vs = some d ∧ o = some v ∧ RV P M H d v) := by
  unfold keyFits at f
  rw [Bool.and_eq_true, beq_iff_eq] at f
  obtain ⟨fk, ft⟩ := f
  cases t with
  | true =>
    obtain ⟨a, kvs, rfl, ha, rfl, r⟩ := w_dT h
    cases k <;> simp [isTup] at ft
    rename_i z
    obtain ⟨b, ws, rfl, hb, _, rb⟩ := w_key hk fk
    obtain ⟨κs, rfl, rfl⟩ := keys1_rv (isKeyT_all fk) rb
    refine ⟨a, _, rfl, .inr ⟨kvs, κs, b, .inl ha, rfl, hb, rfl⟩, ?_⟩
    rcases look_val (enc := ktD) keyEq_ktD κs r with ⟨e1, e2⟩ | ⟨d, v, e1, e2, e3⟩
    · exact .inl ⟨e1, e2⟩
    · exact .inr ⟨d, v, e1, e2, e3⟩
  | false =>
    obtain ⟨a, kvs, rfl, ha, rfl, r⟩ := w_dK h
    have fk1 : isKey1 k = true := by
      cases k <;> simp [isTup] at ft <;> simpa [isKey] using fk
    obtain ⟨κ, rfl, rfl⟩ := key1_rv fk1 hk
    refine ⟨a, _, rfl, .inl ⟨kvs, κ, .inl ha, rfl, rfl⟩, ?_⟩
    rcases look_val (enc := kD) keyEq_kD κ r with ⟨e1, e2⟩ | ⟨d, v, e1, e2, e3⟩
    · exact .inl ⟨e1, e2⟩
    · exact .inr ⟨d, v, e1, e2, e3⟩
theorem op2_in (hK : P.K = X.K) (hu : X.A.units + 65 < cLine) : OpR X (compareOp .In) (rD2 P fun a b => (inD a b).map .bl) := by
  obtain ⟨K, cls⟩ := P
  have hK : K = X.K := hK
  subst hK
  rintro pins s σ H x y v u Q I rx ry ⟨M, a, b, d, hr, ha, hb, e, q⟩
  simp only [Option.map_eq_some_iff] at e
  obtain ⟨r, e, rfl⟩ := e
  have q' := q H (.bl r) Sm.refl (.bl r)
  unfold inD at e
  split at e
  · cases w_str hb
    split at e
    · cases w_str ha
      cases e
      refine op_in_str pins s σ H _ _ v u Q I rx ry ⟨_, _, rfl, rfl, ?_⟩
      rw [str_in]
      exact q'
    · cases e
  · obtain ⟨h1, h2, rfl⟩ := in_seq hu e
    obtain ⟨as, r1⟩ := Dp.reads I _ x v (dp_w (P := ⟨X.K, cls⟩) h2 ha) rx
    obtain ⟨b, ws, rfl, hb1, t⟩ := w_tup hb
    obtain ⟨bs, r2⟩ := Dp.reads I (.tuple (toPys _)) _ u (.tup hb1.sq (dps_of (dp_of DEP) h1 t)) ry
    exact SeqAt.in_tuple_reads r2 r1 (plain_seq h1).2 (SeqAt.canLay_of_shaped (shaped_of h2)) (PyProof.Rows.room_in_shaped (shaped_of h2) hu) ⟨.bl _, H, I, rfl, q'⟩
  · obtain ⟨h1, h2, rfl⟩ := in_seq hu e
    obtain ⟨as, r1⟩ := Dp.reads I _ x v (dp_w (P := ⟨X.K, cls⟩) h2 ha) rx
    obtain ⟨b, ws, rfl, hb1, t⟩ := w_lst hb
    obtain ⟨bs, r2⟩ := Dp.reads I (.list (toPys _)) _ u (.lst (.inl (.inl hb1)) (dps_of (dp_of DEP) h1 t)) ry
    exact SeqAt.in_list_reads r2 r1 (plain_seq h1).1 (SeqAt.canLay_of_shaped (shaped_of h2)) (PyProof.Rows.room_in_shaped (shaped_of h2) hu) ⟨.bl _, H, I, rfl, q'⟩
  · split at e
    · rename_i t ks vs f
      cases e
      obtain ⟨a, o, rfl, g, hh⟩ := dget_of f hb ha
      obtain rfl : u = Value.ref a := ry
      refine d_in (by omega) I g rx fun s' I' => ⟨.bl _, H, I', rfl, ?_⟩
      rcases hh with ⟨e1, rfl⟩ | ⟨d, v, e1, rfl, _⟩
      · rw [e1] at q'; exact q'
      · rw [e1] at q'; exact q'
    · cases e
  · cases e
theorem op2_notin (hK : P.K = X.K) (hu : X.A.units + 65 < cLine) : OpR X (compareOp .NotIn) (rD2 P fun a b => (inD a b).map fun t => .bl (!t)) := by
  obtain ⟨K, cls⟩ := P
  have hK : K = X.K := hK
  subst hK
  rintro pins s σ H x y v u Q I rx ry ⟨M, a, b, d, hr, ha, hb, e, q⟩
  simp only [Option.map_eq_some_iff] at e
  obtain ⟨r, e, rfl⟩ := e
  have q' := q H (.bl (!r)) Sm.refl (.bl _)
  unfold inD at e
  split at e
  · cases w_str hb
    split at e
    · cases w_str ha
      cases e
      refine op_notin_str pins s σ H _ _ v u Q I rx ry ⟨_, _, rfl, rfl, ?_⟩
      rw [str_in]
      exact q'
    · cases e
  · obtain ⟨h1, h2, rfl⟩ := in_seq hu e
    obtain ⟨as, r1⟩ := Dp.reads I _ x v (dp_w (P := ⟨X.K, cls⟩) h2 ha) rx
    obtain ⟨b, ws, rfl, hb1, t⟩ := w_tup hb
    obtain ⟨bs, r2⟩ := Dp.reads I (.tuple (toPys _)) _ u (.tup hb1.sq (dps_of (dp_of DEP) h1 t)) ry
    exact SeqAt.notIn_tuple_reads r2 r1 (plain_seq h1).2 (SeqAt.canLay_of_shaped (shaped_of h2)) (PyProof.Rows.room_in_shaped (shaped_of h2) hu) ⟨.bl _, H, I, rfl, q'⟩
  · obtain ⟨h1, h2, rfl⟩ := in_seq hu e
    obtain ⟨as, r1⟩ := Dp.reads I _ x v (dp_w (P := ⟨X.K, cls⟩) h2 ha) rx
    obtain ⟨b, ws, rfl, hb1, t⟩ := w_lst hb
    obtain ⟨bs, r2⟩ := Dp.reads I (.list (toPys _)) _ u (.lst (.inl (.inl hb1)) (dps_of (dp_of DEP) h1 t)) ry
    exact SeqAt.notIn_list_reads r2 r1 (plain_seq h1).1 (SeqAt.canLay_of_shaped (shaped_of h2)) (PyProof.Rows.room_in_shaped (shaped_of h2) hu) ⟨.bl _, H, I, rfl, q'⟩
  · split at e
    · rename_i t ks vs f
      cases e
      obtain ⟨a, o, rfl, g, hh⟩ := dget_of f hb ha
      obtain rfl : u = Value.ref a := ry
      refine d_notIn (by omega) I g rx fun s' I' => ⟨.bl _, H, I', rfl, ?_⟩
      rcases hh with ⟨e1, rfl⟩ | ⟨d, v, e1, rfl, _⟩
      · rw [e1] at q'; exact q'
      · rw [e1] at q'; exact q'
    · cases e
  · cases e
/-! ### items -/
theorem ixN_eq (n : Nat) (i : Int) : Nt.ixN n i = L2.ixN n i := rfl
theorem atI_eq {α : Type} (xs : List α) (i : Int) : Nt.atI xs i = L2.atI xs i := rfl
theorem RVs.at {M : Addr → Prop} {H : Hp} {ds : List D} {vs : List V} {i : Int} {d : D} (h : RVs P M H ds vs) (e : Nt.atI ds i = some d) : ∃ v, L2.atI vs i = some v ∧ RV P M H d v := by
  unfold Nt.atI at e
  cases hj : Nt.ixN ds.length i with
  | none => rw [hj] at e; cases e
  | some j =>
    rw [hj] at e
    obtain ⟨v, h1, h2⟩ := h.get (i := j) e
    refine ⟨v, ?_, h2⟩
    unfold L2.atI
    rw [← h.length]
    rw [ixN_eq] at hj
    rw [hj]
    exact h1
/-- o[i] as a plain subscript -/
theorem RVs.atC {xs : List Nat} {i : Int} {c : Nat} (e : Nt.atI xs i = some c) : L2.atI (sV xs).cps.toList i = some c := by
  rw [sV_tl]; exact e
theorem ix2 (hK : P.K = X.K) (hu : X.A.units + 1 < cLine) : IxR X (rD2 P idxD) := by
  obtain ⟨K, cls⟩ := P
  have hK : K = X.K := hK
  subst hK
  rintro value slice pins s σ H x y v u Q I rx ry ⟨M, a, b, d, hr, ha, hb, e, q⟩ hs
  unfold idxD at e
  split at e
  · split at e
    · cases w_int hb
      obtain ⟨a, vs, rfl, h, t⟩ := w_tup ha
      obtain ⟨v, h1, h2⟩ := t.at e
      exact ix_tup value slice pins s σ H _ _ _ u Q I rx ry ⟨_, _, _, _, rfl, rfl, h.sq, h1, q H v Sm.refl h2⟩ hs
    · cases e
  · split at e
    · cases w_int hb
      obtain ⟨a, vs, rfl, h, t⟩ := w_lst ha
      obtain ⟨v, h1, h2⟩ := t.at e
      exact ix_list value slice pins s σ H _ _ _ u Q I rx ry ⟨_, _, _, _, rfl, rfl, SqL.of h, h1, q H v Sm.refl h2⟩ hs
    · cases e
  · split at e
    · rename_i xs i h
      cases w_int hb
      cases w_str ha
      simp only [Option.map_eq_some_iff, Bool.and_eq_true, decide_eq_true_eq] at e h
      obtain ⟨c, e, rfl⟩ := e
      refine ix_str value slice pins s σ H _ _ _ u Q I rx ry ⟨_, _, c, rfl, rfl, ?_, RVs.atC e, q H _ Sm.refl (.str [c])⟩ hs
      rw [len_sV]
      exact Nat.le_trans h.2 lim_line
    · cases e
  · split at e
    · rename_i t ks vs f
      obtain ⟨a, o, rfl, g, hh⟩ := dget_of f ha hb
      obtain rfl : v = Value.ref a := rx
      rcases hh with ⟨e1, _⟩ | ⟨d', v', e1, rfl, r⟩
      · rw [e1] at e; cases e
      · rw [e1] at e
        cases e
        exact PyProof.Rows.tail_any (dict_typeIs I g) PySem.F.slot_dict_getitem.lookup (d_getItem hu I g ry fun w' s3 I3 rw' => ⟨v', H, I3, rw', q H v' Sm.refl r⟩) hs
    · cases e
  · split at e
    · rename_i xs i h
      cases w_int hb
      simp only [Option.map_eq_some_iff] at e
      obtain ⟨c, e, rfl⟩ := e
      obtain ⟨a, rfl, h⟩ := w_scr ha
      refine ix_list value slice pins s σ H _ _ _ u Q I rx ry ⟨_, _, _, .int c, rfl, rfl, h.sq, ?_, q H _ Sm.refl (.int c)⟩ hs
      unfold L2.atI
      unfold Nt.atI at e
      rw [List.length_map]
      rw [ixN_eq] at e
      cases hj : L2.ixN xs.length i with
      | none => rw [hj] at e; cases e
      | some j =>
        rw [hj] at e
        have e : xs[j]? = some c := e
        show (xs.map V.int)[j]? = _
        rw [List.getElem?_map, e]
        rfl
    · cases e
  · cases e
end
end Nt
set_option Elab.async false
set_option linter.all false
set_option maxRecDepth 100000
set_option maxHeartbeats 1000000
set_option autoImplicit false
/-! E2d: built-in functions of one datum, of two -/
namespace Nt
open PySem PySem.Spec PyProof.Rows L2
/-- the reading of a function of one datum, of two -/
def rC1 (P : Pm) (f : D → Option D) : List V → Hp → VK → Prop := fun vs H Q => ∃ (M : Addr → Prop) (a d : D) (x : V), vs = [x] ∧ Hr M H ∧ RVw P M H a x ∧ f a = some d ∧ ∀ H' v, Sm H H' → RV P M H' d v → Q v H'
def rC2 (P : Pm) (f : D → D → Option D) : List V → Hp → VK → Prop := fun vs H Q => ∃ (M : Addr → Prop) (a b d : D) (x y : V), vs = [x, y] ∧ Hr M H ∧ RVw P M H a x ∧ RVw P M H b y ∧ f a b = some d ∧ ∀ H' v, Sm H H' → RV P M H' d v → Q v H'
section
variable {X : Cx} {cls : Nat → Addr}
abbrev pX (X : Cx) (cls : Nat → Addr) : Pm := ⟨X.K, cls⟩
theorem c1_len : CallR X (.builtin "len") (rC1 (pX X cls) (op1 .len)) := by
  rintro pins s σ H xs us Q I r ⟨M, a, d, x, rfl, hr, ha, e, q⟩
  have e : lenD a = some d := e
  cases a with
  | str z =>
    simp only [lenD] at e
    split at e
    · rename_i h
      cases w_str ha
      cases e
      refine call_len pins s σ H _ us Q I r ⟨_, _, rfl, ⟨?_, rfl⟩, ?_⟩
      · rw [len_sV]; exact Nat.le_trans h lim_line
      · rw [len_sV]; exact q H _ Sm.refl (.int _)
    · cases e
  | tup ds =>
    obtain ⟨a, vs, rfl, h, t⟩ := w_tup ha
    cases e
    refine call_len pins s σ H _ us Q I r ⟨_, _, rfl, .inr ⟨_, h.sq, rfl⟩, ?_⟩
    rw [← t.length]
    exact q H _ Sm.refl (.int _)
  | lst ds =>
    obtain ⟨a, vs, rfl, h, t⟩ := w_lst ha
    cases e
    refine call_len pins s σ H _ us Q I r ⟨_, _, rfl, .inl ⟨_, SqL.of h, rfl⟩, ?_⟩
    rw [← t.length]
    exact q H _ Sm.refl (.int _)
  | dct t ks vs =>
    cases e
    cases t with
    | true =>
      obtain ⟨a, kvs, rfl, h, rfl, t⟩ := w_dT ha
      refine call_len_dT pins s σ H _ us Q I r ⟨_, _, rfl, h, ?_⟩
      rw [List.length_map] at q
      exact q H _ Sm.refl (.int _)
    | false =>
      obtain ⟨a, kvs, rfl, h, rfl, t⟩ := w_dK ha
      refine call_lenD pins s σ H _ us Q I r ⟨_, _, rfl, h, ?_⟩
      rw [List.length_map] at q
      exact q H _ Sm.refl (.int _)
  | scr ns =>
    obtain ⟨a, rfl, h⟩ := w_scr ha
    cases e
    refine call_len pins s σ H _ us Q I r ⟨_, _, rfl, .inl ⟨_, h.sq, rfl⟩, ?_⟩
    rw [List.length_map]
    exact q H _ Sm.refl (.int _)
  | _ => cases e
theorem c1_tuple : CallR X (.type "tuple") (rC1 (pX X cls) (op1 .tuple)) := by
  rintro pins s σ H xs us Q I r ⟨M, a, d, x, rfl, hr, ha, e, q⟩
  cases a <;> simp [op1] at e
  · subst e
    obtain ⟨a, vs, rfl, h, t⟩ := w_tup ha
    exact call_tuple_of pins s σ H _ us Q I r ⟨_, _, rfl, .inr ⟨h.sq, q H _ Sm.refl (rv_of ha)⟩⟩
  · subst e
    obtain ⟨a, vs, rfl, h, t⟩ := w_lst ha
    exact call_tuple_of pins s σ H _ us Q I r ⟨_, _, rfl, .inl ⟨SqL.of h, fun p hp => q _ _ (Sm.new hp) (RV.newT hr hp t)⟩⟩
theorem keys_rv {M : Addr → Prop} {H : Hp} : ∀ kvs : List (Key × V), RVs (pX X cls) M H (kvs.map fun p => kD p.1) (kvs.map fun p => kV p.1)
  | [] => .nil
  | (k, v) :: r => .cons (by
    cases k with
    | inl i => exact .int i
    | inr x =>
      have := RV.str (P := pX X cls) (M := M) (H := H) x.cps.toList
      rw [sV_of] at this
      exact this) (keys_rv r)
theorem keyl_rv {M : Addr → Prop} {H : Hp} : ∀ ks : List Key, RVs (pX X cls) M H (ks.map kD) (ks.map kV)
  | [] => .nil
  | k :: r => .cons (by
    cases k with
    | inl i => exact .int i
    | inr x =>
      have := RV.str (P := pX X cls) (M := M) (H := H) x.cps.toList
      rw [sV_of] at this
      exact this) (keyl_rv r)
theorem keysT_rv {M : Addr → Prop} {H : Hp} (hr : Hr M H) : ∀ {kvs : List (List Key × V)} {bs : List Addr}, IsKeys H kvs bs → RVs (pX X cls) M H (kvs.map fun p => ktD p.1) (bs.map V.ref)
  | _, _, .nil => .nil
  | _, _, .cons h t => .cons (.tup h (tup_out hr h) (keyl_rv _)) (keysT_rv hr t)
theorem c1_list (hc : X.calm = true) : CallR X (.type "list") (rC1 (pX X cls) (op1 .list)) := by
  rintro pins s σ H xs us Q I r ⟨M, a, d, x, rfl, hr, ha, e, q⟩
  cases a <;> simp only [op1, reduceCtorEq, Option.some.injEq] at e
  · subst e
    obtain ⟨a, vs, rfl, h, t⟩ := w_tup ha
    exact call_list_of pins s σ H _ us Q I r ⟨_, _, rfl, .inr h.sq, fun p hp => q _ _ (Sm.new hp) (RV.newL hr hp t)⟩
  · subst e
    obtain ⟨a, vs, rfl, h, t⟩ := w_lst ha
    exact call_list_of pins s σ H _ us Q I r ⟨_, _, rfl, .inl (SqL.of h), fun p hp => q _ _ (Sm.new hp) (RV.newL hr hp t)⟩
  · rename_i t ks vs
    subst e
    cases t with
    | true =>
      obtain ⟨a, kvs, rfl, h, rfl, t⟩ := w_dT ha
      exact call_list_dT hc pins s σ H _ us Q I r ⟨_, _, rfl, .inl h, fun p bs hp hk => q _ _ (Sm.new hp) (RV.newL hr hp (keysT_rv hr hk))⟩
    | false =>
      obtain ⟨a, kvs, rfl, h, rfl, t⟩ := w_dK ha
      exact call_list_dK hc pins s σ H _ us Q I r ⟨_, _, rfl, h, fun p hp => q _ _ (Sm.new hp) (RV.newL hr hp (keys_rv kvs))⟩
theorem c1_abs : CallR X (.builtin "abs") (rC1 (pX X cls) (op1 .abs)) := by
  rintro pins s σ H xs us Q I r ⟨M, a, d, x, rfl, hr, ha, e, q⟩
  cases a <;> simp only [op1, Option.some.injEq, reduceCtorEq] at e
  subst e
  cases w_int ha
  exact call_abs pins s σ H _ us Q I r ⟨_, rfl, q H _ Sm.refl (.int _)⟩
theorem c2_max (hc : X.calm = true) : CallR X (.builtin "max") (rC2 (pX X cls) (op2 .max)) := by
  rintro pins s σ H xs us Q I r ⟨M, a, b, d, x, y, rfl, hr, ha, hb, e, q⟩
  cases a <;> simp only [op2, reduceCtorEq] at e
  cases b <;> simp only [op2, reduceCtorEq, Option.some.injEq] at e
  cases w_int ha
  cases w_int hb
  subst e
  exact call_max2 hc pins s σ H _ us Q I r ⟨_, _, rfl, q H _ Sm.refl (.int _)⟩
theorem c2_min (hc : X.calm = true) : CallR X (.builtin "min") (rC2 (pX X cls) (op2 .min)) := by
  rintro pins s σ H xs us Q I r ⟨M, a, b, d, x, y, rfl, hr, ha, hb, e, q⟩
  cases a <;> simp only [op2, reduceCtorEq] at e
  cases b <;> simp only [op2, reduceCtorEq, Option.some.injEq] at e
  cases w_int ha
  cases w_int hb
  subst e
  exact call_min2 hc pins s σ H _ us Q I r ⟨_, _, rfl, q H _ Sm.refl (.int _)⟩
theorem digitsVal_eq (x : List Nat) : digitsVal x = NumText.digitsVal x := by
  unfold digitsVal NumText.digitsVal
  congr
  funext n c
  rw [Nat.mul_comm]
theorem c1_int : CallR X (.type "int") (rC1 (pX X cls) (op1 .int)) := by
  rintro pins s σ H xs us Q I r ⟨M, a, d, x, rfl, hr, ha, e, q⟩
  cases a <;> simp only [op1, reduceCtorEq, Option.some.injEq] at e
  · rename_i b
    cases w_bl ha
    subst e
    exact call_int1 pins s σ H _ us Q I r (.inr ⟨_, rfl, q H _ Sm.refl (.int _)⟩)
  · cases w_int ha
    subst e
    exact call_int1 pins s σ H _ us Q I r (.inl ⟨_, rfl, q H _ Sm.refl (.int _)⟩)
  · rename_i z
    cases w_str ha
    split at e
    · rename_i h
      cases e
      unfold isFigs at h
      simp only [Bool.and_eq_true, decide_eq_true_eq, Bool.not_eq_true', List.isEmpty_eq_false_iff, List.all_eq_true] at h
      refine call_int_str pins s σ H _ us Q I r ⟨_, (digitsVal z : Nat), rfl, ?_, ?_, q H _ Sm.refl (.int _)⟩
      · have e := PySem.intText_digits (x := sV z) (by rw [sV_tl]; exact fun c hc => h.1.2 c hc) (by rw [sV_tl]; exact h.1.1) (by rw [len_sV]; omega)
        rw [sV_tl, ← digitsVal_eq] at e
        exact e
      · rw [len_sV]; exact h.2
    · cases e
theorem natDigits_eq (n : Nat) : natDigits n = TL.numL n := rfl
theorem intText_eq (i : Int) : (Str.ofString (toString i)).cps.toList = intText i := by
  have h : TL.tl (Str.ofString (toString i)) = (toString i).toList.map Char.toNat := TL.tl_ofString _
  show TL.tl (Str.ofString (toString i)) = _
  unfold intText
  cases i with
  | ofNat n =>
    rw [if_neg (by simp)]
    exact TL.tl_num n
  | negSucc n =>
    rw [if_pos (by simp)]
    have e : toString (Int.negSucc n) = "-" ++ toString (n + 1) := by rfl
    rw [h, e]
    have e2 : TL.tl (Str.ofString (toString ((n + 1 : Nat) : Int))) = TL.numL (n + 1) := TL.tl_num (n + 1)
    have e3 : (toString ((n + 1 : Nat) : Int)) = toString (n + 1) := rfl
    rw [e3, TL.tl_ofString] at e2
    rw [String.toList_append, List.map_append, e2]
    rfl
theorem c1_str : CallR X (.type "str") (rC1 (pX X cls) (op1 .str)) := by
  rintro pins s σ H xs us Q I r ⟨M, a, d, x, rfl, hr, ha, e, q⟩
  cases a <;> simp only [op1, reduceCtorEq, Option.some.injEq] at e
  · rename_i i
    cases w_int ha
    split at e
    · rename_i h
      cases e
      have h2 := small_ok h
      refine call_str_int pins s σ H _ us Q I r ⟨_, rfl, ?_, ?_⟩
      · have : i.natAbs < 2 ^ 64 := by omega
        exact Nat.lt_trans (PySem.Flt.log2_lt_of (by decide) this) (by decide)
      · have e : Str.ofString (toString i) = sV (intText i) := by rw [← intText_eq, sV_of]
        show Q (.str (Str.ofString (toString i))) H
        rw [e]
        exact q H _ Sm.refl (.str _)
    · cases e
  · cases w_str ha
    subst e
    exact SkE.call_str_str pins s σ H _ us Q I r ⟨_, rfl, q H _ Sm.refl (.str _)⟩
theorem c1_all (hc : X.calm = true) : CallR X (.builtin "all") (rC1 (pX X cls) (op1 .all)) := by
  rintro pins s σ H xs us Q I r ⟨M, a, d, x, rfl, hr, ha, e, q⟩
  cases a <;> simp only [op1, reduceCtorEq, Option.map_eq_some_iff] at e
  obtain ⟨bs, e, rfl⟩ := e
  obtain ⟨a, vs, rfl, h, t⟩ := w_lst ha
  have := t.bls e
  subst this
  exact cr_all hc pins s σ H _ us Q I r ⟨_, _, rfl, SqL.of h, q H _ Sm.refl (.bl _)⟩
theorem c1_sum (hc : X.calm = true) : CallR X (.builtin "sum") (rC1 (pX X cls) (op1 .sum)) := by
  rintro pins s σ H xs us Q I r ⟨M, a, d, x, rfl, hr, ha, e, q⟩
  cases a <;> simp only [op1, reduceCtorEq, Option.map_eq_some_iff] at e
  obtain ⟨bs, e, rfl⟩ := e
  obtain ⟨a, vs, rfl, h, t⟩ := w_lst ha
  have := t.ints e
  subst this
  exact cr_sum hc pins s σ H _ us Q I r ⟨_, _, rfl, SqL.of h, q H _ Sm.refl (.int _)⟩
theorem maxI_ok : ∀ {is : List Int} {m : Int}, m ∈ is → (∀ y, y ∈ is → y ≤ m) → maxI is = m
  | [], _, h, _ => by cases h
  | [a], m, h, _ => by
    rcases List.mem_cons.mp h with rfl | h
    · rfl
    · cases h
  | a :: b :: r, m, h, hm => by
    unfold maxI
    have hr : ∀ y, y ∈ b :: r → y ≤ m := fun y hy => hm y (List.mem_cons_of_mem _ hy)
    by_cases hin : m ∈ b :: r
    · rw [maxI_ok hin hr]
      have := hm a List.mem_cons_self
      show (if a < m then m else a) = m
      split <;> omega
    · have ea : a = m := by
        rcases List.mem_cons.mp h with e | h
        · exact e.symm
        · exact absurd h hin
      subst ea
      show (if a < maxI (b :: r) then maxI (b :: r) else a) = a
      rw [if_neg]
      intro hl
      have : maxI (b :: r) ∈ b :: r := maxI_mem b r
      have := hr _ this
      omega
where maxI_mem : ∀ (b : Int) (r : List Int), maxI (b :: r) ∈ b :: r
  | b, [] => by simp [maxI]
  | b, c :: r => by
    unfold maxI
    show (if b < maxI (c :: r) then maxI (c :: r) else b) ∈ _
    split
    · exact List.mem_cons_of_mem _ (maxI_mem c r)
    · exact List.mem_cons_self
theorem minI_ok : ∀ {is : List Int} {m : Int}, m ∈ is → (∀ y, y ∈ is → m ≤ y) → minI is = m
  | [], _, h, _ => by cases h
  | [a], m, h, _ => by
    rcases List.mem_cons.mp h with rfl | h
    · rfl
    · cases h
  | a :: b :: r, m, h, hm => by
    unfold minI
    have hr : ∀ y, y ∈ b :: r → m ≤ y := fun y hy => hm y (List.mem_cons_of_mem _ hy)
    by_cases hin : m ∈ b :: r
    · rw [minI_ok hin hr]
      have := hm a List.mem_cons_self
      show (if m < a then m else a) = m
      split <;> omega
    · have ea : a = m := by
        rcases List.mem_cons.mp h with e | h
        · exact e.symm
        · exact absurd h hin
      subst ea
      show (if minI (b :: r) < a then minI (b :: r) else a) = a
      rw [if_neg]
      intro hl
      have : minI (b :: r) ∈ b :: r := minI_mem b r
      have := hr _ this
      omega
where minI_mem : ∀ (b : Int) (r : List Int), minI (b :: r) ∈ b :: r
  | b, [] => by simp [minI]
  | b, c :: r => by
    unfold minI
    show (if minI (c :: r) < b then minI (c :: r) else b) ∈ _
    split
    · exact List.mem_cons_of_mem _ (minI_mem c r)
    · exact List.mem_cons_self
end
end Nt
set_option Elab.async false
set_option linter.all false
set_option maxRecDepth 100000
set_option maxHeartbeats 2000000
set_option autoImplicit false
/-! E2r: sorted -/
namespace PySem.W
open PySem PySem.Calls PyProof.Rows
section
variable {prog : Program} {w : World} {A : Around} {E : Value → Shared → Prop} {s : Shared} {β : Type} {vs : List Value} {bs : List β} {enc : β → PyData} {R : Value → β → Prop}
/-- sorted of a list, of a tuple, of data -/
theorem nt_sorted_seq {it : Addr} {T : String} {o : Obj} {n : Nat} {Q : Value → Shared → Prop} (hT : T = "list" ∨ T = "tuple") (ho : s.heap.get? it = some o) (hc : o.cls = .type T) (hd : o.data = .seq vs.toArray n)
    (e : EachIs R vs bs) (er : EachIs (fun v b => ∃ as, Reads s.heap v (enc b) as) vs bs) (hal : AllAlike (bs.map enc)) (hk : Sortable (bs.map enc)) (hL : bs.length ≤ sizeLine) (hu : ∀ b, b ∈ bs → A.units + 2 + (enc b).depth < cLine)
    (h : ∀ (out : List Value) (a : Addr) (h' : Heap), out.length = bs.length → EachIs R out (bs.mergeSort (dataLe false enc)) → s.heap.get? a = none → (∀ b o, s.heap.get? b = some o → h'.get? b = some o) → (∃ c, h'.get? a = some (seqObj "list" out.toArray c)) → Q (.ref a) { s with heap := h' }) :
    wpAny (model prog w) A (call (.builtin "sorted") [.ref it]) Q E s := by
  have hL' : vs.length ≤ sizeLine := by rw [e.length]; exact hL
  refine call_function_entry_kw kind_sorted plain_sorted entry_sorted (args_sorted1 _) ?_
  unfold Builtin.«sorted»
  refine wpAny_bind (m := checkCount "sorted" 1 1 _) (wpAny_pure ?_)
  refine wpAny_bind (wpAny_collect_seq it hT ho hc hd (fun h1 k1 => ?_) (by rw [List.size_toArray]; exact hL'))
  refine wpAny_bind (wpAny_newList ?_ (by simpa using hL'))
  have hat : (h1.push (seqObj "list" vs.toArray 0)).get? h1.objs.size = some (seqObj "list" vs.toArray 0) := Heap.get?_push_size _ rfl
  have hle : s.heap.get? h1.objs.size = none := by
    cases q : s.heap.get? h1.objs.size with
    | none => rfl
    | some o => exact absurd (Heap.lt_size (k1 _ _ q)) (Nat.lt_irrefl _)
  have k2 : ∀ b o, s.heap.get? b = some o → (h1.push (seqObj "list" vs.toArray 0)).get? b = some o := fun b o q => Heap.get?_push_of_some _ (k1 b o q)
  have ne : ∀ b o, s.heap.get? b = some o → b ≠ h1.objs.size := fun b o q => Nat.ne_of_lt (Heap.lt_size (k1 b o q))
  have k3 : ∀ b o, s.heap.get? b = some o → (sortingHeap (h1.push (seqObj "list" vs.toArray 0)) h1.objs.size vs).get? b = some o := fun b o q => sortingHeap_old (ne b o q) (k2 b o q)
  have er' : EachIs (fun v b => ∃ as, Reads (sortingHeap (h1.push (seqObj "list" vs.toArray 0)) h1.objs.size vs) v (enc b) as) vs bs := er.mono fun _ _ ⟨as, r⟩ => ⟨as, PyProof.Rows.Reads.keeps k3 r⟩
  refine wpAny_bind (wpAny_holding (wpAny_call_entry_kw slot_list_sort ⟨_, by simpa using hat, rfl⟩ entry_list_sort ?body (args_list_sort _)))
  case body =>
    show wpAny (model prog w) A.in1.in1 (Builtin.«list.sort» ⟨[.ref h1.objs.size], []⟩) _ _ _
    refine wpAny_mono (list_sort_vals (s := { s with heap := h1.push (seqObj "list" vs.toArray 0) }) (P := fun f s' => f = .done (.ret .none) ∧ Q (.ref h1.objs.size) s') (E := E) hat (SortsAt.data (s := { s with heap := sortingHeap (h1.push (seqObj "list" vs.toArray 0)) h1.objs.size vs }) (each_map (R := fun v d => ∃ as, Reads (sortingHeap (h1.push (seqObj "list" vs.toArray 0)) h1.objs.size vs) v d as) enc er') hal hk (bound_map hu)) hL' ⟨rfl, ?_⟩) (fun f s' hf => ?_) fun _ _ e => e
    · refine h _ _ _ (by rw [sortVals_length false rfl]; exact e.length) (sortVals_data false e er' hal) hle (fun b o q => ?_) (sortedHeap_at hat)
      exact (sortedHeap_old (ne b o q) (Heap.lt_size (k2 b o q))).trans (k2 b o q)
    · obtain ⟨rfl, hq⟩ := hf
      exact ⟨_, rfl, wpAny_pure ⟨_, rfl, hq⟩⟩
end
end PySem.W
namespace Nt
open PySem PySem.Spec PyProof.Rows L2
open PySem.W (alike alikeAll dataLt dataLe)
theorem alikes_of {n : Nat} (ih : ∀ {a b : D}, alikeN n a b = true → alike (toPy a) (toPy b) = true) : ∀ {xs ys : List D}, alL (alikeN n) xs ys = true → alikeAll (toPys xs) (toPys ys) = true
  | [], _, _ => by simp [toPys, alikeAll]
  | _ :: _, [], _ => by simp [toPys, alikeAll]
  | x :: xs, y :: ys, h => by
    simp only [alL, Bool.and_eq_true] at h
    simp only [toPys, alikeAll, Bool.and_eq_true]
    exact ⟨ih h.1, alikes_of ih h.2⟩
theorem alike_of : ∀ (n : Nat) {a b : D}, alikeN n a b = true → alike (toPy a) (toPy b) = true
  | 0, a, b, h => by simp [alikeN] at h
  | n + 1, a, b, h => by
    cases a <;> cases b <;> simp only [alikeN, Bool.false_eq_true] at h
    · simp [toPy, alike]
    · simp [toPy, alike]
    · simp [toPy, alike]
    · simp only [toPy, alike]
      exact alikes_of (fun h => alike_of n h) h
theorem lts_of {n : Nat} (ih : ∀ {a b : D}, alikeN n a b = true → plainN n a = true → plainN n b = true → ltN n a b = dataLt (toPy a) (toPy b)) :
    ∀ {xs ys : List D}, alL (alikeN n) xs ys = true → allL (plainN n) xs = true → allL (plainN n) ys = true → ltL (eqN n) (ltN n) xs ys = PyProof.Rows.lexLt PyProof.Rows.itemOrd (PySem.W.keyToksAll (toPys xs)) (PySem.W.keyToksAll (toPys ys))
  | [], [], _, _, _ => by simp [toPys, ltL, PySem.W.keyToksAll, PyProof.Rows.lexLt, PyProof.Rows.itemLt]
  | [], y :: ys, _, _, _ => by simp [toPys, ltL, PySem.W.keyToksAll, PyProof.Rows.lexLt, PyProof.Rows.itemLt]
  | x :: xs, [], _, _, _ => by simp [toPys, ltL, PySem.W.keyToksAll, PyProof.Rows.lexLt, PyProof.Rows.itemLt]
  | x :: xs, y :: ys, h, p, q => by
    simp only [alL, Bool.and_eq_true] at h
    obtain ⟨p1, p2⟩ := allL_cons p
    obtain ⟨q1, q2⟩ := allL_cons q
    simp only [toPys, ltL]
    rw [PySem.W.dataLt_cons (alike_of n h.1), eq_of n p1 q1, lts_of ih h.2 p2 q2, ih h.1 p1 q1]
theorem lt_of : ∀ (n : Nat) {a b : D}, alikeN n a b = true → plainN n a = true → plainN n b = true → ltN n a b = dataLt (toPy a) (toPy b)
  | 0, a, b, h, _, _ => by simp [alikeN] at h
  | n + 1, a, b, h, p, q => by
    cases a <;> cases b <;> simp only [alikeN, Bool.false_eq_true] at h
    · rename_i x y
      rw [toPy, toPy, PySem.W.dataLt_bool]
      cases x <;> cases y <;> rfl
    · rw [toPy, toPy, PySem.W.dataLt_int]; rfl
    · rw [toPy, toPy, PySem.W.dataLt_str, sV_tl, sV_tl, ltN, ltS_eq]
    · rw [toPy, toPy, PySem.W.dataLt_tuple, ltN]
      exact lts_of (fun h p q => lt_of n h p q) h (by simpa [plainN] using p) (by simpa [plainN] using q)
/-- items with what they stand for -/
theorem each_of {K : Frag} {P : Pm} (hK : K = P.K) {X : Cx} (hX : X.K = K) {pins : List (Addr × Obj)} {σ : L2.St} {H : Hp} {M : Addr → Prop} {s : Shared} (I : Inv X pins σ H s) {n : Nat} : ∀ {ds : List D} {vs : List V} {us : List Value}, allL (plainN n) ds = true → RVs P M H ds vs → Vals vs us →
    PySem.W.EachIs (fun u (p : D × V) => RelV p.2 u) us (ds.zip vs) ∧ PySem.W.EachIs (fun u (p : D × V) => ∃ as, Reads s.heap u (toPy p.1) as) us (ds.zip vs)
  | _, _, _, _, .nil, .nil => ⟨.nil, .nil⟩
  | _, _, _, h, .cons r t, .cons q w => by
    obtain ⟨h1, h2⟩ := allL_cons h
    obtain ⟨a, b⟩ := each_of hK hX I h2 t w
    have dp := dp_of n h1 r
    rw [← hK, ← hX] at dp
    obtain ⟨as, ra⟩ := Dp.reads I _ _ _ dp q
    exact ⟨.cons q a, .cons ⟨as, ra⟩ b⟩
theorem vals_of {out : List Value} {l : List (D × V)} (h : PySem.W.EachIs (fun u (p : D × V) => RelV p.2 u) out l) : Vals (l.map (·.2)) out := by
  induction h with
  | nil => exact .nil
  | cons r _ ih => exact .cons r ih
theorem rvs_pairs {P : Pm} {M : Addr → Prop} {H : Hp} : ∀ {l : List (D × V)}, (∀ p ∈ l, RV P M H p.1 p.2) → RVs P M H (l.map (·.1)) (l.map (·.2))
  | [], _ => .nil
  | p :: r, h => .cons (h p List.mem_cons_self) (rvs_pairs fun q hq => h q (List.mem_cons_of_mem _ hq))
theorem pairs_rvs {P : Pm} {M : Addr → Prop} {H : Hp} : ∀ {ds : List D} {vs : List V}, RVs P M H ds vs → (∀ p ∈ ds.zip vs, RV P M H p.1 p.2) ∧ (ds.zip vs).map (·.1) = ds
  | _, _, .nil => ⟨by simp, rfl⟩
  | _, _, .cons r t => by
    obtain ⟨a, b⟩ := pairs_rvs t
    refine ⟨fun p hp => ?_, by simp [b]⟩
    rw [List.zip_cons_cons] at hp
    rcases List.mem_cons.mp hp with rfl | hp
    · exact r
    · exact a p hp
theorem allL_iff {f : D → Bool} : ∀ {ds : List D}, allL f ds = true → ∀ d ∈ ds, f d = true := allL_mem
section
variable {X : Cx} {cls : Nat → Addr}
theorem sort_fin {pins : List (Addr × Obj)} {σ : L2.St} {H : Hp} {s : Shared} {M : Addr → Prop} {Q : VK} {it : Addr} {T : String} {o : Obj} {its : List Value} {n : Nat} {ds : List D} {vs : List V} {d : D} (hu : X.A.units + 65 < cLine) (I : Inv X pins σ H s) (hr : Hr M H) (hT : T = "list" ∨ T = "tuple") (ho : s.heap.get? it = some o) (hc : o.cls = .type T) (hd : o.data = .seq its.toArray n)
    (rv : Vals vs its) (t : RVs (pX X cls) M H ds vs) (e : (sortD ds).map .lst = some d) (q : ∀ H' v, Sm H H' → RV (pX X cls) M H' d v → Q v H') : wpAny (model X.prog X.w) X.A (call (.builtin "sorted") [.ref it]) (EP X pins σ Q) X.xe s := by
  unfold sortD at e
  split at e
  · rename_i hs
    cases e
    unfold sortable at hs
    simp only [Bool.and_eq_true, decide_eq_true_eq, Bool.or_eq_true] at hs
    obtain ⟨⟨⟨hl, hp⟩, ha⟩, hk⟩ := hs
    have hpl := allL_mem hp
    obtain ⟨e1, e2⟩ := each_of (X := X) (P := pX X cls) rfl rfl I hp t rv
    obtain ⟨z1, z2⟩ := pairs_rvs t
    have hzl : (ds.zip vs).length = ds.length := by rw [← List.length_map (f := Prod.fst), z2]
    have hmem : ∀ p ∈ ds.zip vs, p.1 ∈ ds := fun p hp => by rw [← z2]; exact List.mem_map_of_mem hp
    have hal : ∀ a ∈ ds, ∀ b ∈ ds, alikeN DEP a b = true := fun a ha' b hb => allL_mem (allL_mem ha a ha') b hb
    refine PySem.W.nt_sorted_seq (enc := fun p : D × V => toPy p.1) (bs := ds.zip vs) hT ho hc hd e1 e2 ?_ ?_ ?_ ?_ fun out a h' hlen eo hna k hat => ?_
    · intro x hx y hy
      obtain ⟨p, hp, rfl⟩ := List.mem_map.mp hx
      obtain ⟨p', hp', rfl⟩ := List.mem_map.mp hy
      exact alike_of DEP (hal _ (hmem p hp) _ (hmem p' hp'))
    · rcases hk with hk | hk
      · left
        intro x hx
        obtain ⟨p, hp, rfl⟩ := List.mem_map.mp hx
        have h1 := allL_mem hk _ (hmem p hp)
        cases hp1 : p.1 with
        | tup l =>
          rw [hp1] at h1
          cases l with
          | nil => simp [isTupNE] at h1
          | cons y r => exact ⟨toPy y, toPys r, by simp [toPy, toPys]⟩
        | _ => rw [hp1] at h1; simp [isTupNE] at h1
      · right
        intro x hx
        obtain ⟨p, hp, rfl⟩ := List.mem_map.mp hx
        have h1 := allL_mem hk _ (hmem p hp)
        cases hp1 : p.1 <;> rw [hp1] at h1 <;> first | (simp [isAtom] at h1; done) | (exact ⟨by simp [toPy, hp1], fun xs z => by simp [toPy, hp1] at z⟩)
    · rw [hzl]; exact Nat.le_trans hl lim_line
    · intro p hp
      have := (lay_of DEP (hpl _ (hmem p hp))).2
      have h40 : DEP = 40 := rfl
      omega
    · obtain ⟨c, hat⟩ := hat
      have hn : H a = none := I.hok.gone hna
      have hle : ∀ x ∈ ds.zip vs, ∀ y ∈ ds.zip vs, PySem.W.dataLe false (fun p : D × V => toPy p.1) x y = leD x.1 y.1 := fun x hx y hy => by
        rw [PySem.W.dataLe_eq]
        simp only [cond_false]
        unfold leD
        rw [lt_of DEP (hal _ (hmem y hy) _ (hmem x hx)) (hpl _ (hmem y hy)) (hpl _ (hmem x hx))]
      have hfst : ((ds.zip vs).mergeSort (PySem.W.dataLe false fun p : D × V => toPy p.1)).map (·.1) = ds.mergeSort leD := by
        rw [List.map_mergeSort (s := leD) (f := Prod.fst) hle, z2]
      have hperm := List.mergeSort_perm (ds.zip vs) (PySem.W.dataLe false fun p : D × V => toPy p.1)
      have hrv : RVs (pX X cls) M H (ds.mergeSort leD) (((ds.zip vs).mergeSort (PySem.W.dataLe false fun p : D × V => toPy p.1)).map (·.2)) := by
        rw [← hfst]
        exact rvs_pairs fun p hp => z1 p (hperm.mem_iff.mp hp)
      have hv := vals_of eo
      refine ⟨.ref a, upd H a (.lst (((ds.zip vs).mergeSort (PySem.W.dataLe false fun p : D × V => toPy p.1)).map (·.2))), I.laidN (t' := s.toks) k hna hn ⟨?_, out, c, hv, hat⟩, rfl, q _ _ (Sm.new hn) (RV.newL hr hn hrv)⟩
      rw [List.length_map, hperm.length_eq, hzl]
      exact Nat.le_trans hl lim_line
  · cases e
theorem c1_sorted (hu : X.A.units + 65 < cLine) : CallR X (.builtin "sorted") (rC1 (pX X cls) (op1 .sorted)) := by
  rintro pins s σ H xs us Q I r ⟨M, a, d, x, rfl, hr, ha, e, q⟩
  cases a <;> simp only [op1, reduceCtorEq] at e
  · obtain ⟨p, vs, rfl, f, t⟩ := w_tup ha
    cases r with
    | cons r rr =>
      cases rr
      cases r
      obtain ⟨its, rv, ⟨o, ho, hc, n, hd⟩, hz⟩ := I.tuple f.sq
      exact sort_fin hu I hr (.inr rfl) ho hc hd rv t e q
  · obtain ⟨p, vs, rfl, f, t⟩ := w_lst ha
    cases r with
    | cons r rr =>
      cases rr
      cases r
      obtain ⟨its, rv, ⟨o, n, ho, hc, hdn, hd⟩, hz⟩ := I.list (SqL.of f)
      exact sort_fin hu I hr (.inl rfl) ho hc hd rv t e q
theorem c1_max (hc : X.calm = true) : CallR X (.builtin "max") (rC1 (pX X cls) (op1 .max)) := by
  rintro pins s σ H xs us Q I r ⟨M, a, d, x, rfl, hr, ha, e, q⟩
  cases a <;> simp only [op1, reduceCtorEq, Option.bind_eq_some_iff] at e
  obtain ⟨is, h1, e⟩ := e
  split at e
  · cases e
  · rename_i hne
    cases e
    obtain ⟨p, vs, rfl, f, t⟩ := w_lst ha
    have := t.ints h1
    subst this
    refine cr_max hc pins s σ H _ us Q I r ⟨p, is, rfl, SqL.of f, ?_, fun m hm hle => ?_⟩
    · cases is with
      | nil => simp at hne
      | cons => simp
    · rw [← maxI_ok hm hle]
      exact q H _ Sm.refl (.int _)
theorem c1_min (hc : X.calm = true) : CallR X (.builtin "min") (rC1 (pX X cls) (op1 .min)) := by
  rintro pins s σ H xs us Q I r ⟨M, a, d, x, rfl, hr, ha, e, q⟩
  cases a <;> simp only [op1, reduceCtorEq, Option.bind_eq_some_iff] at e
  obtain ⟨is, h1, e⟩ := e
  split at e
  · cases e
  · rename_i hne
    cases e
    obtain ⟨p, vs, rfl, f, t⟩ := w_lst ha
    have := t.ints h1
    subst this
    refine cr_min hc pins s σ H _ us Q I r ⟨p, is, rfl, SqL.of f, ?_, fun m hm hle => ?_⟩
    · cases is with
      | nil => simp at hne
      | cons => simp
    · rw [← minI_ok hm hle]
      exact q H _ Sm.refl (.int _)
end
end Nt
set_option Elab.async false
set_option linter.all false
set_option maxRecDepth 100000
set_option maxHeartbeats 2000000
set_option autoImplicit false
/-! E3d: min of data -/
namespace PySem
open PySem PySem.Spec PyProof.Rows PySem.Calls
open PySem.W (dataLt alike AlikeAll)
section
variable {prog : Program} {w : World} {A : Around} {E : Value → Shared → Prop} {s : Shared}
theorem nt_min_two {a b : Value} {xs : List PyData} {as : List Addr} {Q : Value → Shared → Prop} (hh : A.handled = none)
    (hr : ReadsAll s.heap [a, b] xs as) (hal : AlikeAll xs) (hu : A.units + 1 + PyData.depthAll xs < cLine)
    (h : ∀ v h' tk, (#[a, b] : Array Value)[argBest (fun i j => dataLt (xs.getD i .none) (xs.getD j .none)) 1]? = some v → (∀ b o, s.heap.get? b = some o → h'.get? b = some o) → Q v { s with heap := h', toks := tk }) :
    wpAny (model prog w) A (call (.builtin "min") [a, b]) Q E s := by
  have hname : (toString "min" ++ toString ".loop" : String) = "min.loop" := by decide
  refine call_function_tree F.kind_min F.plain_min F.entry_min (F.args_min2 _ _) ?_
  show wpAny _ A.in1 (Builtin.Builtins.bindParams "min" ["key", "default"] 0 ⟨[], []⟩ >>= _) _ _ s
  refine wpAny_bind (wpAny_of_eq (show Builtin.Builtins.bindParams "min" ["key", "default"] 0 ⟨[], []⟩ = pure [none, none] from rfl) ?_)
  show wpAny _ A.in1 (newTuple [a, b] >>= _) _ _ s
  refine wpAny_bind (wpAny_newObj_type ?_)
  have hT : (s.heap.push { cls := .type "tuple", data := .seq #[a, b] }).IsTuple s.heap.objs.size #[a, b] := ⟨_, Heap.get?_push_size _ rfl, rfl, 0, rfl⟩
  refine wpAny_bind (PySem.W.iter_tupleW (s := { s with heap := s.heap.push { cls := .type "tuple", data := .seq #[a, b] } }) (A := A.in1) hh hT fun s₂ e W st hfp hw hk => ?_)
  have hcmp : CmpIn prog w A.in1 .Lt s.heap (fun i v => (#[a, b] : Array Value)[i]? = some v) (fun i j => dataLt (xs.getD i .none) (xs.getD j .none)) := PySem.W.cmpIn_lt (A := A.in1) (vs := #[a, b]) hr hal (by show A.units + 1 + _ < _; exact hu)
  have hold : ∀ c o, s.heap.get? c = some o → s₂.heap.get? c = some o := fun c o q => hk c o (Heap.get?_push_of_some _ q)
  refine wpAny_bind (wpAny_newObj_type ?_)
  have hSf : s₂.heap.objs.size ∉ [(s.heap.push { cls := .type "tuple", data := .seq #[a, b] }).objs.size, s.heap.objs.size] := fun hm => Nat.lt_irrefl _ (hfp _ hm)
  rw [hname]
  refine wpAny_pure ⟨plainId_quiet F.plain_min_loop _, codeAny_min_loop_firstH W s.heap (fun c o q => hw c o (Heap.get?_push_of_some _ q)) _ hcmp s₂.heap.objs.size hSf (fresh_in hold) _ (Nat.succ_pos 1) (fun c o q => Heap.get?_push_of_some _ (hold c o q)) (W.frame 0 s₂ _ s₂.toks st (Nat.le_refl _) fun b _ o e => Heap.get?_push_of_some _ e) (Heap.get?_push_size _ rfl) fun v s' hP hm => ?_⟩
  obtain ⟨h', tk, rfl, hk'⟩ := PySem.W.moved_old e rfl (Moved.drop_new (tk := s₂.toks) hm (Nat.le_refl _))
  exact h v h' tk hP fun c o q => hk' c o (Heap.get?_push_of_some _ q)
theorem nt_min_list {l : Addr} {vs : Array Value} {x : PyData} {xs : List PyData} {as : List Addr} {Q : Value → Shared → Prop} (hh : A.handled = none) (hl : s.heap.IsList l vs) (hr : ReadsAll s.heap vs.toList (x :: xs) as) (ha : AlikeAll (x :: xs)) (hu : A.units + 1 + PyData.depthAll (x :: xs) < cLine)
    (h : ∀ v h' tk, vs[argBest (fun i j => dataLt ((x :: xs).getD i .none) ((x :: xs).getD j .none)) xs.length]? = some v → (∀ b o, s.heap.get? b = some o → h'.get? b = some o) → Q v { s with heap := h', toks := tk }) :
    wpAny (model prog w) A (call (.builtin "min") [.ref l]) Q E s := by
  have hn : vs.size = xs.length + 1 := PySem.W.readsAll_len hr
  refine call_min_walkH (PySem.W.iter_listW (A := A.in1) hh hl fun s₂ e W st hfp hw hk => ?_)
  refine ⟨_, _, _, _, _, _, _, s.heap, _, rfl, W, st, hfp, by omega, hw, hk, PySem.W.cmpIn_lt (A := A.in1) hr ha (by show A.units + 1 + _ < _; exact hu), fun v s' hP m => ?_⟩
  obtain ⟨h', tk, rfl, hk'⟩ := PySem.W.moved_old e rfl m
  have e1 : vs.size - 1 = xs.length := by omega
  rw [e1] at hP
  exact h v h' tk hP hk'
theorem nt_min_tuple {l : Addr} {vs : Array Value} {x : PyData} {xs : List PyData} {as : List Addr} {Q : Value → Shared → Prop} (hh : A.handled = none) (hl : s.heap.IsTuple l vs) (hr : ReadsAll s.heap vs.toList (x :: xs) as) (ha : AlikeAll (x :: xs)) (hu : A.units + 1 + PyData.depthAll (x :: xs) < cLine)
    (h : ∀ v h' tk, vs[argBest (fun i j => dataLt ((x :: xs).getD i .none) ((x :: xs).getD j .none)) xs.length]? = some v → (∀ b o, s.heap.get? b = some o → h'.get? b = some o) → Q v { s with heap := h', toks := tk }) :
    wpAny (model prog w) A (call (.builtin "min") [.ref l]) Q E s := by
  have hn : vs.size = xs.length + 1 := PySem.W.readsAll_len hr
  refine call_min_walkH (PySem.W.iter_tupleW (A := A.in1) hh hl fun s₂ e W st hfp hw hk => ?_)
  refine ⟨_, _, _, _, _, _, _, s.heap, _, rfl, W, st, hfp, by omega, hw, hk, PySem.W.cmpIn_lt (A := A.in1) hr ha (by show A.units + 1 + _ < _; exact hu), fun v s' hP m => ?_⟩
  obtain ⟨h', tk, rfl, hk'⟩ := PySem.W.moved_old e rfl m
  have e1 : vs.size - 1 = xs.length := by omega
  rw [e1] at hP
  exact h v h' tk hP hk'
end
end PySem
namespace Nt
open PySem PySem.Spec PyProof.Rows L2
open PySem.W (dataLt alike AlikeAll)
theorem argBest_congr {f g : Nat → Nat → Bool} : ∀ k, (∀ i j, i ≤ k → j ≤ k → f i j = g i j) → argBest f k = argBest g k ∧ argBest g k ≤ k
  | 0, _ => ⟨rfl, Nat.le_refl _⟩
  | k + 1, h => by
    obtain ⟨a, b⟩ := argBest_congr k fun i j hi hj => h i j (Nat.le_succ_of_le hi) (Nat.le_succ_of_le hj)
    unfold argBest
    rw [a, h _ _ (Nat.le_refl _) (Nat.le_succ_of_le b)]
    refine ⟨rfl, ?_⟩
    split <;> omega
theorem toPys_getD (ds : List D) (i : Nat) (h : i < ds.length) : (toPys ds).getD i .none = toPy (ds.getD i .non) := by
  rw [toPys_map]
  simp [List.getD_eq_getElem?_getD, h]
theorem sortable_alike {ds : List D} (h : sortable ds = true) : (∀ a ∈ ds, ∀ b ∈ ds, alikeN DEP a b = true) ∧ allL (plainN DEP) ds = true ∧ AlikeAll (toPys ds) := by
  unfold sortable at h
  simp only [Bool.and_eq_true, decide_eq_true_eq, Bool.or_eq_true] at h
  obtain ⟨⟨⟨hl, hp⟩, ha⟩, hk⟩ := h
  have hal : ∀ a ∈ ds, ∀ b ∈ ds, alikeN DEP a b = true := fun a ha' b hb => allL_mem (allL_mem ha a ha') b hb
  refine ⟨hal, hp, ?_, ?_⟩
  · intro x hx y hy
    rw [toPys_map] at hx hy
    obtain ⟨a, ha', rfl⟩ := List.mem_map.mp hx
    obtain ⟨b, hb', rfl⟩ := List.mem_map.mp hy
    exact alike_of DEP (hal a ha' b hb')
  · intro x hx
    rw [toPys_map] at hx
    obtain ⟨a, ha', rfl⟩ := List.mem_map.mp hx
    rcases hk with hk | hk <;> have h1 := allL_mem hk _ ha' <;> cases a <;> simp_all [isTupNE, isAtom, toPy]
theorem minT_pick {x : D} {r : List D} (hs : sortable (x :: r) = true) :
    (x :: r).getD (argBest (fun i j => dataLt ((toPys (x :: r)).getD i .none) ((toPys (x :: r)).getD j .none)) r.length) .non = r.foldl (fun a y => if ltN DEP y a then y else a) x ∧
    argBest (fun i j => dataLt ((toPys (x :: r)).getD i .none) ((toPys (x :: r)).getD j .none)) r.length < (x :: r).length := by
  obtain ⟨ha, hp, _⟩ := sortable_alike hs
  have hpl := allL_mem hp
  have hm : ∀ i, i ≤ r.length → (x :: r).getD i .non ∈ x :: r := fun i hi => by
    rw [List.getD_eq_getElem?_getD, List.getElem?_eq_getElem (by simp; omega)]
    exact List.getElem_mem _
  obtain ⟨e1, e2⟩ := argBest_congr (f := fun i j => dataLt ((toPys (x :: r)).getD i .none) ((toPys (x :: r)).getD j .none)) (g := fun i j => ltN DEP ((x :: r).getD i .non) ((x :: r).getD j .non)) r.length fun i j hi hj => by
    show dataLt _ _ = ltN DEP _ _
    rw [toPys_getD _ _ (by simp; omega), toPys_getD _ _ (by simp; omega), lt_of DEP (ha _ (hm i hi) _ (hm j hj)) (hpl _ (hm i hi)) (hpl _ (hm j hj))]
  rw [e1]
  refine ⟨?_, Nat.lt_succ_of_le e2⟩
  have := (PySem.W.argBest_fold (ltN DEP) D.non x r r.length (Nat.le_refl _)).2
  rw [List.take_length] at this
  exact this
theorem vals_at : ∀ {xs : List V} {us : List Value} {i : Nat} {u : Value}, Vals xs us → us[i]? = some u → ∃ x, xs[i]? = some x ∧ RelV x u
  | _, _, i, u, .nil, h => by simp at h
  | _, _, 0, u, .cons r t, h => by simp at h; subst h; exact ⟨_, rfl, r⟩
  | _, _, i + 1, u, .cons r t, h => by
    simp only [List.getElem?_cons_succ] at h ⊢
    exact vals_at t h
theorem rvs_at {P : Pm} {M : Addr → Prop} {H : Hp} : ∀ {ds : List D} {vs : List V} {i : Nat} {v : V}, RVs P M H ds vs → vs[i]? = some v → ∃ d, ds[i]? = some d ∧ RV P M H d v
  | _, _, i, u, .nil, h => by simp at h
  | _, _, 0, u, .cons r t, h => by simp at h; subst h; exact ⟨_, rfl, r⟩
  | _, _, i + 1, u, .cons r t, h => by
    simp only [List.getElem?_cons_succ] at h ⊢
    exact rvs_at t h
section
variable {X : Cx} {cls : Nat → Addr}
theorem minT_ready {pins : List (Addr × Obj)} {σ : L2.St} {H : Hp} {s : Shared} {M : Addr → Prop} {its : List Value} {ds : List D} {vs : List V} (hu : X.A.units + 65 < cLine) (I : Inv X pins σ H s) (rv : Vals vs its) (t : RVs (pX X cls) M H ds vs) (hs : sortable ds = true) :
    (∃ as, ReadsAll s.heap its (toPys ds) as) ∧ AlikeAll (toPys ds) ∧ X.A.units + 1 + PyData.depthAll (toPys ds) < cLine := by
  obtain ⟨_, hp, hA⟩ := sortable_alike hs
  refine ⟨Dp.readsAll I _ _ _ (dps_of (P := pX X cls) (dp_of DEP) hp t) rv, hA, ?_⟩
  have := (lays_of (lay_of DEP) hp).2
  have h40 : DEP = 40 := rfl
  omega
theorem minT_at {M : Addr → Prop} {H : Hp} {its : List Value} {x : D} {r : List D} {vs : List V} {u : Value} {P : Pm} (rv : Vals vs its) (t : RVs P M H (x :: r) vs) (hs : sortable (x :: r) = true)
    (hP : its[argBest (fun i j => dataLt ((toPys (x :: r)).getD i .none) ((toPys (x :: r)).getD j .none)) r.length]? = some u) : ∃ v, RelV v u ∧ RV P M H (r.foldl (fun a y => if ltN DEP y a then y else a) x) v := by
  obtain ⟨v, hv, rl⟩ := vals_at rv hP
  obtain ⟨d, hd, rvd⟩ := rvs_at t hv
  obtain ⟨e, _⟩ := minT_pick hs
  refine ⟨v, rl, ?_⟩
  rw [← e, List.getD_eq_getElem?_getD, hd]
  exact rvd
theorem c1_minT (hc : X.calm = true) (hu : X.A.units + 65 < cLine) : CallR X (.builtin "min") (rC1 (pX X cls) (op1 .minT)) := by
  rintro pins s σ H xs us Q I r ⟨M, a, d, x, rfl, hr, ha, e, q⟩
  simp only [op1] at e
  split at e
  · rename_i y l hsq
    split at e
    · rename_i hs
      cases e
      cases a <;> simp only [seqOf, reduceCtorEq, Option.some.injEq] at hsq
      · subst hsq
        obtain ⟨p, vs, rfl, f, t⟩ := w_tup ha
        obtain ⟨its, rv, ⟨o, ho, hcl, n, hd⟩, hz⟩ := I.tuple f.sq
        rw [Vals.ref1 r]
        obtain ⟨⟨as, r1⟩, r2, r3⟩ := minT_ready (cls := cls) hu I rv t hs
        exact nt_min_tuple (I.ok.hd hc) (vs := its.toArray) ⟨o, ho, hcl, n, hd⟩ r1 r2 r3 fun v h' tk hP hk => by
          obtain ⟨v', rl, rr⟩ := minT_at rv t hs (by simpa [toPys, toPys_map] using hP)
          exact ⟨v', H, I.kept hk, rl, q H v' Sm.refl rr⟩
      · subst hsq
        obtain ⟨p, vs, rfl, f, t⟩ := w_lst ha
        obtain ⟨its, rv, hl, hz⟩ := I.list (SqL.of f)
        rw [Vals.ref1 r]
        obtain ⟨⟨as, r1⟩, r2, r3⟩ := minT_ready (cls := cls) hu I rv t hs
        exact nt_min_list (I.ok.hd hc) (vs := its.toArray) hl.isList r1 r2 r3 fun v h' tk hP hk => by
          obtain ⟨v', rl, rr⟩ := minT_at rv t hs (by simpa [toPys, toPys_map] using hP)
          exact ⟨v', H, I.kept hk, rl, q H v' Sm.refl rr⟩
    · cases e
  · cases e
theorem c2_minT (hc : X.calm = true) (hu : X.A.units + 65 < cLine) : CallR X (.builtin "min") (rC2 (pX X cls) (op2 .minT)) := by
  rintro pins s σ H xs us Q I r ⟨M, a, b, d, x, y, rfl, hr, ha, hb, e, q⟩
  cases a <;> simp only [op2, reduceCtorEq] at e
  cases b <;> simp only [op2, reduceCtorEq] at e
  split at e
  · rename_i hs
    cases e
    have t : RVs (pX X cls) M H [_, _] [x, y] := .cons (rv_of ha) (.cons (rv_of hb) .nil)
    obtain ⟨u, w', rfl, r1, r2⟩ := vals2 r
    have rv : Vals [x, y] [u, w'] := .cons r1 (.cons r2 .nil)
    obtain ⟨⟨as, g1⟩, g2, g3⟩ := minT_ready (cls := cls) hu I rv t hs
    refine nt_min_two (I.ok.hd hc) g1 g2 g3 fun v h' tk hP hk => ?_
    obtain ⟨v', rl, rr⟩ := minT_at rv t hs (by simpa [toPys, toPys_map] using hP)
    exact ⟨v', H, I.kept hk, rl, q H v' Sm.refl (by simpa using rr)⟩
  · cases e
end
end Nt
set_option Elab.async false
set_option linter.all false
set_option maxRecDepth 100000
set_option maxHeartbeats 1000000
set_option autoImplicit false
/-! E2e: the state under steps; readings; the promise of a def -/
namespace Nt
open PySem PySem.Spec PyProof.Rows L2
section
variable {P : Pm} {Z M M' : Addr → Prop} {ρ ρ' : List (List Addr)} {H H' : Hp} {σ : L2.St} {e : Env} {s s' : Store}
theorem LsOk.sm (x : Sm H H') : ∀ {ds : List D} {vs : List V} {bs : List Addr}, LsOk P M H ds vs bs → LsOk P M H' ds vs bs
  | _, _, _, .nil => .nil
  | _, _, _, .cons h r t => .cons (x _ _ h) (r.sm x) (LsOk.sm x t)
theorem LsOk.less (k : ∀ a, M' a → M a) : ∀ {ds : List D} {vs : List V} {bs : List Addr}, LsOk P M H ds vs bs → LsOk P M' H ds vs bs
  | _, _, _, .nil => .nil
  | _, _, _, .cons h r t => .cons h (r.less k) (LsOk.less k t)
theorem CellOk.sm (x : Sm H H') {o : SO} {fp : List Addr} (h : CellOk P M H ρ o fp) : CellOk P M H' ρ o fp := by
  cases h with
  | lst h t => exact .lst (x _ _ h) (t.sm x)
  | dK h t => exact .dK (x _ _ h) (t.sm x)
  | dT h t => exact .dT (x _ _ h) (t.sm x)
  | snd h h1 h2 t => exact .snd (x _ _ h) (x _ _ h1) (x _ _ h2) (t.sm x)
  | ins h h1 h2 t h3 => exact .ins (x _ _ h) (x _ _ h1) h2 (t.imp (fun d v r => r.sm x) fun _ _ r => r) h3
theorem CellOk.less (k : ∀ a, M' a → M a) {o : SO} {fp : List Addr} (h : CellOk P M H ρ o fp) : CellOk P M' H ρ o fp := by
  cases h with
  | lst h t => exact .lst h (t.less k)
  | dK h t => exact .dK h (t.less k)
  | dT h t => exact .dT h (t.less k)
  | snd h h1 h2 t => exact .snd h h1 h2 (t.less k)
  | ins h h1 h2 t h3 => exact .ins h h1 h2 (t.imp (fun d v r => r.less k) fun _ _ r => r) h3
theorem LsOk.keep (x : Stp M H M' H') (ow : OwnOut M H) : ∀ {ds : List D} {vs : List V} {bs : List Addr}, (∀ a ∈ bs, ∀ u, H a = some u → H' a = some u) → LsOk P M H ds vs bs → LsOk P M' H' ds vs bs
  | _, _, _, _, .nil => .nil
  | _, _, _, hb, .cons h r t => .cons (hb _ List.mem_cons_self _ h) (r.mono x ow) (LsOk.keep x ow (fun a ha => hb a (List.mem_cons_of_mem _ ha)) t)
/-- a cell that nothing touched -/
theorem CellOk.keep (x : Stp M H M' H') (ow : OwnOut M H) (g : ∀ n a, root ρ n = some a → root ρ' n = some a) {o : SO} {fp : List Addr} (hk : ∀ a ∈ fp, ∀ u, H a = some u → H' a = some u) (hd : ∀ a x, H a = some (.own x) → H' a = some (.own x)) (h : CellOk P M H ρ o fp) : CellOk P M' H' ρ' o fp := by
  cases h with
  | lst h t => exact .lst (hk _ (by simp) _ h) (t.mono x ow)
  | dK h t => exact .dK (hk _ (by simp) _ h) (t.mono x ow)
  | dT h t => exact .dT (hk _ (by simp) _ h) (t.mono x ow)
  | snd h h1 h2 t =>
    refine .snd (hk _ (by simp) _ h) (hd _ _ h1) (hk _ (by simp) _ h2) ?_
    exact t.keep x ow fun a ha => hk a (List.mem_cons_of_mem _ (List.mem_cons_of_mem _ ha))
  | ins h h1 h2 t h3 => exact .ins (hk _ (by simp) _ h) (hd _ _ h1) h2 (t.imp (fun d v r => r.mono x ow) g) h3
theorem CellsOk.map {ρ0 ρ1 : List (List Addr)} (f : ∀ {o : SO} {fp : List Addr}, CellOk P M H ρ0 o fp → CellOk P M' H' ρ1 o fp) : ∀ {s : Store} {fps : List (List Addr)}, CellsOk P M H ρ0 s fps → CellsOk P M' H' ρ1 s fps
  | _, _, .nil => .nil
  | _, _, .cons h t => .cons (f h) (CellsOk.map f t)
theorem Rs.sm (x : Sm H H') (h : Rs P M ρ H s) : Rs P M ρ H' s := ⟨h.cells.map (fun c => c.sm x), h.nd, Hr.sm h.here x, h.sub⟩
theorem Rs.less (k : ∀ a, M' a → M a) (sub : ∀ a, inR ρ a → M' a) (h : Rs P M ρ H s) : Rs P M' ρ H s :=
  ⟨h.cells.map (fun c => c.less k), h.nd, fun a m => h.here a (k a m), sub⟩
theorem SlotOk.sm (x : Sm H H') {y : Slot} {v : V} (h : SlotOk P M H ρ y v) : SlotOk P M H' ρ y v := by
  cases h with
  | val h => exact .val (h.sm x)
  | ref h => exact .ref h
  | own h n => exact .own (h.sm x) n
theorem Rp.sm (x : Sm H H') (h : Rp P Z ρ H σ e s) : Rp P Z ρ H' σ e s :=
  ⟨h.rs.sm x, h.len, fun i y q => by
    obtain ⟨v, h1, h2⟩ := h.slot i y q
    exact ⟨v, h1, h2.sm x⟩, h.apart, h.oz⟩
theorem Ex.sm (x : Sm H H') : Ex ρ H ρ H' := ⟨fun a o h _ => x a o h, fun _ h => .inl h, fun _ _ h => h⟩
/-- behind something that told the store anew; Z grows by what is new -/
theorem Rp.exZ {Z' : Addr → Prop} (h : Rp P Z ρ H σ e s) (x : Ex ρ H ρ' H') (r : Rs P M ρ' H' s') (k : ∀ a, Mu Z' ρ' σ e a → M a) (kz : ∀ a, Z' a → Mu Z ρ σ e a ∨ H a = none) (oz : ∀ a, Ow σ e a → ¬ Z' a) : Rp P Z' ρ' H' σ e s' := by
  have st : Stp (Mu Z ρ σ e) H (Mu Z' ρ' σ e) H' := ⟨fun a o q n => x.keep a o q fun m => n (.inr (.inl m)), fun a m => by
    rcases m with m | m | m
    · exact kz a m
    · rcases x.new a m with q | q
      · exact .inl (.inr (.inl q))
      · exact .inr q
    · exact .inl (.inr (.inr m))⟩
  refine ⟨r.less k fun a m => .inr (.inl m), h.len, fun i y q => ?_, h.apart, oz⟩
  obtain ⟨v, h1, h2⟩ := h.slot i y q
  refine ⟨v, h1, ?_⟩
  cases h2 with
  | val h2 => exact .val (h2.mono st h.rs.out)
  | ref h2 => exact .ref (x.roots _ _ h2)
  | own h2 n =>
    refine .own (h2.keep st h.rs.out x.roots (fun a ha u hu => ?_) fun a y hy => x.keep a _ hy fun m => h.rs.out a y hy (h.rs.sub a m)) fun m => ?_
    · rcases List.mem_cons.mp ha with rfl | ha
      · exact x.keep _ _ hu n
      · cases ha
    · rcases x.new _ m with m | m
      · exact n m
      · cases h2 with
        | lst h2 => rw [h2] at m; cases m
        | dK h2 => rw [h2] at m; cases m
        | dT h2 => rw [h2] at m; cases m
        | ins h2 => rw [h2] at m; cases m
/-- behind something that told the store anew -/
theorem Rp.ex (h : Rp P Z ρ H σ e s) (x : Ex ρ H ρ' H') (r : Rs P M ρ' H' s') (k : ∀ a, Mu Z ρ' σ e a → M a) : Rp P Z ρ' H' σ e s' :=
  h.exZ x r k (fun a m => .inl (.inl m)) h.oz
end
/-! ### what an expression's value is known to be -/
/-- 0: data; 1: a slot's own thing, read; 2: a cell, read -/
def kind : PE → Nat
  | .peek _ => 1
  | .sn _ => 2
  | _ => 0
/-- a slot's own thing, read -/
inductive RVo (P : Pm) (M : Addr → Prop) (ρ : List (List Addr)) (H : Hp) : D → V → Prop
  | lst {a : Addr} {vs : List V} {ds : List D} : H a = some (.lst vs) → ¬ inR ρ a → RVs P M H ds vs → RVo P M ρ H (.lst ds) (.ref a)
  | dK {a : Addr} {kvs : List (Key × V)} {ds : List D} : H a = some (.dK kvs) → ¬ inR ρ a → RVs P M H ds (kvs.map (·.2)) → RVo P M ρ H (.dct false (kvs.map fun p => kD p.1) ds) (.ref a)
  | dT {a : Addr} {kvs : List (List Key × V)} {ds : List D} : H a = some (.dT kvs) → ¬ inR ρ a → RVs P M H ds (kvs.map (·.2)) → RVo P M ρ H (.dct true (kvs.map fun p => ktD p.1) ds) (.ref a)
def Vp (k : Nat) (P : Pm) (M : Addr → Prop) (ρ : List (List Addr)) (H : Hp) (d : D) (v : V) : Prop :=
  match k with
  | 0 => RV P M H d v
  | 1 => RVo P M ρ H d v
  | _ => RVw P M H d v
section
variable {P : Pm} {Z M M' : Addr → Prop} {ρ ρ' : List (List Addr)} {H H' : Hp} {σ : L2.St} {e : Env} {s s' : Store} {d : D} {v : V} {k : Nat}
theorem Vp.w (h : Vp k P M ρ H d v) : RVw P M H d v := by
  unfold Vp at h
  split at h
  · exact .of h
  · cases h with
    | lst h _ t => exact .lst h t
    | dK h _ t => exact .dK h t
    | dT h _ t => exact .dT h t
  · exact h
theorem Ex.off (x : Ex ρ H ρ' H') {a : Addr} {o : HO} (h : H a = some o) (n : ¬ inR ρ a) : ¬ inR ρ' a := fun m => by
  rcases x.new a m with m | m
  · exact n m
  · rw [h] at m; cases m
theorem RVo.mono (x : Ex ρ H ρ' H') (ow : OwnOut (Mu Z ρ σ e) H) (h : RVo P (Mu Z ρ σ e) ρ H d v) : RVo P (Mu Z ρ' σ e) ρ' H' d v := by
  cases h with
  | lst h n t => exact .lst (x.keep _ _ h n) (x.off h n) (t.mono x.mu ow)
  | dK h n t => exact .dK (x.keep _ _ h n) (x.off h n) (t.mono x.mu ow)
  | dT h n t => exact .dT (x.keep _ _ h n) (x.off h n) (t.mono x.mu ow)
theorem Vp.mono (hk : k ≤ 1) (x : Ex ρ H ρ' H') (ow : OwnOut (Mu Z ρ σ e) H) (h : Vp k P (Mu Z ρ σ e) ρ H d v) : Vp k P (Mu Z ρ' σ e) ρ' H' d v := by
  match k, hk, h with
  | 0, _, h => exact RV.mono x.mu ow h
  | 1, _, h =>
    exact RVo.mono x ow h
/-! ### readings -/
/-- what is wanted of an answer -/
def Post (P : Pm) (Z : Addr → Prop) (ρ : List (List Addr)) (H : Hp) (σ : L2.St) (e : Env) (W : WX) {α : Type} (r : Res α) (good : α → Store → List (List Addr) → Hp → Prop) : Prop :=
  match r with
  | .ok a s => ∀ ρ' H', Ex ρ H ρ' H' → Rp P Z ρ' H' σ e s → good a s ρ' H'
  | .exc c s => ∀ ρ' H', Ex ρ H ρ' H' → Rp P Z ρ' H' σ e s → W (.ref (P.cls c)) none σ H'
  | .stuck => False
/-- an expression's reading -/
def tE (P : Pm) (W : WX) (k : Nat) (ev : Env → Store → Res D) : TE := fun σ H Q => ∃ Z ρ e s, Rp P Z ρ H σ e s ∧
  Post P Z ρ H σ e W (ev e s) fun d _ ρ' H' => ∀ v, Vp k P (Mu Z ρ' σ e) ρ' H' d v → Q v H'
def tT (P : Pm) (W : WX) (ev : Env → Store → Res Bool) : TT := fun σ H Q => ∃ Z ρ e s, Rp P Z ρ H σ e s ∧
  Post P Z ρ H σ e W (ev e s) fun b _ _ H' => Q b H'
/-- data in a row (each clean) -/
def tEs (P : Pm) (W : WX) (ev : Env → Store → Res (List D)) : TA := fun σ H Q => ∃ Z ρ e s, Rp P Z ρ H σ e s ∧
  Post P Z ρ H σ e W (ev e s) fun ds _ ρ' H' => ∀ vs, RVs P (Mu Z ρ' σ e) H' ds vs → Q vs H'
def ArgOk (P : Pm) (M : Addr → Prop) (H : Hp) (ρ : List (List Addr)) : Arg → V → Prop
  | .val d, v => RV P M H d v
  | .ref n, v => ∃ a, root ρ n = some a ∧ v = .ref a
inductive ArgsOk (P : Pm) (M : Addr → Prop) (H : Hp) (ρ : List (List Addr)) : List Arg → List V → Prop
  | nil : ArgsOk P M H ρ [] []
  | cons {a : Arg} {v : V} {as : List Arg} {vs : List V} : ArgOk P M H ρ a v → ArgsOk P M H ρ as vs → ArgsOk P M H ρ (a :: as) (v :: vs)
def tA (P : Pm) (W : WX) (ev : Env → Store → Res (List Arg)) : TA := fun σ H Q => ∃ Z ρ e s, Rp P Z ρ H σ e s ∧
  Post P Z ρ H σ e W (ev e s) fun as _ ρ' H' => ∀ vs, ArgsOk P (Mu Z ρ' σ e) H' ρ' as vs → Q vs H'
theorem Post.bind {α β : Type} {W : WX} {r : Res α} {f : α → Store → Res β} {good : β → Store → List (List Addr) → Hp → Prop} (h : Post P Z ρ H σ e W (r.bind f) good) :
    Post P Z ρ H σ e W r fun a s ρ1 H1 => Post P Z ρ1 H1 σ e W (f a s) good := by
  cases r with
  | ok a s =>
    intro ρ1 H1 x1 R1
    have h : Post P Z ρ H σ e W (f a s) good := h
    show Post P Z ρ1 H1 σ e W (f a s) good
    revert h
    cases f a s with
    | ok b s2 => exact fun h ρ2 H2 x2 R2 => h ρ2 H2 (x1.trans x2) R2
    | exc c s2 => exact fun h ρ2 H2 x2 R2 => h ρ2 H2 (x1.trans x2) R2
    | stuck => exact fun h => h
  | exc c s => exact h
  | stuck => exact h
theorem Post.imp {α : Type} {W : WX} {r : Res α} {good good' : α → Store → List (List Addr) → Hp → Prop} (h : Post P Z ρ H σ e W r good) (f : ∀ a s ρ' H', Ex ρ H ρ' H' → Rp P Z ρ' H' σ e s → good a s ρ' H' → good' a s ρ' H') : Post P Z ρ H σ e W r good' := by
  cases r with
  | ok a s => exact fun ρ' H' x R => f _ _ _ _ x R (h ρ' H' x R)
  | exc c s => exact h
  | stuck => exact h
theorem Post.of {α : Type} {W : WX} {o : Option α} {good : α → Store → List (List Addr) → Hp → Prop} (h : Post P Z ρ H σ e W (Res.of o s) good) : ∃ a, o = some a ∧ ∀ ρ' H', Ex ρ H ρ' H' → Rp P Z ρ' H' σ e s → good a s ρ' H' := by
  cases o with
  | none => exact h.elim
  | some a => exact ⟨a, rfl, h⟩
end
theorem tE_mono {P : Pm} {W : WX} {k : Nat} {ev : Env → Store → Res D} {σ : L2.St} {H : Hp} {Q Q' : VK} (f : ∀ x H', Q x H' → Q' x H') (h : tE P W k ev σ H Q) : tE P W k ev σ H Q' := by
  obtain ⟨Z, ρ, e, s, R, h⟩ := h
  exact ⟨Z, ρ, e, s, R, h.imp fun a s1 ρ1 H1 X1 R1 h v hv => f v H1 (h v hv)⟩
/-! ### the promise of a def -/
def spF (P : Pm) (φ : List Arg → Store → Res D) : Sp := fun vs H Q E => ∃ M ρ as s, Rs P M ρ H s ∧ ArgsOk P M H ρ as vs ∧
  match φ as s with
  | .ok d s' => ∀ ρ' H' v, Ex ρ H ρ' H' → Rs P (fun a => M a ∨ inR ρ' a) ρ' H' s' → RV P (fun a => M a ∨ inR ρ' a) H' d v → Q v H'
  | .exc c s' => ∀ ρ' H', Ex ρ H ρ' H' → Rs P (fun a => M a ∨ inR ρ' a) ρ' H' s' → E (.ref (P.cls c)) none H'
  | .stuck => False
end Nt
set_option Elab.async false
set_option linter.all false
set_option maxRecDepth 100000
set_option maxHeartbeats 2000000
set_option autoImplicit false
/-! E2u: a def called in an except suite with the error that is handled -/
namespace Nt
open PySem PySem.Spec PyProof.Rows L2 L2H
/-- what such a def promises: of an error of the class D (no dict, no context) it hands back g D -/
structure FnW (P : Program) (w : World) (K : Frag) (mg : Str → Option Value) (base : Heap) (CX : CXT) (k : Nat) (f : Addr) (fd : FuncData) (x : Str) (D : Addr) (z : V) : Prop where
  run : ∀ (A : Around) (outer : List PySem.Env) (s : Shared) (H : Hp) (args : Args) (Q : VK) (E : XK) (p : Addr × Obj), RoomH k A → Hot1 A p → PinOk outer H s p → Zc (.ref D) none p.2 → Env0 P w K mg base A outer s H → BindsTo s fd args [(x, .ref p.1)] → (∀ H', Sm H H' → Q z H') →
    codeAny (model P w) A (.call (.ref f) args) (CR CX outer P w H s Q E) s
section
variable {CX : CXT} {P : Program} {w : World} {K : Frag} {mg : Str → Option Value} {base : Heap} {k : Nat} {f : Addr} {fd : FuncData} {x qual : Str} {params : Arguments} {body : List Stmt} {scope : Scope} {dvs : List V} {kws : List (Str × V)} {N : List Str} {D : Addr} {z : V}
/-- by its body, run where the error is pinned -/
theorem fnW_of (F : FunD K x qual params body scope dvs kws f fd) {y : Str} (S : FnScope N [y] scope)
    (hbody : ∀ (cdv : Value) (A : Around) (outer : List PySem.Env) (s : Shared) (H : Hp) (Q : VK) (E : XK) (p : Addr × Obj), Hot1 A p → Zc (.ref D) none p.2 → RoomH k (A.deeper (envOfC qual scope s.heap.objs.size f cdv)) → (∀ H', Sm H H' → Q z H') →
      ∃ t, L2.PSs (cxH CX P w K mg base N qual scope f cdv A outer s H E p) body t ∧ t { nx := fun _ H' => Q .non H', rt := Q } (L2.start N [.ref p.1]) H) : FnW P w K mg base CX (k + 1) f fd y D z := by
  obtain ⟨oc, od, dV, kV, doc, pm, an, cdv, ct, osl, rfl, lk, hcd, _, _⟩ := F.ex
  refine ⟨fun A outer s H args Q E p hr hot hpin hz e0 hb hq => ?_⟩
  have KX : K.In s.heap := e0.mod.kin.keeps fun b o e => (e0.bs b o e).1
  have lim : s.heap.NoLimit := e0.mod.nolimit.keeps fun b o e => (e0.bs b o e).1
  have hkind : ∀ q ∈ [(y, Value.ref p.1)], scope.names.lookup q.1 = some .local ∨ (scope.names.lookup q.1 = some .cell ∧ ((cellsFrom (s.heap.objs.size + 1) scope.names []).lookup q.1).isSome = true) := fun q hq => by
    have e : q = (y, Value.ref p.1) := by simpa using hq
    subst e
    rcases S.par y List.mem_cons_self with q | q
    · exact .inl q
    · exact .inr ⟨q, PySem.W.cellsFrom_some _ _ _ (.inl q)⟩
  refine codeAny_call_function hr.depth (KX _ _ lk) rfl S.co S.gen rfl (PySem.W.codeRec_of KX hcd) (hb _ _ _ _ ?_)
  refine wpAny_newFunctionEnv_cells S.kind hkind fun env he s1 x => ?_
  subst he
  refine ⟨lim.keeps x.toInCall.keep, codeAny_func ?_⟩
  obtain ⟨t, ht, hqq⟩ := hbody cdv A outer s H Q E p hot hz (hr.deeper _) hq
  have I : Inv (cxH CX P w K mg base N qual scope f cdv A outer s H E p) [] (L2.start N [.ref p.1]) H s1 := inv_startH (us := [.ref p.1]) S hpin e0 rfl (.cons rfl .nil) x
  refine wpAny_mono (ht.run [] s1 _ H _ I hqq) (fun fl s' hs => ?_) fun e s' hs => hs
  cases fl with
  | ret u =>
    obtain ⟨v, σ', H', J, rv, q⟩ := hs
    exact ⟨v, H', J.os, J.bare, J.base, J.hok, rv, q⟩
  | next =>
    obtain ⟨σ', H', J, q⟩ := hs
    exact ⟨.non, H', J.os, J.bare, J.base, J.hok, rfl, q⟩
  | brk =>
    obtain ⟨_, _, _, q⟩ := hs
    exact q.elim
  | cont =>
    obtain ⟨_, _, _, q⟩ := hs
    exact q.elim
end
section
variable {X : Cx} {CX : CXT} {k : Nat} {f D : Addr} {fd : FuncData} {y x : Str} {z : V} {q pos : Pos} {e : Expr}
/-- f(e), e the error that is handled -/
theorem pe_callW {p : Addr × Obj} (F : FnW X.prog X.w X.K X.mg X.base CX k f fd y D z) (hr : RoomH k X.A) (hot : Hot1 X.A p) (hp : p ∈ X.pn) (hz : Zc (.ref D) none p.2) (hg : Gl X x) (hm : X.mg x = some (.ref f)) (hk : PySem.W.keepIn X.K (.ref f) = true) (hb : Binds X.K fd [y] []) (hx : Passes CX X fun _ _ _ => False)
    {i : Nat} (ha : L2.PE X e (tVar i)) (hdb : (x == ("__debug__" : Str)) = false) (he : starEach [e] X.env = (false, eval e X.env) :: starEach [] X.env) :
    L2.PE X (.Call (.Name x q) [e] [] pos) (fun σ H Q => σ[i]? = some (some (.ref p.1)) ∧ ∀ H', Sm H H' → Q z H') := by
  refine ⟨fun pins s σ H Q I h => ?_⟩
  refine wpAny_Call_Name_kw (ld_glob I hg hm ?_ hdb)
  refine PySem.W.callWith_K (h₀ := X.base) I.ok.mod.kin hk (thn ((pa_cons ha pa_nil he).run pos pins s σ H (fun vs H1 => vs = [.ref p.1] ∧ ∀ H', Sm H1 H' → Q z H') I ?_) fun us s1 ⟨vs, H1, I1, r, ev, qq⟩ => ⟨I1.kIn, ?_⟩) he rfl
  · exact ⟨_, h.1, rfl, h.2⟩
  · subst ev
    cases r with
    | cons r rr =>
      cases rr
      cases r
      have b := hb s1 [.ref p.1] I1.kIn rfl
      rw [List.append_nil] at b
      have P1 := I1.pin p (List.mem_append_left _ hp)
      have hpin : PinOk X.stack H1 s1 p := ⟨P1.1, P1.2.1, fun hm => (List.mem_cons.mp (I1.stkSub p.1 hm)).elim P1.2.2.1 P1.2.2.2.1, P1.2.2.2.2⟩
      refine wpAny_call (codeAny_mono (F.run X.A X.stack s1 H1 ⟨[.ref p.1], []⟩ Q (fun _ _ _ => False) p hr hot hpin hz I1.env0 b qq) fun r s' hq => ?_)
      cases r with
      | error e => exact hx pins σ H1 s1 e s' I1 hq
      | ok fl =>
        cases fl with
        | ret u => exact I1.after hq
        | next => exact False.elim hq
        | brk => exact False.elim hq
        | cont => exact False.elim hq
end
end Nt
set_option Elab.async false
set_option linter.all false
set_option maxRecDepth 100000
set_option maxHeartbeats 2000000
set_option autoImplicit false
/-! E2w: _law_word: the walk -/
namespace Nt
open PySem PySem.Spec PyProof.Rows L2 L2H
theorem cxH_nox {CX : CXT} {P : Program} {w : World} {K : Frag} {mg : Str → Option Value} {base : Heap} {N : List Str} {qual : Str} {scope : Scope} {f : Addr} {cd : Value} {A : Around} {outer : List PySem.Env} {s : Shared} {H : Hp} {E : XK} {p : Addr × Obj} (hot : Hot1 A p) :
    (cxH CX P w K mg base N qual scope f cd A outer s H E p).nox = (cxOf CX P w K mg base N qual scope f cd A outer s H E).suite p.1 [p] := by
  obtain ⟨h, _⟩ := hot
  have e : (A.deeper (envOfC qual scope s.heap.objs.size f cd)).mark (some (.ref p.1)) = A.deeper (envOfC qual scope s.heap.objs.size f cd) := by
    have h' : (A.deeper (envOfC qual scope s.heap.objs.size f cd)).handled = some (.ref p.1) := h
    revert h'
    generalize A.deeper (envOfC qual scope s.heap.objs.size f cd) = B
    intro h'
    cases B
    simp only at h'
    subst h'
    rfl
  show Cx.mk _ _ _ _ _ _ _ _ _ _ _ _ _ _ _ _ _ = Cx.mk _ _ _ _ _ _ _ _ _ _ _ _ _ _ _ _ _
  rw [show (cxOf CX P w K mg base N qual scope f cd A outer s H E).A = A.deeper (envOfC qual scope s.heap.objs.size f cd) from rfl, e]
  rfl
def rCountD (K : Frag) : V → List V → Hp → VK → Prop := fun x xs H Q => ∃ (a : Addr) (vs : List V) (y : V) (d : PyData) (ds : List PyData), x = .ref a ∧ xs = [y] ∧ SqL K H a vs ∧ DpAll K H vs ds ∧ Dp K H y d ∧
  SeqAt.shaped (.list ds) = true ∧ SeqAt.shaped d = true ∧ Q (.int ((ds.countP fun z => PyData.eqv z d : Nat) : Int)) H
theorem mt_countD {X : Cx} (hu : X.A.units + 65 < cLine) : MtR X "list.count" (rCountD X.K) := by
  intro pins s σ H x xs v us Q I rx rxs h
  obtain ⟨a, vs, y, d, ds, rfl, rfl, hs, ha, hy, sl, sd, q⟩ := h
  cases rx
  obtain ⟨u, rfl, ry⟩ := rxs.one
  obtain ⟨bs, r1⟩ := Dp.reads I d y u hy ry
  obtain ⟨its, rv, pl, hlen⟩ := I.list hs
  obtain ⟨as, h4⟩ := Dp.readsAll I ds _ its ha rv
  refine SeqAt.count_list_data pl.isList (by simpa using h4) r1 ?_ ?_ ?_ ⟨.int _, H, I.tok _, ⟨_, rfl⟩, q⟩
  · exact PyData.plainAll_of_canLay0 _ (SeqAt.canLay_of_shaped sl)
  · exact PyData.plain_of_canLay0 _ (SeqAt.canLay_of_shaped sd)
  · exact room_in_shaped sd hu
/-- isinstance(x, C) -/
def isK (x C : Str) : Expr → Bool
  | .Call (.Name f _) [.Name y _, .Name c _] [] _ => f == ("isinstance" : Str) && y == x && c == C
  | _ => false
def nmK (y : Str) : Expr → Bool
  | .Name z _ => z == y
  | _ => false
def trK : Expr → Bool
  | .Constant (.bool b) _ _ => b
  | _ => false
def stK (s : Str) : Expr → Bool
  | .Constant (.str z) _ _ => z == s
  | _ => false
/-- y.m(True) -/
def mtK (y m : Str) : Expr → Bool
  | .Call (.Attribute o n ap) [e] [] cp => nmK y o && n == m && trK e && ap.endLine == cp.line
  | _ => false
def ls2K (x C1 C2 : Str) : Expr → Bool
  | .List [a, b] _ => isK x C1 a && isK x C2 b
  | _ => false
def addK (x y C1 C2 : Str) : Expr → Bool
  | .BinOp l .Add r _ => nmK y l && ls2K x C1 C2 r
  | _ => false
def testK (x y : Str) : Expr → Bool
  | .BoolOp .Or [.Compare l [.NotEq] [.Constant (.int i) _ _] _, .UnaryOp .Not r _] _ => mtK y "count" l && decide (i = 1) && isK x "ValueError" r
  | _ => false
def retK (y : Str) : Expr → Bool
  | .Subscript (.Tuple [a, b, c, d, e, f] _ _) i _ => stK "no track" a && stK "no event" b && stK "no bar" c && stK "no key" d && stK "no bytes" e && stK "no text" f && mtK y "index" i
  | _ => false
/-- the text of _law_word -/
def wordOk (x y : Str) : List Stmt → Bool
  | [.Assign [.Name y1 _] v1 _, .Assign [.Name y2 _] v2 _, .Assign [.Name y3 _] v3 _, .If t [.Return (some (.Constant (.str _) _ _)) _] [] _, .Return (some e) _] =>
    y1 == y && y2 == y && y3 == y && ls2K x "NoTrack" "NoEvent" v1 && addK x y "NoBar" "NoKey" v2 && addK x y "NoBytes" "NoText" v3 && testK x y t && retK y e
  | _ => false
section
variable {X0 : Cx} {a D : Addr} {oe : Obj} {x y : Str} {ix iy : Nat}
abbrev Yc (X0 : Cx) (a : Addr) (oe : Obj) : Cx := X0.suite a [(a, oe)]
/-- what is known around it -/
structure WK (X0 : Cx) (a D : Addr) (oe : Obj) (x y : Str) (ix iy : Nat) : Prop where
  nd : X0.N.Nodup
  hx : X0.N[ix]? = some x
  hy : X0.N[iy]? = some y
  lx : X0.env.scope.names.lookup x = some .local
  ly : X0.env.scope.names.lookup y = some .local
  gi : Gl X0 "isinstance"
  mi : X0.mg "isinstance" = none
  un : X0.A.units + 65 < cLine
  fn : ∀ z, X0.fn z = true
  ec : ExcC X0.K D
  hz : Zc (.ref D) none oe
  hf : ∃ vs, oe.data = .fields vs
  ne : ix ≠ iy
  dx : (x == ("__debug__" : Str)) = false ∧ (x == ("__classdict__" : Str)) = false
  dy : (y == ("__debug__" : Str)) = false ∧ (y == ("__classdict__" : Str)) = false
/-- a class that is asked of: its value, the answer -/
def CK (X0 : Cx) (D : Addr) (C : Str) (b : Bool) : Prop := ∃ (pe : V), (∀ pos : Pos, Gl X0 C ∧ ∀ oe a, L2.PE (Yc X0 a oe) (.Name C pos) (tC pe)) ∧ ∃ cv : Value, (∀ u, RelV pe u → u = cv) ∧ PySem.W.kitOne X0.K (.ref D) cv = some b
def tHld (ix : Nat) (a : Addr) (te : VK → L2.St → Hp → Prop) : TE := fun σ H Q => σ[ix]? = some (some (.ref a)) ∧ te Q σ H
theorem pe_isK (k : WK X0 a D oe x y ix iy) {C : Str} {b : Bool} (c : CK X0 D C b) {e : Expr} (h : isK x C e = true) :
    L2.PE (Yc X0 a oe) e (fun σ H Q => σ[ix]? = some (some (.ref a)) ∧ Q (.bl b) H) ∧ ∀ env es, starEach (e :: es) env = (false, eval e env) :: starEach es env := by
  unfold isK at h
  split at h
  · rename_i f p1 y' p2 c' p3 p4
    simp only [Bool.and_eq_true, beq_iff_eq] at h
    obtain ⟨⟨rfl, rfl⟩, rfl⟩ := h
    obtain ⟨pe, hc, cv, hcv, hk⟩ := c
    refine ⟨?_, fun _ _ => rfl⟩
    have pv : L2.PE (Yc X0 a oe) (.Name y' p2) (tVar ix) := pe_var k.hx (.inl k.lx) k.dx.1 k.dx.2
    have pc : L2.PE (Yc X0 a oe) (.Name c' p3) (tC pe) := (hc p3).2 oe a
    have := pe_callB (X := Yc X0 a oe) (p := p1) (pos := p4) (call_isE (X := X0) (pn := []) k.ec k.hz k.hf) (x := ("isinstance" : Str)) k.gi k.mi PyProof.Rows.boot_isinstance (pa_cons pv (pa_cons pc pa_nil rfl) rfl)
    refine ⟨fun pins s σ H Q I q => this.run pins s σ H Q I ?_⟩
    exact ⟨_, q.1, pe, cv, b, rfl, hcv, hk, q.2⟩
  · cases h
theorem pe_ls2 (k : WK X0 a D oe x y ix iy) {C1 C2 : Str} {b1 b2 : Bool} (c1 : CK X0 D C1 b1) (c2 : CK X0 D C2 b2) {e : Expr} (h : ls2K x C1 C2 e = true) :
    L2.PE (Yc X0 a oe) e (fun σ H Q => σ[ix]? = some (some (.ref a)) ∧ ∀ p, H p = none → Q (.ref p) (upd H p (.lst [.bl b1, .bl b2]))) := by
  unfold ls2K at h
  split at h
  · rename_i e1 e2 p
    simp only [Bool.and_eq_true] at h
    obtain ⟨h1, s1⟩ := pe_isK k c1 h.1
    obtain ⟨h2, s2⟩ := pe_isK k c2 h.2
    have := pe_lst (X := Yc X0 a oe) (pos := p) (pa_cons h1 (pa_cons h2 pa_nil (s2 _ _)) (s1 _ _))
    refine ⟨fun pins s σ H Q I q => this.run pins s σ H Q I ?_⟩
    refine ⟨q.1, q.1, ?_, q.2⟩
    show 2 ≤ sizeLine
    decide
  · cases h
theorem pe_nmK (k : WK X0 a D oe x y ix iy) {e : Expr} (h : nmK y e = true) : L2.PE (Yc X0 a oe) e (tVar iy) ∧ ∃ p, e = .Name y p := by
  unfold nmK at h
  split at h
  · rw [beq_iff_eq] at h
    subst h
    exact ⟨pe_var k.hy (.inl k.ly) k.dy.1 k.dy.2, _, rfl⟩
  · cases h
theorem pe_addK (k : WK X0 a D oe x y ix iy) {C1 C2 : Str} {b1 b2 : Bool} (c1 : CK X0 D C1 b1) (c2 : CK X0 D C2 b2) {e : Expr} (h : addK x y C1 C2 e = true) :
    L2.PE (Yc X0 a oe) e (fun σ H Q => σ[ix]? = some (some (.ref a)) ∧ ∃ l xs, σ[iy]? = some (some (.ref l)) ∧ H l = some (.lst xs) ∧ xs.length ≤ 10 ∧ ∀ p H', H' p = some (.lst (xs ++ [.bl b1, .bl b2])) → Sm H H' → Q (.ref p) H') := by
  unfold addK at h
  split at h
  · rename_i l0 r0 pos0
    simp only [Bool.and_eq_true] at h
    have := pe_op (X := Yc X0 a oe) (pos := pos0) op_cat (pe_nmK k h.1).1 (pe_ls2 k c1 c2 h.2)
    refine ⟨fun pins s σ H Q I q => this.run pins s σ H Q I ?_⟩
    obtain ⟨qx, l, xs, qy, hl, hn, q⟩ := q
    refine ⟨_, qy, qx, fun p hp => ?_⟩
    have hlp : l ≠ p := fun z => by subst z; rw [hl] at hp; cases hp
    refine ⟨l, p, xs, [.bl b1, .bl b2], rfl, rfl, ?_, upd_same, ?_, fun p' hp' => q p' _ upd_same ((Sm.new hp).trans (Sm.new hp'))⟩
    · rw [upd_ne hlp]; exact hl
    · show xs.length + 2 ≤ sizeLine
      have : 12 ≤ sizeLine := by decide
      omega
  · cases h
/-- y.m(True) -/
theorem pe_mtK (k : WK X0 a D oe x y ix iy) {m : Str} {id : String} {r : V → List V → Hp → VK → Prop} (slot : PySem.Slot "list" m id) (hty : typeOf (.builtin id) = pure (.type "method_descriptor")) (hm : MtR (Yc X0 a oe) id r) {e : Expr} (h : mtK y m e = true) :
    L2.PE (Yc X0 a oe) e (tBM X0.K "list" r (tVar iy) (tCons (tC (.bl true)) tNil)) ∧ ∀ op, behindInMarks op e = false := by
  unfold mtK at h
  split at h
  · rename_i o n ap e1 cp
    simp only [Bool.and_eq_true, beq_iff_eq] at h
    obtain ⟨⟨⟨h1, rfl⟩, h3⟩, h4⟩ := h
    obtain ⟨pv, py, rfl⟩ := pe_nmK k h1
    unfold trK at h3
    split at h3
    · rename_i b j pk
      subst h3
      exact ⟨pe_bm (X := Yc X0 a oe) PySem.F.plainAttrs_list slot hty hm pv (pa_cons (pe_bl (b := true)) pa_nil rfl) rfl rfl (by simpa using h4) rfl rfl, fun _ => rfl⟩
    · cases h3
  · cases h
def pds (bs : List Bool) : List PyData := bs.map .bool
def vbs (bs : List Bool) : List V := bs.map .bl
theorem dp_bs {K : Frag} {H : Hp} : ∀ bs : List Bool, DpAll K H (vbs bs) (pds bs)
  | [] => .nil
  | b :: bs => .cons (.bl b) (dp_bs bs)
theorem pt_testK (k : WK X0 a D oe x y ix iy) (cV : CK X0 D "ValueError" true) {bs : List Bool} (hb : SeqAt.shaped (.list (pds bs)) = true) (hc : ((pds bs).countP fun z => PyData.eqv z (.bool true)) = 1) {e : Expr} (h : testK x y e = true) :
    L2.PT (Yc X0 a oe) e (fun σ H Q => σ[ix]? = some (some (.ref a)) ∧ ∃ l, σ[iy]? = some (some (.ref l)) ∧ H l = some (.lst (vbs bs)) ∧ Q false H) := by
  unfold testK at h
  split at h
  · rename_i l i j pi pc r pr pos
    simp only [Bool.and_eq_true, decide_eq_true_eq] at h
    obtain ⟨⟨h1, rfl⟩, h3⟩ := h
    have pm := (pe_mtK (a := a) (oe := oe) k PySem.F.slot_list_count PySem.F.type_list_count (mt_countD (X := Yc X0 a oe) k.un) h1).1
    obtain ⟨pI, sI⟩ := pe_isK k cV h3
    have p1 : L2.PT (Yc X0 a oe) (.Compare l [.NotEq] [.Constant (.int 1) j pi] pc) _ := pt_cmpR op_ne pm (pe_int (i := 1)) rfl
    have p2 : L2.PT (Yc X0 a oe) r _ := pt_truth pI (by
      intro whole
      unfold isK at h3
      split at h3
      · rfl
      · cases h3)
    have := PW.pt (pw_or (pos := pos) p1 (pw_or1 (pos := pos) (pt_not (pos := pr) p2)))
    refine ⟨fun pins s σ H Q I q => this.run pins s σ H Q I ?_⟩
    obtain ⟨qx, l', qy, hl, q⟩ := q
    refine ⟨_, qy, .inl ⟨rfl, _, SqL.of hl⟩, l', _, .bl true, .bool true, pds bs, rfl, rfl, SqL.of hl, dp_bs bs, .bl true, hb, rfl, ?_⟩
    rw [hc]
    refine ⟨rfl, false, by simp, ?_⟩
    show (if false = true then _ else _)
    rw [if_neg Bool.false_ne_true]
    exact ⟨qx, true, rfl, q⟩
  · cases h
theorem pe_stK {s : Str} {e : Expr} {Y : Cx} (h : stK s e = true) : L2.PE Y e (tC (.str s)) ∧ ∀ env es, starEach (e :: es) env = (false, eval e env) :: starEach es env := by
  unfold stK at h
  split at h
  · rw [beq_iff_eq] at h
    subst h
    exact ⟨pe_str, fun _ _ => rfl⟩
  · cases h
def words6 : List Str := ["no track", "no event", "no bar", "no key", "no bytes", "no text"]
theorem pe_retK (k : WK X0 a D oe x y ix iy) {bs : List Bool} {j : Nat} {w : Str} (hb : SeqAt.shaped (.list (pds bs)) = true) (hj : (pds bs)[j]? = some (.bool true)) (hno : ∀ m z, m < j → (pds bs)[m]? = some z → PyData.eqv z (.bool true) = false)
    (hw : words6[j]? = some w) {e : Expr} (h : retK y e = true) :
    L2.PE (Yc X0 a oe) e (fun σ H Q => ∃ l, σ[iy]? = some (some (.ref l)) ∧ H l = some (.lst (vbs bs)) ∧ ∀ H', Sm H H' → Q (.str w) H') := by
  unfold retK at h
  split at h
  · rename_i e1 e2 e3 e4 e5 e6 kt pt i pos
    simp only [Bool.and_eq_true] at h
    obtain ⟨⟨⟨⟨⟨⟨h1, h2⟩, h3⟩, h4⟩, h5⟩, h6⟩, h7⟩ := h
    obtain ⟨p1, s1⟩ := pe_stK (Y := Yc X0 a oe) h1
    obtain ⟨p2, s2⟩ := pe_stK (Y := Yc X0 a oe) h2
    obtain ⟨p3, s3⟩ := pe_stK (Y := Yc X0 a oe) h3
    obtain ⟨p4, s4⟩ := pe_stK (Y := Yc X0 a oe) h4
    obtain ⟨p5, s5⟩ := pe_stK (Y := Yc X0 a oe) h5
    obtain ⟨p6, s6⟩ := pe_stK (Y := Yc X0 a oe) h6
    have pt' : L2.PE (Yc X0 a oe) (.Tuple [e1, e2, e3, e4, e5, e6] kt pt) _ := pe_tup (X := Yc X0 a oe) (pa_cons p1 (pa_cons p2 (pa_cons p3 (pa_cons p4 (pa_cons p5 (pa_cons p6 pa_nil (s6 _ _)) (s5 _ _)) (s4 _ _)) (s3 _ _)) (s2 _ _)) (s1 _ _))
    have pi := (pe_mtK (a := a) (oe := oe) k PySem.F.slot_list_index PySem.F.type_list_index (mt_indexD (X := Yc X0 a oe) k.un) h7).1
    have := pe_ix (X := Yc X0 a oe) (pos := pos) ix_tup pt' pi (by
      intro o q
      unfold mtK at h7
      split at h7
      · rfl
      · cases h7)
    refine ⟨fun pins s σ H Q I q => this.run pins s σ H Q I ?_⟩
    obtain ⟨l', qy, hl, q⟩ := q
    refine ⟨by show 6 ≤ sizeLine; decide, fun p hp => ?_⟩
    have hlp : l' ≠ p := fun z => by subst z; rw [hl] at hp; cases hp
    have hl2 : (upd H p (.tup [.str "no track", .str "no event", .str "no bar", .str "no key", .str "no bytes", .str "no text"])) l' = some (.lst (vbs bs)) := by rw [upd_ne hlp]; exact hl
    refine ⟨_, qy, .inl ⟨rfl, _, SqL.of hl2⟩, l', .bl true, .bool true, pds bs, j, .bool true, rfl, rfl, .lst (SqL.of hl2) (dp_bs bs), .bl true, hb, rfl, hj, rfl, hno, ?_⟩
    refine ⟨p, _, (j : Int), .str w, rfl, rfl, .inl (.inl upd_same), ?_, q _ (Sm.new hp)⟩
    have : (words6.map V.str)[j]? = some (.str w) := by rw [List.getElem?_map, hw]; rfl
    have hj6 : j < 6 := by have := (List.getElem?_eq_some_iff.mp hw).1; exact this
    show L2.atI (words6.map V.str) (j : Int) = some (.str w)
    have e6 : L2.ixN (words6.map V.str).length (j : Int) = some j := by
      show L2.ixN 6 (j : Int) = some j
      unfold L2.ixN
      rw [if_pos (by omega), if_pos (by omega)]
      simp
    unfold L2.atI
    rw [e6, Option.bind_some, this]
  · cases h
theorem swap_nm {e : Expr} {t : Option Expr} {l : Nat} {env : PySem.Env} (h : (∃ es p, e = .List es p) ∨ ∃ l' o r p, e = .BinOp l' o r p) : swapsWith e t l env = pure false := by
  rcases h with ⟨_, _, rfl⟩ | ⟨_, _, _, _, rfl⟩ <;> rfl
/-- all that is asked, and the answers: the j-th class -/
structure WA (X0 : Cx) (D : Addr) (j : Nat) : Prop where
  c1 : CK X0 D "NoTrack" (decide (j = 0))
  c2 : CK X0 D "NoEvent" (decide (j = 1))
  c3 : CK X0 D "NoBar" (decide (j = 2))
  c4 : CK X0 D "NoKey" (decide (j = 3))
  c5 : CK X0 D "NoBytes" (decide (j = 4))
  c6 : CK X0 D "NoText" (decide (j = 5))
  cV : CK X0 D "ValueError" true
def bs6 (j : Nat) : List Bool := [decide (j = 0), decide (j = 1), decide (j = 2), decide (j = 3), decide (j = 4), decide (j = 5)]
theorem word_walk (k : WK X0 a D oe x y ix iy) {j : Nat} {w : Str} (A : WA X0 D j) (hj : j < 6) (hw : words6[j]? = some w) {body : List Stmt} (h : wordOk x y body = true) :
    ∃ t, L2.PSs (Yc X0 a oe) body t ∧ ∀ De σ H, σ[ix]? = some (some (.ref a)) → iy < σ.length → (∀ H', Sm H H' → De.rt (.str w) H') → t De σ H := by
  unfold wordOk at h
  split at h
  · rename_i y1 q1 v1 p1 y2 q2 v2 p2 y3 q3 v3 p3 t z zk zp rp ip e ep
    simp only [Bool.and_eq_true, beq_iff_eq] at h
    obtain ⟨⟨⟨⟨⟨⟨⟨rfl, rfl⟩, rfl⟩, h1⟩, h2⟩, h3⟩, h4⟩, h5⟩ := h
    have sL : ∀ {e C1 C2}, ls2K x C1 C2 e = true → ∃ es p, e = .List es p := fun {e C1 C2} h => by
      unfold ls2K at h
      split at h
      · exact ⟨_, _, rfl⟩
      · cases h
    have sB : ∀ {e C1 C2}, addK x y3 C1 C2 e = true → ∃ l' o r p, e = .BinOp l' o r p := fun {e C1 C2} h => by
      unfold addK at h
      split at h
      · exact ⟨_, _, _, _, rfl⟩
      · cases h
    have hcnt : SeqAt.shaped (.list (pds (bs6 j))) = true ∧ ((pds (bs6 j)).countP fun z => PyData.eqv z (.bool true)) = 1 ∧ (pds (bs6 j))[j]? = some (.bool true) ∧ ∀ m z, m < j → (pds (bs6 j))[m]? = some z → PyData.eqv z (.bool true) = false := by
      have : j = 0 ∨ j = 1 ∨ j = 2 ∨ j = 3 ∨ j = 4 ∨ j = 5 := by omega
      rcases this with rfl | rfl | rfl | rfl | rfl | rfl
      all_goals
        refine ⟨by decide, by decide, rfl, fun m z hm hz => ?_⟩
        have : m = 0 ∨ m = 1 ∨ m = 2 ∨ m = 3 ∨ m = 4 := by omega
        rcases this with rfl | rfl | rfl | rfl | rfl <;> first | (exfalso; omega) | (cases hz; rfl)
    obtain ⟨b1, b2, b3, b4⟩ := hcnt
    have s1 := ps_set (X := Yc X0 a oe) (pos := p1) (pos' := q1) k.nd k.hy (.inl k.ly) (pe_ls2 k A.c1 A.c2 h1) (swap_nm (.inl (sL h1))) (.inl (k.fn _))
    have s2 := ps_set (X := Yc X0 a oe) (pos := p2) (pos' := q2) k.nd k.hy (.inl k.ly) (pe_addK k A.c3 A.c4 h2) (swap_nm (.inr (sB h2))) (.inl (k.fn _))
    have s3 := ps_set (X := Yc X0 a oe) (pos := p3) (pos' := q3) k.nd k.hy (.inl k.ly) (pe_addK k A.c5 A.c6 h3) (swap_nm (.inr (sB h3))) (.inl (k.fn _))
    have s4 := ps_if (X := Yc X0 a oe) (pos := ip) (pt_testK k A.cV b1 b2 h4) (pss_cons (ps_ret (pos := rp) (pe_str (X := Yc X0 a oe) (x := z) (j := zk) (pos := zp))) pss_nil) pss_nil
    have s5 := ps_ret (X := Yc X0 a oe) (pos := ep) (pe_retK k b1 b3 b4 hw h5)
    refine ⟨_, pss_cons s1 (pss_cons s2 (pss_cons s3 (pss_cons s4 (pss_cons s5 pss_nil)))), fun De σ H hx hl hr => ?_⟩
    refine ⟨hx, fun p hp => ?_⟩
    have g1 : ∀ (σ : L2.St) v, σ[ix]? = some (some (.ref a)) → (σ.set iy v)[ix]? = some (some (.ref a)) := fun σ v h => by rw [List.getElem?_set_ne (Ne.symm k.ne)]; exact h
    have g2 : ∀ (σ : L2.St) v, iy < σ.length → (σ.set iy v)[iy]? = some v := fun σ v h => by rw [List.getElem?_set_self h]
    refine ⟨g1 _ _ hx, p, _, g2 _ _ hl, upd_same, by simp, fun p2 H2 e2 m2 => ?_⟩
    have l2 : iy < (σ.set iy (some (.ref p))).length := by rw [List.length_set]; exact hl
    refine ⟨g1 _ _ (g1 _ _ hx), p2, _, g2 _ _ l2, e2, by simp, fun p3 H3 e3 m3 => ?_⟩
    have l3 : iy < ((σ.set iy (some (.ref p))).set iy (some (.ref p2))).length := by rw [List.length_set]; exact l2
    refine ⟨g1 _ _ (g1 _ _ (g1 _ _ hx)), p3, g2 _ _ l3, e3, ?_⟩
    show (if false = true then _ else _)
    rw [if_neg Bool.false_ne_true]
    exact ⟨p3, g2 _ _ l3, e3, fun H4 m4 => hr H4 ((((Sm.new hp).trans m2).trans m3).trans m4)⟩
  · cases h
end
section
variable {CX : CXT} {P : Program} {w : World} {K : Frag} {mg : Str → Option Value} {base : Heap} {k : Nat} {f : Addr} {fd : FuncData} {x y qual : Str} {params : Arguments} {body : List Stmt} {scope : Scope} {dvs : List V} {kws : List (Str × V)} {D : Addr}
theorem bt_VE : bootBuiltins "ValueError" = some (.type "ValueError") := by decide +kernel
def wordNames : List Str := ["isinstance", "NoTrack", "NoEvent", "NoBar", "NoKey", "NoBytes", "NoText", "ValueError"]
/-- the word of the j-th class of errors -/
theorem fnW_word (F : FunD K x qual params body scope dvs kws f fd) {x y : Str} (S : FnScope [x, y] [x] scope) (hb : wordOk x y body = true) (ly : scope.names.lookup x = some .local ∧ scope.names.lookup y = some .local)
    (hg : wordNames.all (fun z => scope.names.lookup z == some .globalImplicit) = true) (dx : (x == ("__debug__" : Str)) = false ∧ (x == ("__classdict__" : Str)) = false) (dy : (y == ("__debug__" : Str)) = false ∧ (y == ("__classdict__" : Str)) = false)
    (mi : mg "isinstance" = none) (mv : mg "ValueError" = none) {c : Nat → Addr} {j : Nat}
    (h0 : mg "NoTrack" = some (.ref (c 0)) ∧ PySem.W.kitOne K (.ref D) (.ref (c 0)) = some (decide (j = 0))) (h1 : mg "NoEvent" = some (.ref (c 1)) ∧ PySem.W.kitOne K (.ref D) (.ref (c 1)) = some (decide (j = 1)))
    (h2 : mg "NoBar" = some (.ref (c 2)) ∧ PySem.W.kitOne K (.ref D) (.ref (c 2)) = some (decide (j = 2))) (h3 : mg "NoKey" = some (.ref (c 3)) ∧ PySem.W.kitOne K (.ref D) (.ref (c 3)) = some (decide (j = 3)))
    (h4 : mg "NoBytes" = some (.ref (c 4)) ∧ PySem.W.kitOne K (.ref D) (.ref (c 4)) = some (decide (j = 4))) (h5 : mg "NoText" = some (.ref (c 5)) ∧ PySem.W.kitOne K (.ref D) (.ref (c 5)) = some (decide (j = 5)))
    (kV : PySem.W.kitOne K (.ref D) (.type "ValueError") = some true) (ec : ExcC K D) (hj : j < 6) {wd : Str} (hw : words6[j]? = some wd) : FnW P w K mg base CX (k + 1) f fd x D (.str wd) := by
  refine fnW_of F S fun cdv A outer s H Q E p hot hz hr q => ?_
  have gl : ∀ z ∈ wordNames, Gl (cxOf CX P w K mg base [x, y] qual scope f cdv A outer s H E) z := fun z hz => by
    have := List.all_eq_true.mp hg z hz
    rw [beq_iff_eq] at this
    exact this
  have hne : x ≠ y := by
    have := S.nd
    simp at this
    exact this
  have wk : WK (cxOf CX P w K mg base [x, y] qual scope f cdv A outer s H E) p.1 D p.2 x y 0 1 := {
    nd := S.nd
    hx := rfl
    hy := rfl
    lx := ly.1
    ly := ly.2
    gi := gl _ (by decide)
    mi := mi
    un := by
      have := hr.un
      show (A.deeper (envOfC qual scope s.heap.objs.size f cdv)).units + 65 < cLine
      omega
    fn := fun _ => rfl
    ec := ec
    hz := hz
    hf := by obtain ⟨_, vs, h, _⟩ := hot; exact ⟨vs, h⟩
    ne := by decide
    dx := dx
    dy := dy }
  have ck : ∀ {C : Str} {b : Bool} {a : Addr}, C ∈ wordNames → (C == ("__debug__" : Str)) = false → mg C = some (.ref a) ∧ PySem.W.kitOne K (.ref D) (.ref a) = some b → CK (cxOf CX P w K mg base [x, y] qual scope f cdv A outer s H E) D C b := fun {C b a} hC hd h =>
    ⟨.ref a, fun pos => ⟨gl _ hC, fun oe a' => pe_glob (gl _ hC) h.1 rfl hd⟩, .ref a, fun u hu => hu, h.2⟩
  have wa : WA (cxOf CX P w K mg base [x, y] qual scope f cdv A outer s H E) D j := {
    c1 := ck (by decide) (by decide) h0
    c2 := ck (by decide) (by decide) h1
    c3 := ck (by decide) (by decide) h2
    c4 := ck (by decide) (by decide) h3
    c5 := ck (by decide) (by decide) h4
    c6 := ck (by decide) (by decide) h5
    cV := ⟨.ty "ValueError", fun pos => ⟨gl _ (by decide), fun oe a' => pe_bltn (gl _ (by decide)) mv bt_VE rfl⟩, .type "ValueError", fun u hu => hu, kV⟩ }
  obtain ⟨t, ht, hq⟩ := word_walk wk wa hj hw hb
  refine ⟨t, PSs.nox ?_, hq _ _ _ rfl (by show 1 < 2; decide) q⟩
  rw [cxH_nox hot]
  exact ht
end
end Nt
set_option Elab.async false
set_option linter.all false
set_option maxRecDepth 100000
set_option maxHeartbeats 2000000
set_option autoImplicit false
/-! E2o: slices, isinstance -/
namespace Nt
open PySem PySem.Spec PyProof.Rows L2
def oD : Option Int → D
  | none => .non
  | some i => .int i
theorem sIx_eq {n d : Nat} {o : Option Int} {k : Nat} (h : Nt.sIx n d (oD o) = some k) : k = HT.sIx n d o := by
  cases o with
  | none => cases h; rfl
  | some i =>
    simp only [oD, Nt.sIx] at h
    split at h
    · cases h; rfl
    · cases h
theorem sliceL_eq {α : Type} {xs ys : List α} {lo hi : Option Int} (h : sliceL xs (oD lo) (oD hi) = some ys) : ys = Nt.cut xs (HT.sIx xs.length 0 lo) (HT.sIx xs.length xs.length hi) := by
  unfold sliceL at h
  split at h
  · rename_i a b ha hb
    cases h
    rw [sIx_eq ha, sIx_eq hb]
  · cases h
def rSl (P : Pm) : V → Option Int → Option Int → Hp → VK → Prop := fun x lo hi H Q => ∃ (M : Addr → Prop) (a d : D), Hr M H ∧ RVw P M H a x ∧ sliceD a (oD lo) (oD hi) = some d ∧ ∀ H' v, Sm H H' → RV P M H' d v → Q v H'
theorem sl_all {X : Cx} {P : Pm} (hK : X.K = P.K) : SlR X (rSl P) := by
  intro pins s σ H x v vl vu lo hi sl Q I rx hs pl pu h
  obtain ⟨M, a, d, hr, ha, e, q⟩ := h
  unfold sliceD at e
  split at e
  · rename_i xs
    rw [Option.map_eq_some_iff] at e
    obtain ⟨ys, e, rfl⟩ := e
    have e := sliceL_eq e
    obtain ⟨p, vs, rfl, f, t⟩ := w_tup ha
    refine sl_tupA pins s σ H _ v vl vu lo hi sl Q I rx hs pl pu ⟨p, vs, rfl, by rw [hK]; exact f.sq, fun w => ?_, fun w p' hp => ?_⟩
    · have : ys = xs := by
        rw [← t.length] at w
        rw [e, w.1, w.2]
        unfold Nt.cut
        simp
      subst this
      exact q H _ Sm.refl (rv_of ha)
    · refine q _ _ (Sm.new hp) (RV.newT hr hp ?_)
      rw [e, t.length]
      exact t.cut _ _
  · rename_i xs
    rw [Option.map_eq_some_iff] at e
    obtain ⟨ys, e, rfl⟩ := e
    have e := sliceL_eq e
    obtain ⟨p, vs, rfl, f, t⟩ := w_lst ha
    refine sl_list pins s σ H _ v vl vu lo hi sl Q I rx hs pl pu ⟨p, vs, rfl, SqL.of f, fun p' hp => ?_⟩
    refine q _ _ (Sm.new hp) (RV.newL hr hp ?_)
    rw [e, t.length]
    exact t.cut _ _
  · rename_i xs
    split at e
    · rename_i hl
      rw [Option.map_eq_some_iff] at e
      obtain ⟨ys, e, rfl⟩ := e
      have e := sliceL_eq e
      cases w_str ha
      refine sl_str pins s σ H _ v vl vu lo hi sl Q I rx hs pl pu ⟨_, rfl, by rw [sV_len]; exact Nat.le_trans hl lim_line, ?_⟩
      have : L2.cutS (sV xs) lo hi = sV ys := by
        unfold L2.cutS sV
        rw [e]
        unfold Nt.cut
        simp [Str.length]
      rw [this]
      exact q H _ Sm.refl (.str _)
    · cases e
  · cases e
/-! ### isinstance -/
def isiTy : O1 → Option String
  | .isInt => some "int"
  | .isBool => some "bool"
  | .isStr => some "str"
  | .isTup => some "tuple"
  | _ => none
/-- a datum's type -/
theorem tyx_of {P : Pm} {M : Addr → Prop} {H : Hp} {d : D} {v : V} (h : RVw P M H d v) (hn : ∀ f c, d ≠ .fn f c) (hs : ∀ k w c, d ≠ .snd k w c) (he : ∀ c, d ≠ .exc c) :
    ∃ n, TyX P.K H v (.type n) ∧ n = (match d with
      | .non => "NoneType"
      | .bl _ => "bool"
      | .int _ => "int"
      | .str _ => "str"
      | .tup _ => "tuple"
      | .dct .. => "dict"
      | _ => "list") := by
  cases d with
  | non => cases w_non h; exact ⟨_, .base .non, rfl⟩
  | bl b => cases w_bl h; exact ⟨_, .base (.bl b), rfl⟩
  | int i => cases w_int h; exact ⟨_, .base (.int i), rfl⟩
  | str x => cases w_str h; exact ⟨_, .base (.str _), rfl⟩
  | tup ds =>
    obtain ⟨a, vs, rfl, f, t⟩ := w_tup h
    rcases f with ⟨f, _⟩ | ⟨o, its, n, f, c, _⟩
    · exact ⟨_, .base (.tup f), rfl⟩
    · exact ⟨_, .kTuple f c, rfl⟩
  | lst ds =>
    obtain ⟨a, vs, rfl, f, t⟩ := w_lst h
    exact ⟨_, .base (.lst f), rfl⟩
  | dct t ks vs =>
    cases t with
    | false =>
      obtain ⟨a, kvs, rfl, f, _, t⟩ := w_dK h
      exact ⟨_, .base (.dK f), rfl⟩
    | true =>
      obtain ⟨a, kvs, rfl, f, _, t⟩ := w_dT h
      exact ⟨_, .base (.dT f), rfl⟩
  | snd k w c => exact absurd rfl (hs k w c)
  | exc c => exact absurd rfl (he c)
  | fn f c => exact absurd rfl (hn f c)
  | scr ns =>
    obtain ⟨a, rfl, f⟩ := w_scr h
    rcases f with ⟨f | ⟨o, f⟩, _⟩ | ⟨o, its, n, f, c, _⟩
    · exact ⟨_, .base (.lst f), rfl⟩
    · exact ⟨_, .base (.frz f), rfl⟩
    · exact ⟨_, .kList f c, rfl⟩
/-- isinstance(x, T) as a reading of x alone -/
def rIs1 (P : Pm) (o : O1) : List V → Hp → VK → Prop := fun vs H Q => ∃ x n, vs = [x, .ty n] ∧ isiTy o = some n ∧ rC1 P (op1 o) [x] H Q
theorem kit_all : ∀ t ∈ ["NoneType", "bool", "int", "str", "tuple", "dict", "list"], ∀ n ∈ ["int", "bool", "str", "tuple"], kitB t n = some (t == n || (t == "bool" && n == "int")) := by decide +kernel
theorem call_is1 {X : Cx} {P : Pm} (hK : X.K = P.K) {o : O1} : CallR X (.builtin "isinstance") (rIs1 P o) := by
  rintro pins s σ H xs us Q I r ⟨x, n, rfl, hn, M, a, d, x', e', hr, ha, e, q⟩
  cases e'
  have hnn : n ∈ ["int", "bool", "str", "tuple"] := by cases o <;> simp only [isiTy, Option.some.injEq, reduceCtorEq] at hn <;> subst hn <;> decide
  have h1 : ∀ f c, a ≠ .fn f c := fun f c z => by subst z; cases o <;> simp [isiTy] at hn <;> simp [op1] at e
  have h2 : ∀ k w c, a ≠ .snd k w c := fun k w c z => by subst z; cases o <;> simp [isiTy] at hn <;> simp [op1] at e
  have h3 : ∀ c, a ≠ .exc c := fun c z => by subst z; cases o <;> simp [isiTy] at hn <;> simp [op1] at e
  obtain ⟨t, ty, ht⟩ := tyx_of ha h1 h2 h3
  have htm : t ∈ ["NoneType", "bool", "int", "str", "tuple", "dict", "list"] := by rw [ht]; cases a <;> simp
  refine call_isi pins s σ H _ us Q I r ⟨x, .ty n, .type t, .type n, _, rfl, .ty n, by rw [hK]; exact ty, kit_ty (kit_all t htm n hnn), ?_⟩
  have hd : d = .bl (t == n || (t == "bool" && n == "int")) := by
    rw [ht]
    cases o <;> simp only [isiTy, Option.some.injEq, reduceCtorEq] at hn <;> subst hn <;> cases a <;> first | (simp [op1] at e; done) | (cases e; rfl)
  subst hd
  exact q H _ Sm.refl (.bl _)
/-- isinstance(x, (int, str)) -/
def rIs2 (P : Pm) : List V → Hp → VK → Prop := fun vs H Q => ∃ x tp, vs = [x, .ref tp] ∧ H tp = some (.tup [.ty "int", .ty "str"]) ∧ rC1 P (op1 .isIntStr) [x] H Q
theorem kit_all2 : ∀ t ∈ ["NoneType", "bool", "int", "str", "tuple", "dict", "list"], kitB t "int" = some (t == "int" || t == "bool") ∧ kitB t "str" = some (t == "str") := by decide +kernel
theorem call_is2 {X : Cx} {P : Pm} (hK : X.K = P.K) : CallR X (.builtin "isinstance") (rIs2 P) := by
  rintro pins s σ H xs us Q I r ⟨x, tp, rfl, htp, M, a, d, x', e', hr, ha, e, q⟩
  cases e'
  have h1 : ∀ f c, a ≠ .fn f c := fun f c z => by subst z; simp [op1] at e
  have h2 : ∀ k w c, a ≠ .snd k w c := fun k w c z => by subst z; simp [op1] at e
  have h3 : ∀ c, a ≠ .exc c := fun c z => by subst z; simp [op1] at e
  obtain ⟨t, ty, ht⟩ := tyx_of ha h1 h2 h3
  have htm : t ∈ ["NoneType", "bool", "int", "str", "tuple", "dict", "list"] := by rw [ht]; cases a <;> simp
  obtain ⟨k1, k2⟩ := kit_all2 t htm
  refine call_isiT pins s σ H _ us Q I r ⟨x, tp, _, .type t, [.type "int", .type "str"], (t == "int" || t == "bool") || t == "str", rfl, htp, .cons (.ty _) (.cons (.ty _) .nil), by rw [hK]; exact ty, ?_, ?_⟩
  · refine kitAny_cons (kit_ty k1) (fun h => ?_) (fun h => by rw [h]; rfl)
    rw [h]
    refine kitAny_cons (kit_ty k2) (fun h => ?_) (fun h => by rw [h]; rfl)
    rw [h]
    exact kitAny_nil
  · have hd : d = .bl ((t == "int" || t == "bool") || t == "str") := by
      rw [ht]
      cases a <;> first | (simp [op1] at e; done) | (cases e; rfl)
    subst hd
    exact q H _ Sm.refl (.bl _)
end Nt
set_option Elab.async false
set_option linter.all false
set_option maxRecDepth 100000
set_option maxHeartbeats 2000000
set_option autoImplicit false
/-! E2f: code against text; expressions -/
namespace Nt
open PySem PySem.Spec PyProof.Rows L2
/-- the text's names: a def's slots, the module's constants, defs, classes -/
structure Tx where
  names : List Str
  gl : List (Str × Nat)
  fns : List (Str × Nat)
  cls : List (Str × Nat)
  wd : Option Str
abbrev Sc := List (Str × NameKind)
/-- a class of errors, without own __init__ -/
structure ExcOk (K : Frag) (C : Addr) : Prop where
  ex : ∃ (B newId initId : String) (bmB : List Value), ExcBaseFacts B newId initId bmB ∧ PySem.W.excIn K C bmB newId = true
  sub : PySem.W.subIn K (.ref C) (.type "BaseException") = some true
  ty : PySem.W.typeIn K (.ref C) = some (.type "type")
/-- what the module's top has left -/
structure Kn (P : Pm) (G : Glob) (C : Calls) (T : Tx) (n : Nat) (prog : Program) (w : World) (base : Heap) (mg : Str → Option Value) : Prop where
  glob : ∀ x k, T.gl.lookup x = some k → ∃ u v d, mg x = some u ∧ RelV v u ∧ G k = some d ∧ ∀ M H, RV P M H d v
  fn : ∀ x f, T.fns.lookup x = some f → ∃ a fd ps, mg x = some (.ref a) ∧ PySem.W.keepIn P.K (.ref a) = true ∧ Binds P.K fd ps [] ∧ FnOk prog w P.K mg base (L2N.CX prog w) n a fd ps (spF P (C f))
  cl : ∀ x c, T.cls.lookup x = some c → mg x = some (.ref (P.cls c)) ∧ PySem.W.keepIn P.K (.ref (P.cls c)) = true ∧ ExcOk P.K (P.cls c)
  blt : ∀ x, x ∈ (["len", "tuple", "list", "sorted", "all", "sum", "max", "min", "abs", "int", "str", "bool", "isinstance", "range", "zip", "enumerate", "set", "dict"] : List Str) → mg x = none
  wd : ∀ x, T.wd = some x → ∀ c z, excWord c = some z → ∃ a fd y, mg x = some (.ref a) ∧ PySem.W.keepIn P.K (.ref a) = true ∧ Binds P.K fd [y] [] ∧ FnW prog w P.K mg base (L2N.CX prog w) n a fd y (P.cls c) (.str (sV z)) ∧ PySem.W.exmOne P.K (.ref (P.cls c)) (.ref (P.cls 0)) = some true
/-- where we stand -/
structure XOk (P : Pm) (G : Glob) (C : Calls) (T : Tx) (n : Nat) (sc : Sc) (W : WX) (X : Cx) : Prop where
  K : X.K = P.K
  calm : X.calm = true
  kf : X.env.scope.kind = .function
  room : Room n X.A
  nd : X.N.Nodup
  nm : X.N = T.names
  fnc : ∀ x, sc.lookup x = some .cell → X.fn x = true
  sc : ∀ x k, sc.lookup x = some k → ∃ k', X.env.scope.names.lookup x = some k' ∧ (k' = k ∨ (k = .free ∧ k' = .cell))
  tk : L2N.Takes X W
  pass : PassesOwn (model X.prog X.w) X.A X.env X.xe
  kn : Kn P G C T n X.prog X.w X.base X.mg
def visC (sc : Sc) (x : Str) : Bool :=
  match sc.lookup x with
  | some .local => true
  | some .cell => true
  | some .free => true
  | _ => false
def gname (sc : Sc) (x : Str) : Bool :=
  match sc.lookup x with
  | some .globalImplicit => true
  | _ => false
/-- no star, no slice, no set .. -/
def okE : Expr → Bool
  | .BoolOp .. => true
  | .BinOp .. => true
  | .UnaryOp .. => true
  | .IfExp .. => true
  | .Dict .. => true
  | .ListComp .. => true
  | .Compare .. => true
  | .Call .. => true
  | .Constant .. => true
  | .Attribute .. => true
  | .Subscript .. => true
  | .Name .. => true
  | .List .. => true
  | .Tuple .. => true
  | _ => false
def cstOk : D → Const → Bool
  | .non, .none => true
  | .bl a, .bool b => a == b
  | .int a, .int b => a == b
  | .str x, .str y => x == y.cps.toList
  | _, _ => false
section
variable {X : Cx} {e : Expr} {es : List Expr}
theorem star_ok (h : okE e = true) : starEach (e :: es) X.env = (false, eval e X.env) :: starEach es X.env := by
  cases e <;> first | rfl | (simp [okE] at h)
theorem plain_star {pos : Pos} : ∀ {es : List Expr}, (∀ e ∈ es, okE e = true) → (backTo pos (starEach es X.env)).any (·.1) = false
  | [], _ => rfl
  | e :: es, h => by
    rw [star_ok (h e List.mem_cons_self)]
    show (false || (backTo pos (starEach es X.env)).any (·.1)) = false
    rw [plain_star fun e he => h e (List.mem_cons_of_mem _ he)]
    rfl
theorem ix_ok (h : okE e = true) : PlainIx e := by
  intro o i
  cases e <;> first | rfl | (simp [okE] at h)
theorem nomarks {op : CmpOp} (h : okE e = true) : behindInMarks op e = false := by
  cases e <;> first | rfl | (simp [okE] at h)
theorem noswap {t : Option Expr} {l : Nat} (h : okE e = true) (hl : ∀ a b c d, e ≠ .ListComp a b c d) : swapsWith e t l X.env = pure false := by
  cases e <;> first | rfl | (simp [okE] at h; done) | (exact absurd rfl (hl _ _ _ _))
theorem nofold (h : okE e = true) (x : Value) : foldedSetIterable e X.env x = pure x := by
  cases e <;> first | rfl | (simp [okE] at h)
end
/-! ### shapes of operations -/
def o1Fun : O1 → Option Str
  | .len => some "len"
  | .tuple => some "tuple"
  | .list => some "list"
  | .sorted => some "sorted"
  | .all => some "all"
  | .sum => some "sum"
  | .max => some "max"
  | .min => some "min"
  | .minT => some "min"
  | .abs => some "abs"
  | .int => some "int"
  | .str => some "str"
  | _ => none
def o1Cmp : O1 → CmpOp → Const → Bool
  | .isNone, .Is, .none => true
  | .notNone, .IsNot, .none => true
  | .isTrue, .Is, .bool b => b
  | .notTrue, .IsNot, .bool b => b
  | .isFalse, .Is, .bool b => !b
  | .notFalse, .IsNot, .bool b => !b
  | _, _, _ => false
/-- the datum of a one-place operation that the text is -/
def o1Arg (sc : Sc) (o : O1) (e : Expr) : Option Expr :=
  match e with
  | .Call (.Name f _) [x] [] _ => if o1Fun o = some f ∧ gname sc f = true ∧ okE x = true then some x else none
  | .Call (.Name f _) [x, .Name c _] [] _ => if f = ("isinstance" : Str) ∧ gname sc f = true ∧ gname sc c = true ∧ (isiTy o).map Str.ofString = some c ∧ okE x = true then some x else none
  | .Call (.Name f _) [x, .Tuple [.Name c _, .Name d _] _ _] [] _ => if f = ("isinstance" : Str) ∧ gname sc f = true ∧ gname sc c = true ∧ gname sc d = true ∧ o = .isIntStr ∧ c = ("int" : Str) ∧ d = ("str" : Str) ∧ okE x = true then some x else none
  | .UnaryOp .USub x _ => if o = .neg then some x else none
  | .Compare x [c] [.Constant k _ _] _ => if o1Cmp o c k = true then some x else none
  | .Subscript x (.Slice none none (some (.UnaryOp .USub (.Constant (.int k) _ _) _)) _) _ => if o = .rev ∧ k = 1 then some x else none
  | _ => none
def o2Bin : O2 → Operator → Bool
  | .add, .Add => true
  | .sub, .Sub => true
  | .mul, .Mult => true
  | .fdiv, .FloorDiv => true
  | .mod, .Mod => true
  | .pow, .Pow => true
  | _, _ => false
def o2Cmp : O2 → CmpOp → Bool
  | .eq, .Eq => true
  | .ne, .NotEq => true
  | .lt, .Lt => true
  | .le, .LtE => true
  | .gt, .Gt => true
  | .ge, .GtE => true
  | .inn, .In => true
  | .notin, .NotIn => true
  | _, _ => false
def o2Fun : O2 → Option Str
  | .max => some "max"
  | .min => some "min"
  | .minT => some "min"
  | _ => none
def o2Arg (sc : Sc) (o : O2) (e : Expr) : Option (Expr × Expr) :=
  match e with
  | .BinOp a op b _ => if o2Bin o op = true then some (a, b) else none
  | .Compare a [op] [b] _ => if o2Cmp o op = true ∧ okE b = true then some (a, b) else none
  | .Subscript a b _ => if o = .idx ∧ okE b = true then some (a, b) else none
  | .Call (.Name f _) [a, b] [] _ => if o2Fun o = some f ∧ gname sc f = true ∧ okE a = true ∧ okE b = true then some (a, b) else none
  | _ => none
/-! ### the code against the text -/
/-- an expression whose test is its value's -/
def tstOk : Expr → Bool
  | .BinOp .. => true
  | .Dict .. => true
  | .ListComp .. => true
  | .Compare _ [_] [_] _ => true
  | .Compare _ [_, _] [_, _] _ => true
  | .Call .. => true
  | .Constant .. => true
  | .Attribute .. => true
  | .Subscript .. => true
  | .Name .. => true
  | .List .. => true
  | .Tuple .. => true
  | _ => false
def isTupE : Expr → Bool
  | .Tuple .. => true
  | _ => false
def locC (sc : Sc) (x : Str) : Bool :=
  match sc.lookup x with
  | some .local => true
  | some .cell => true
  | _ => false
mutual
/-- the slots that a target fills -/
def tgVars : Tg → List Nat
  | .v i => [i]
  | .t ts => tgsVars ts
def tgsVars : Tgs → List Nat
  | .nil => []
  | .cons t ts => tgVars t ++ tgsVars ts
end
def kindI : PI → Nat
  | .of a => kind a
  | _ => 0
section
variable (T : Tx)
mutual
def chkG : Tg → Sc → Expr → Bool
  | .v i, sc, e => match e with
    | .Name x _ => decide (T.names[i]? = some x) && locC sc x
    | _ => false
  | .t ts, sc, e => match e with
    | .Tuple es _ _ => chkGs ts sc es
    | _ => false
def chkGs : Tgs → Sc → List Expr → Bool
  | .nil, _, es => es.isEmpty
  | .cons t ts, sc, es => match es with
    | e :: es => chkG t sc e && chkGs ts sc es
    | [] => false
end
/-- a comprehension's block: its own slots, its names -/
def chkBlk (sc : Sc) (own : List Nat) (scope : Scope) : Bool :=
  (match scope.kind with | .function => true | _ => false) && (scope.names.all fun y => decide (scope.names.lookup y.1 = some y.2)) && (own.all fun i => decide (i < T.names.length)) &&
    (scope.names.all fun y => match y.2 with
      | .free => (match sc.lookup y.1 with | some .cell => true | some .free => true | _ => false)
      | .local => decide (y.1 ∈ own.map fun i => T.names.getD i "") || decide (y.1 ∉ T.names)
      | .cell => decide (y.1 ∈ own.map fun i => T.names.getD i "") || decide (y.1 ∉ T.names)
      | _ => true)
mutual
def chkE : PE → Sc → Expr → Bool
  | .cst d, _, e => match e with
    | .Constant c _ _ => cstOk d c
    | _ => false
  | .gl k, sc, e => match e with
    | .Name x _ => gname sc x && decide (T.gl.lookup x = some k) && x != ("__debug__" : Str)
    | _ => false
  | .var i, sc, e => match e with
    | .Name x _ => decide (T.names[i]? = some x) && visC sc x && x != ("__debug__" : Str) && x != ("__classdict__" : Str)
    | _ => false
  | .peek i, sc, e => match e with
    | .Name x _ => decide (T.names[i]? = some x) && visC sc x && x != ("__debug__" : Str) && x != ("__classdict__" : Str)
    | _ => false
  | .sn r, sc, e => chkR r sc e
  | .tup es, sc, e => match e with
    | .Tuple xs _ _ => chkEs es sc xs && decide (xs.length ≤ 1000)
    | _ => false
  | .lst es, sc, e => match e with
    | .List xs _ => chkEs es sc xs && decide (xs.length ≤ 1000)
    | _ => false
  | .o1 o a, sc, e => match o1Arg sc o e with
    | some x => chkE a sc x
    | none => false
  | .o2 o a b, sc, e => match o2Arg sc o e with
    | some (x, y) => chkE a sc x && chkE b sc y && decide (kind a ≤ 1)
    | none => false
  | .chain o p a b c, sc, e => match e with
    | .Compare x [u, v] [y, z] _ => o2Cmp o u && o2Cmp p v && chkE a sc x && chkE b sc y && chkE c sc z && decide (kind a ≤ 1) && decide (kind b ≤ 1) && okE y && okE z
    | _ => false
  | .band a b, sc, e => match e with
    | .BoolOp .And (x :: y :: r) pos => chkE a sc x && (match r with
      | [] => chkE b sc y
      | _ :: _ => chkE b sc (.BoolOp .And (y :: r) pos)) && decide (kind a = 0) && decide (kind b = 0)
    | _ => false
  | .bor a b, sc, e => match e with
    | .BoolOp .Or (x :: y :: r) pos => chkE a sc x && (match r with
      | [] => chkE b sc y
      | _ :: _ => chkE b sc (.BoolOp .Or (y :: r) pos)) && decide (kind a = 0) && decide (kind b = 0)
    | _ => false
  | .bnot a, sc, e => match e with
    | .UnaryOp .Not x _ => match a with
      | .v a => chkE a sc x
      | _ => false
    | _ => false
  | .ifx c a b, sc, e => match e with
    | .IfExp t x y _ => chkT c sc t && chkE a sc x && chkE b sc y && decide (kind a = 0) && decide (kind b = 0)
    | _ => false
  | .slc a lo hi, sc, e => match e with
    | .Subscript x (.Slice l h none _) _ => chkE a sc x && decide (kind a ≤ 1) && (match l with
      | none => isNonE lo
      | some y => !isNonE lo && chkE lo sc y && decide (kind lo = 0)) && (match h with
      | none => isNonE hi
      | some y => !isNonE hi && chkE hi sc y && decide (kind hi = 0))
    | _ => false
  | .call f es, sc, e => match e with
    | .Call (.Name x _) (y :: ys) [] _ => gname sc x && decide (T.fns.lookup x = some f) && x != ("__debug__" : Str) && chkA es sc (y :: ys)
    | _ => false
  | .inR x a b, sc, e => match e with
    | .Compare u [.In] [.Call (.Name f _) [y, z] [] _] _ => f == ("range" : Str) && gname sc f && okE y && okE z && chkE x sc u && chkE a sc y && chkE b sc z && decide (kind x = 0) && decide (kind a = 0) && decide (kind b = 0)
    | _ => false
  | .lrng1 a, sc, e => match e with
    | .Call (.Name f _) [.Call (.Name g _) [x] [] _] [] _ => f == ("list" : Str) && gname sc f && g == ("range" : Str) && gname sc g && okE x && chkE a sc x && decide (kind a = 0)
    | _ => false
  | .lrng2 a b, sc, e => match e with
    | .Call (.Name f _) [.Call (.Name g _) [x, y] [] _] [] _ => f == ("list" : Str) && gname sc f && g == ("range" : Str) && gname sc g && okE x && okE y && chkE a sc x && chkE b sc y && decide (kind a = 0) && decide (kind b = 0)
    | _ => false
  | .lc t it cond elt own, sc, e => match e with
    | .ListComp x [⟨tg, iter, ifs, z⟩] scope _ => decide (z = 0) && chkI it sc tg iter && okE iter && chkG T t scope.names tg && (match ifs with
      | [] => (match cond with | .yes => true | _ => false)
      | [c] => chkT cond scope.names c
      | _ => false) && chkE elt scope.names x && decide (kind elt = 0) && chkBlk T sc own scope && (tgVars t).all (fun i => decide (i ∈ own))
    | _ => false
  | _, _, _ => false
def chkEs : PEs → Sc → List Expr → Bool
  | .nil, _, xs => xs.isEmpty
  | .cons a es, sc, xs => match xs with
    | x :: xs => chkE a sc x && decide (kind a = 0) && okE x && chkEs es sc xs
    | [] => false
def chkA : PAs → Sc → List Expr → Bool
  | .nil, _, xs => xs.isEmpty
  | .val a es, sc, xs => match xs with
    | x :: xs => chkE a sc x && decide (kind a = 0) && okE x && chkA es sc xs
    | [] => false
  | .ref r es, sc, xs => match xs with
    | x :: xs => chkR r sc x && okE x && chkA es sc xs
    | [] => false
def chkR : PR → Sc → Expr → Bool
  | .rv i, sc, e => match e with
    | .Name x _ => decide (T.names[i]? = some x) && visC sc x && x != ("__debug__" : Str) && x != ("__classdict__" : Str)
    | _ => false
  | .rf r k, _, _ => false
def chkT : PT → Sc → Expr → Bool
  | .and a b, sc, e => match e with
    | .BoolOp .And (x :: y :: r) pos => chkT a sc x && (match r with
      | [] => chkT b sc y
      | _ :: _ => chkT b sc (.BoolOp .And (y :: r) pos))
    | _ => false
  | .or a b, sc, e => match e with
    | .BoolOp .Or (x :: y :: r) pos => chkT a sc x && (match r with
      | [] => chkT b sc y
      | _ :: _ => chkT b sc (.BoolOp .Or (y :: r) pos))
    | _ => false
  | .not a, sc, e => match e with
    | .UnaryOp .Not x _ => chkT a sc x
    | _ => false
  | .v a, sc, e => chkE a sc e && tstOk e
  | .yes, _, _ => false
def chkI : PI → Sc → Expr → Expr → Bool
  | .of a, sc, _, e => chkE a sc e && decide (kind a ≤ 1)
  | .rng1 a, sc, _, e => match e with
    | .Call (.Name f _) [x] [] _ => f == ("range" : Str) && gname sc f && okE x && chkE a sc x && decide (kind a = 0)
    | _ => false
  | .rng2 a b, sc, _, e => match e with
    | .Call (.Name f _) [x, y] [] _ => f == ("range" : Str) && gname sc f && okE x && okE y && chkE a sc x && chkE b sc y && decide (kind a = 0) && decide (kind b = 0)
    | _ => false
  | .enum a, sc, t, e => match e with
    | .Call (.Name f _) [x] [] _ => f == ("enumerate" : Str) && gname sc f && okE x && chkE a sc x && decide (kind a = 0) && isTupE t
    | _ => false
  | .zip3 a b c, sc, t, e => match e with
    | .Call (.Name f _) [x, y, z] [] _ => f == ("zip" : Str) && gname sc f && okE x && okE y && okE z && chkE a sc x && chkE b sc y && chkE c sc z && decide (kind a = 0) && decide (kind b = 0) && decide (kind c = 0) && isTupE t
    | _ => false
  | .zip2 a b, sc, t, e => match e with
    | .Call (.Name f _) [x, y] [] _ => f == ("zip" : Str) && gname sc f && okE x && okE y && chkE a sc x && chkE b sc y && decide (kind a = 0) && decide (kind b = 0) && isTupE t
    | _ => false
  | _, _, _, _ => false
end
end
/-! ### expressions -/
theorem PE_imp {X : Cx} {e : Expr} {t t' : TE} (h : L2.PE X e t) (f : ∀ σ H Q, t' σ H Q → t σ H Q) : L2.PE X e t' := ⟨fun pins s σ H Q I q => h.run pins s σ H Q I (f σ H Q q)⟩
theorem PT_imp {X : Cx} {e : Expr} {t t' : TT} (h : L2.PT X e t) (f : ∀ σ H Q, t' σ H Q → t σ H Q) : L2.PT X e t' := ⟨fun pins s σ H Q I q => h.run pins s σ H Q I (f σ H Q q)⟩
theorem PW_imp {X : Cx} {e : Expr} {t t' : TT} (h : L2.PW X e t) (f : ∀ σ H Q, t' σ H Q → t σ H Q) : L2.PW X e t' := ⟨fun w pins s σ H Q I q => h.run w pins s σ H Q I (f σ H Q q)⟩
theorem PA_imp {X : Cx} {e : List Expr} {t t' : TA} (h : L2.PA X e t) (f : ∀ σ H Q, t' σ H Q → t σ H Q) : L2.PA X e t' := ⟨fun w pins s σ H Q I q => h.run w pins s σ H Q I (f σ H Q q)⟩
abbrev r1 (P : Pm) (f : D → Option D) : V → Hp → VK → Prop := fun x H Q => rC1 P f [x] H Q
abbrev r2 (P : Pm) (f : D → D → Option D) : R2 := fun x y H Q => rC2 P f [x, y] H Q
theorem r2_of {P : Pm} {f : D → D → Option D} {x y : V} {H : Hp} {Q : VK} (h : r2 P f x y H Q) : rD2 P f x y H Q := by
  obtain ⟨M, a, b, d, x', y', e, hr, ha, hb, he, q⟩ := h
  cases e
  exact ⟨M, a, b, d, hr, ha, hb, he, q⟩
theorem op_r2 {X : Cx} {P : Pm} {f : D → D → Option D} {g : Value → Value → Sem Value} (h : OpR X g (rD2 P f)) : OpR X g (r2 P f) := fun pins s σ H x y v u Q I rx ry q => h pins s σ H x y v u Q I rx ry (r2_of q)
theorem ix_r2 {X : Cx} {P : Pm} {f : D → D → Option D} (h : IxR X (rD2 P f)) : IxR X (r2 P f) := fun a b pins s σ H x y v u Q I rx ry q hs => h a b pins s σ H x y v u Q I rx ry (r2_of q) hs
theorem r1_of {P : Pm} {f : D → Option D} {x : V} {H : Hp} {Q : VK} (h : r1 P f x H Q) : ∃ (M : Addr → Prop) (a d : D), Hr M H ∧ RVw P M H a x ∧ f a = some d ∧ ∀ H' v, Sm H H' → RV P M H' d v → Q v H' := by
  obtain ⟨M, a, d, x', e, hr, ha, he, q⟩ := h
  cases e
  exact ⟨M, a, d, hr, ha, he, q⟩
theorem bt_len : bootBuiltins "len" = some (.builtin "len") := by decide +kernel
theorem bt_tuple : bootBuiltins "tuple" = some (.type "tuple") := by decide +kernel
theorem bt_list : bootBuiltins "list" = some (.type "list") := by decide +kernel
theorem bt_all : bootBuiltins "all" = some (.builtin "all") := by decide +kernel
theorem bt_sum : bootBuiltins "sum" = some (.builtin "sum") := by decide +kernel
theorem bt_abs : bootBuiltins "abs" = some (.builtin "abs") := by decide +kernel
theorem bt_int : bootBuiltins "int" = some (.type "int") := by decide +kernel
theorem bt_str : bootBuiltins "str" = some (.type "str") := by decide +kernel
theorem bt_sorted : bootBuiltins "sorted" = some (.builtin "sorted") := by decide +kernel
theorem bt_bool : bootBuiltins "bool" = some (.type "bool") := by decide +kernel
theorem bt_max : bootBuiltins "max" = some (.builtin "max") := by decide +kernel
theorem bt_min : bootBuiltins "min" = some (.builtin "min") := by decide +kernel
section
variable {P : Pm} {G : Glob} {C : Calls} {T : Tx} {n : Nat} {sc : Sc} {W : WX} {X : Cx}
theorem XOk.units (ok : XOk P G C T n sc W X) : X.A.units + 65 < cLine := by
  have := ok.room.un
  omega
theorem XOk.gl (ok : XOk P G C T n sc W X) {x : Str} (h : gname sc x = true) : Gl X x := by
  unfold gname at h
  split at h
  · rename_i e
    obtain ⟨k', h1, h2⟩ := ok.sc _ _ e
    rcases h2 with rfl | ⟨h2, _⟩
    · exact h1
    · cases h2
  · cases h
theorem XOk.vis (ok : XOk P G C T n sc W X) {x : Str} (h : visC sc x = true) : Vis X.env.scope x := by
  unfold visC at h
  split at h
  · rename_i e
    obtain ⟨k', h1, h2⟩ := ok.sc _ _ e
    rcases h2 with rfl | ⟨h2, _⟩
    · exact .inl h1
    · cases h2
  · rename_i e
    obtain ⟨k', h1, h2⟩ := ok.sc _ _ e
    rcases h2 with rfl | ⟨h2, _⟩
    · exact .inr (.inl h1)
    · cases h2
  · rename_i e
    obtain ⟨k', h1, h2⟩ := ok.sc _ _ e
    rcases h2 with rfl | ⟨_, rfl⟩
    · exact .inr (.inr h1)
    · exact .inr (.inl h1)
  · cases h
theorem nb {x y : Str} (h : (x != y) = true) : (x == y) = false := by simpa using h
/-- a comparison with a constant -/
theorem pe_cmpK {op : CmpOp} {x c : Expr} {pos : Pos} {y : V} {te : TE} {r : V → Hp → VK → Prop} (hk : L2.PE X c (tC y)) (hx : L2.PE X x te)
    (ho : ∀ (pins : List (Addr × Obj)) (s : Shared) (σ : L2.St) (H : Hp) (x : V) (v u : Value) (Q : VK), Inv X pins σ H s → RelV x v → RelV y u → r x H Q → wpAny (model X.prog X.w) X.A (compareOp op v u) (EP X pins σ Q) X.xe s)
    (hm : behindInMarks op c = false) : L2.PE X (.Compare x [op] [c] pos) (tUn r te) := by
  refine ⟨fun pins s σ H Q I h => wpAny_Compare1 (thn (hx.run pins s σ H _ I h) fun v s1 hh => ?_) hm⟩
  obtain ⟨x1, H1, I1, rx, q1⟩ := hh
  refine thn (hk.run pins s1 σ H1 (fun z H2 => z = y ∧ r x1 H2 Q) I1 ⟨rfl, q1⟩) fun u s2 hh => ?_
  obtain ⟨z, H2, I2, rz, ez, q2⟩ := hh
  subst ez
  exact ho pins s2 σ H2 x1 v u Q I2 rx rz q2
theorem cmpK_of {cls : Nat → Addr} {o : O1} {op : CmpOp} {k : Const} {j : Nat} {pk : Pos} (h : o1Cmp o op k = true) : ∃ y, L2.PE X (.Constant k j pk) (tC y) ∧ behindInMarks op (.Constant k j pk) = false ∧
    ∀ (pins : List (Addr × Obj)) (s : Shared) (σ : L2.St) (H : Hp) (x : V) (v u : Value) (Q : VK), Inv X pins σ H s → RelV x v → RelV y u → r1 (pX X cls) (op1 o) x H Q → wpAny (model X.prog X.w) X.A (compareOp op v u) (EP X pins σ Q) X.xe s := by
  have non : ∀ {M : Addr → Prop} {H : Hp} {a : D} {v : V}, RVw (pX X cls) M H a v → (decide (v = .non) = match a with | .non => true | _ => false) := fun {M H a v} r => by
    cases a with
    | non => cases w_non r; rfl
    | _ =>
      refine decide_eq_false fun z => ?_
      subst z
      cases r with | of r => cases r
  cases o <;> first | (exfalso; cases op <;> cases k <;> simp [o1Cmp] at h; done) | skip
  all_goals cases op <;> first | (exfalso; cases k <;> simp [o1Cmp] at h; done) | skip
  all_goals cases k <;> first | (exfalso; simp [o1Cmp] at h; done) | skip
  · refine ⟨_, pe_non, rfl, fun pins s σ H x v u Q I rx ru q => ?_⟩
    obtain ⟨M, a, d, hr, ha, he, qq⟩ := r1_of q
    refine op_isN pins s σ H _ _ v u Q I rx ru ⟨rfl, ?_⟩
    rw [non ha]
    cases a <;> simp only [op1, Option.some.injEq] at he <;> subst he <;> exact qq H _ Sm.refl (.bl _)
  · refine ⟨_, pe_non, rfl, fun pins s σ H x v u Q I rx ru q => ?_⟩
    obtain ⟨M, a, d, hr, ha, he, qq⟩ := r1_of q
    refine op_notN pins s σ H _ _ v u Q I rx ru ⟨rfl, ?_⟩
    rw [non ha]
    cases a <;> simp only [op1, Option.some.injEq] at he <;> subst he <;> exact qq H _ Sm.refl (.bl _)
  · rename_i b
    have hb : b = true := by simpa [o1Cmp] using h
    subst hb
    refine ⟨_, pe_bl, rfl, fun pins s σ H x v u Q I rx ru q => ?_⟩
    obtain ⟨M, a, d, hr, ha, he, qq⟩ := r1_of q
    cases a <;> simp only [op1, Option.some.injEq, reduceCtorEq] at he
    subst he
    rename_i c
    cases w_bl ha
    refine op_isBl pins s σ H _ _ v u Q I rx ru ⟨_, _, rfl, rfl, ?_⟩
    cases c <;> exact qq H _ Sm.refl (.bl _)
  · rename_i b
    have hb : b = true := by simpa [o1Cmp] using h
    subst hb
    refine ⟨_, pe_bl, rfl, fun pins s σ H x v u Q I rx ru q => ?_⟩
    obtain ⟨M, a, d, hr, ha, he, qq⟩ := r1_of q
    cases a <;> simp only [op1, Option.some.injEq, reduceCtorEq] at he
    subst he
    rename_i c
    cases w_bl ha
    refine op_notBl pins s σ H _ _ v u Q I rx ru ⟨_, _, rfl, rfl, ?_⟩
    cases c <;> exact qq H _ Sm.refl (.bl _)
  · rename_i b
    have hb : b = false := by simpa [o1Cmp] using h
    subst hb
    refine ⟨_, pe_bl, rfl, fun pins s σ H x v u Q I rx ru q => ?_⟩
    obtain ⟨M, a, d, hr, ha, he, qq⟩ := r1_of q
    cases a <;> simp only [op1, Option.some.injEq, reduceCtorEq] at he
    subst he
    rename_i c
    cases w_bl ha
    refine op_notBl pins s σ H _ _ v u Q I rx ru ⟨_, _, rfl, rfl, ?_⟩
    cases c <;> exact qq H _ Sm.refl (.bl _)
  · rename_i b
    have hb : b = false := by simpa [o1Cmp] using h
    subst hb
    refine ⟨_, pe_bl, rfl, fun pins s σ H x v u Q I rx ru q => ?_⟩
    obtain ⟨M, a, d, hr, ha, he, qq⟩ := r1_of q
    cases a <;> simp only [op1, Option.some.injEq, reduceCtorEq] at he
    subst he
    rename_i c
    cases w_bl ha
    refine op_isBl pins s σ H _ _ v u Q I rx ru ⟨_, _, rfl, rfl, ?_⟩
    cases c <;> exact qq H _ Sm.refl (.bl _)
/-! #### one-place, two-place -/
theorem s1 (ok : XOk P G C T n sc W X) {o : O1} {e x : Expr} (h : o1Arg sc o e = some x) {te : TE} (hx : L2.PE X x te) (mono : ∀ σ H (Q Q' : VK), (∀ x H', Q x H' → Q' x H') → te σ H Q → te σ H Q') : L2.PE X e (tUn (r1 P (op1 o)) te) := by
  obtain ⟨K, cls⟩ := P
  have hK : X.K = K := ok.K
  subst hK
  unfold o1Arg at h
  split at h
  · split at h
    · rename_i f p x0 pos hc
      obtain ⟨h1, h2, h3⟩ := hc
      cases h
      have hg := ok.gl h2
      have ha : PA X [x] (tCons te tNil) := pa_cons hx pa_nil (star_ok h3)
      cases o <;> simp only [o1Fun, reduceCtorEq, Option.some.injEq] at h1
      · subst h1; exact pe_callB c1_len hg (ok.kn.blt _ (by decide)) bt_len ha (by decide) (by decide) (star_ok h3) rfl
      · subst h1; exact pe_callTy c1_tuple hg (ok.kn.blt _ (by decide)) bt_tuple ha (by decide) (by decide) (star_ok h3) rfl
      · subst h1; exact pe_callTy (c1_list ok.calm) hg (ok.kn.blt _ (by decide)) bt_list ha (by decide) (by decide) (star_ok h3) rfl
      · subst h1; exact pe_callB (c1_sorted ok.units) hg (ok.kn.blt _ (by decide)) bt_sorted ha (by decide) (by decide) (star_ok h3) rfl
      · subst h1; exact pe_callB (c1_all ok.calm) hg (ok.kn.blt _ (by decide)) bt_all ha (by decide) (by decide) (star_ok h3) rfl
      · subst h1; exact pe_callB (c1_sum ok.calm) hg (ok.kn.blt _ (by decide)) bt_sum ha (by decide) (by decide) (star_ok h3) rfl
      · subst h1; exact pe_callB (c1_max ok.calm) hg (ok.kn.blt _ (by decide)) bt_max ha (by decide) (by decide) (star_ok h3) rfl
      · subst h1; exact pe_callB (c1_min ok.calm) hg (ok.kn.blt _ (by decide)) bt_min ha (by decide) (by decide) (star_ok h3) rfl
      · subst h1; exact pe_callB (c1_minT ok.calm ok.units) hg (ok.kn.blt _ (by decide)) bt_min ha (by decide) (by decide) (star_ok h3) rfl
      · subst h1; exact pe_callB c1_abs hg (ok.kn.blt _ (by decide)) bt_abs ha (by decide) (by decide) (star_ok h3) rfl
      · subst h1; exact pe_callTy c1_int hg (ok.kn.blt _ (by decide)) bt_int ha (by decide) (by decide) (star_ok h3) rfl
      · subst h1; exact pe_callTy c1_str hg (ok.kn.blt _ (by decide)) bt_str ha (by decide) (by decide) (star_ok h3) rfl
    · cases h
  · split at h
    · rename_i f p x0 c pc pos hc
      obtain ⟨h1, h2, h3, h4, h5⟩ := hc
      cases h
      subst h1
      obtain ⟨nm, hn, rfl⟩ := Option.map_eq_some_iff.mp h4
      have hg := ok.gl h2
      have ht : L2.PE X (.Name (Str.ofString nm) pc) (tC (.ty nm)) := by
        cases o <;> simp only [isiTy, Option.some.injEq, reduceCtorEq] at hn <;> subst hn
        · exact pe_bltn (ok.gl h3) (ok.kn.blt _ (by decide)) bt_int rfl
        · exact pe_bltn (ok.gl h3) (ok.kn.blt _ (by decide)) bt_bool rfl
        · exact pe_bltn (ok.gl h3) (ok.kn.blt _ (by decide)) bt_str rfl
        · exact pe_bltn (ok.gl h3) (ok.kn.blt _ (by decide)) bt_tuple rfl
      refine PE_imp (pe_callB (call_is1 (P := ⟨X.K, cls⟩) rfl (o := o)) hg (ok.kn.blt _ (by decide)) PyProof.Rows.boot_isinstance (pa_cons hx (pa_cons ht pa_nil rfl) (star_ok h5)) (by decide) (by decide) (star_ok h5) rfl) fun σ H Q q => ?_
      refine mono σ H _ _ (fun v H' q => ?_) q
      exact ⟨v, nm, rfl, hn, q⟩
    · cases h
  · split at h
    · rename_i f p x0 c pc d pd kt tp pos hc
      obtain ⟨h1, h2, h3, h4, h5, h6, h7, h8⟩ := hc
      cases h
      subst h1 h5 h6 h7
      have hg := ok.gl h2
      have ht : L2.PA X [.Name ("int" : Str) pc, .Name ("str" : Str) pd] (tCons (tC (.ty "int")) (tCons (tC (.ty "str")) tNil)) := pa_cons (pe_bltn (ok.gl h3) (ok.kn.blt _ (by decide)) bt_int rfl) (pa_cons (pe_bltn (ok.gl h4) (ok.kn.blt _ (by decide)) bt_str rfl) pa_nil rfl) rfl
      refine PE_imp (pe_callB (call_is2 (P := ⟨X.K, cls⟩) rfl) hg (ok.kn.blt _ (by decide)) PyProof.Rows.boot_isinstance (pa_cons hx (pa_cons (pe_tup ht) pa_nil rfl) (star_ok h8)) (by decide) (by decide) (star_ok h8) rfl) fun σ H Q q => ?_
      refine mono σ H _ _ (fun v H' q => ?_) q
      refine ⟨by show 2 ≤ sizeLine; decide, fun tp hp => ?_⟩
      obtain ⟨M, a, dd, v', e', hr, ha, he, qq⟩ := q
      cases e'
      exact ⟨v, tp, rfl, upd_same, M, a, dd, v, rfl, Hr.sm hr (Sm.new hp), ha.sm (Sm.new hp), he, fun H'' u sm ru => qq H'' u ((Sm.new hp).trans sm) ru⟩
    · cases h
  · split at h
    · rename_i hc
      cases h
      subst hc
      refine pe_un (fun pins s σ H x v Q I rx q => ?_) hx
      obtain ⟨M, a, d, hr, ha, he, qq⟩ := r1_of q
      cases a <;> simp only [op1, reduceCtorEq, Option.some.injEq] at he
      subst he
      cases w_int ha
      exact un_neg pins s σ H _ v Q I rx ⟨_, rfl, qq H _ Sm.refl (.int _)⟩
    · cases h
  · rename_i x0 c k j pk pos
    split at h
    · rename_i hc
      cases h
      obtain ⟨y, hk, hm, ho⟩ := cmpK_of (cls := cls) (j := j) (pk := pk) hc
      exact pe_cmpK hk hx ho hm
    · cases h
  · split at h
    · rename_i hc
      obtain ⟨rfl, rfl⟩ := hc
      cases h
      refine PE_imp (pe_revA hx) fun σ H Q q => mono σ H _ _ (fun v H' q => ?_) q
      obtain ⟨M, a, d, hr, ha, he, qq⟩ := r1_of q
      cases a <;> simp only [op1, reduceCtorEq, Option.some.injEq] at he
      · subst he
        obtain ⟨a, vs, rfl, h1, t⟩ := w_tup ha
        exact ⟨a, vs, rfl, .inr ⟨h1.sq, fun p hp => qq _ _ (Sm.new hp) (RV.newT hr hp t.reverse)⟩⟩
      · subst he
        obtain ⟨a, vs, rfl, h1, t⟩ := w_lst ha
        exact ⟨a, vs, rfl, .inl ⟨SqL.of h1, fun p hp => qq _ _ (Sm.new hp) (RV.newL hr hp t.reverse)⟩⟩
    · cases h
  · cases h
theorem s2 (ok : XOk P G C T n sc W X) {o : O2} {e x y : Expr} (h : o2Arg sc o e = some (x, y)) {ta tb : TE} (hx : L2.PE X x ta) (hy : L2.PE X y tb) : L2.PE X e (tOp (r2 P (op2 o)) ta tb) := by
  obtain ⟨K, cls⟩ := P
  have hK : X.K = K := ok.K
  subst hK
  have hu := ok.units
  unfold o2Arg at h
  split at h
  · split at h
    · rename_i a op b pos hc
      cases h
      cases o <;> cases op <;> first | (exfalso; simp [o2Bin] at hc; done) | skip
      · exact pe_op (op_r2 (op2_add rfl)) hx hy
      · exact pe_op (op_r2 op2_sub) hx hy
      · exact pe_op (op_r2 (op2_mul rfl)) hx hy
      · exact pe_op (op_r2 op2_fdiv) hx hy
      · exact pe_op (op_r2 op2_mod) hx hy
      · exact pe_op (op_r2 op2_pow) hx hy
    · cases h
  · split at h
    · rename_i a op b pos hc
      obtain ⟨hc, hb⟩ := hc
      cases h
      have hm := fun {op : CmpOp} => nomarks (op := op) hb
      cases o <;> cases op <;> first | (exfalso; simp [o2Cmp] at hc; done) | skip
      · exact pe_cmpR (op_r2 (op2_eq rfl (by omega))) hx hy hm
      · exact pe_cmpR (op_r2 (op2_ne rfl (by omega))) hx hy hm
      · exact pe_cmpR (op_r2 op2_lt) hx hy hm
      · exact pe_cmpR (op_r2 op2_le) hx hy hm
      · exact pe_cmpR (op_r2 op2_gt) hx hy hm
      · exact pe_cmpR (op_r2 op2_ge) hx hy hm
      · exact pe_cmpR (op_r2 (op2_in rfl hu)) hx hy hm
      · exact pe_cmpR (op_r2 (op2_notin rfl hu)) hx hy hm
    · cases h
  · split at h
    · rename_i hc
      obtain ⟨rfl, hb⟩ := hc
      cases h
      exact pe_ix (ix_r2 (ix2 rfl (by omega))) hx hy (ix_ok hb)
    · cases h
  · split at h
    · rename_i f p a b pos hc
      obtain ⟨h1, h2, h3, h4⟩ := hc
      cases h
      have hg := ok.gl h2
      have ha : PA X [x, y] (tCons ta (tCons tb tNil)) := pa_cons hx (pa_cons hy pa_nil (star_ok h4)) (star_ok h3)
      have hpl : (backTo pos (starEach [y] X.env)).any (·.1) = false := by rw [star_ok h4]; rfl
      cases o <;> simp only [o2Fun, reduceCtorEq, Option.some.injEq] at h1
      · subst h1; exact pe_callB (c2_max ok.calm) hg (ok.kn.blt _ (by decide)) bt_max ha (by decide) (by decide) (star_ok h3) hpl
      · subst h1; exact pe_callB (c2_min ok.calm) hg (ok.kn.blt _ (by decide)) bt_min ha (by decide) (by decide) (star_ok h3) hpl
      · subst h1; exact pe_callB (c2_minT ok.calm ok.units) hg (ok.kn.blt _ (by decide)) bt_min ha (by decide) (by decide) (star_ok h3) hpl
    · cases h
  · cases h
end
end Nt
set_option Elab.async false
set_option linter.all false
set_option maxRecDepth 100000
set_option maxHeartbeats 2000000
set_option autoImplicit false
/-! E2g: expressions, tests, arguments: the evaluator is right -/
namespace Nt
open PySem PySem.Spec PyProof.Rows L2
section
variable {P : Pm} {Z M : Addr → Prop} {ρ ρ' : List (List Addr)} {H H' : Hp} {σ : L2.St} {e : Env} {s s' : Store} {W : WX} {Q : VK}
/-- an operation on one datum -/
theorem red1 {f : D → Option D} {k : Nat} {ev : Env → Store → Res D} (h : tE P W 0 (fun e s => (ev e s).bind fun x s => .of (f x) s) σ H Q) : tUn (r1 P f) (tE P W k ev) σ H Q := by
  obtain ⟨Z, ρ, e, s, R, h⟩ := h
  refine ⟨Z, ρ, e, s, R, (Post.bind h).imp fun a s1 ρ1 H1 X1 R1 h v hv => ?_⟩
  obtain ⟨d, hd, q⟩ := Post.of h
  exact ⟨_, a, d, v, rfl, R1.rs.here, hv.w, hd, fun H2 u x2 ru => q ρ1 H2 (Ex.sm x2) (R1.sm x2) u ru⟩
/-- two operands, from the left -/
theorem red2 {f : D → D → Option D} {ka kb : Nat} (hk : ka ≤ 1) {ea eb : Env → Store → Res D} (h : tE P W 0 (fun e s => (ea e s).bind fun x s => (eb e s).bind fun y s => .of (f x y) s) σ H Q) : tOp (r2 P f) (tE P W ka ea) (tE P W kb eb) σ H Q := by
  obtain ⟨Z, ρ, e, s, R, h⟩ := h
  refine ⟨Z, ρ, e, s, R, (Post.bind h).imp fun a s1 ρ1 H1 X1 R1 h v hv => ?_⟩
  refine ⟨Z, ρ1, e, s1, R1, (Post.bind h).imp fun b s2 ρ2 H2 X2 R2 h u hu => ?_⟩
  obtain ⟨d, hd, q⟩ := Post.of h
  exact ⟨_, a, b, d, v, u, rfl, R2.rs.here, (hv.mono hk X2 R1.rs.out).w, hu.w, hd, fun H3 z x3 rz => q ρ2 H3 (Ex.sm x3) (R2.sm x3) z rz⟩
end
section
variable {P : Pm} {G : Glob} {C : Calls} {T : Tx} {n : Nat} {sc : Sc} {W : WX} {X : Cx}
theorem tru_of {P : Pm} {M : Addr → Prop} {H : Hp} {d : D} {v : V} {b : Bool} (h : truth d = some b) (r : RVw P M H d v) : TruV P.K v H b := by
  unfold truth at h
  split at h
  · cases h; cases w_non r; rfl
  · cases h; cases w_bl r; rfl
  · cases h; cases w_int r; rfl
  · split at h
    · rename_i hl
      cases h; cases w_str r
      refine ⟨?_, ?_⟩
      · rw [len_sV]; exact Nat.le_trans hl lim_line
      · rw [len_sV]
        rename_i x
        cases x with
        | nil => rfl
        | cons a l => simp; omega
    · cases h
  · cases h
    obtain ⟨a, vs, rfl, h1, t⟩ := w_tup r
    refine .inr (.inl ⟨_, h1.sq, ?_⟩)
    cases t <;> rfl
  · cases h
    obtain ⟨a, vs, rfl, h1, t⟩ := w_lst r
    refine .inl ⟨_, SqL.of h1, ?_⟩
    cases t <;> rfl
  · cases h
    obtain ⟨a, kvs, rfl, h1, rfl, t⟩ := w_dK r
    refine .inr (.inr ⟨_, h1, ?_⟩)
    cases kvs <;> rfl
  · cases h
theorem he_ok {e : Expr} (h : tstOk e = true) (hn : ∀ a b c d, e ≠ .Compare a b c d) : ∀ whole, isTrue e X.env whole = (do let v ← whole; standAt e.pos; holding [v] (truthy v)) := by
  intro whole
  cases e <;> first | rfl | (simp [tstOk] at h; done) | (exact absurd rfl (hn _ _ _ _))
/-- by its value's truth -/
theorem pt_tr (hK : X.K = P.K) {k : Nat} {ev : Env → Store → Res D} {e : Expr} (h : L2.PE X e (tE P W k ev)) (ht : tstOk e = true) (hn : ∀ a b c d, e ≠ .Compare a b c d) : L2.PT X e (tT P W fun e s => (ev e s).bind fun x s => .of (truth x) s) := by
  refine PT_imp (pt_truth h (he_ok ht hn)) fun σ H Q q => ?_
  obtain ⟨Z, ρ, e, s, R, q⟩ := q
  refine ⟨Z, ρ, e, s, R, (Post.bind q).imp fun a s1 ρ1 H1 X1 R1 q v hv => ?_⟩
  obtain ⟨b, hb, q⟩ := Post.of q
  refine ⟨b, ?_, q ρ1 H1 Ex.refl R1⟩
  rw [hK]
  exact tru_of hb hv.w
/-- a comparison's answer as a test -/
theorem red2T {f : D → D → Option D} (hf : ∀ a b d, f a b = some d → ∃ t, d = .bl t) {ka kb : Nat} (hk : ka ≤ 1) {ea eb : Env → Store → Res D} {σ : L2.St} {H : Hp} {Q : Bool → Hp → Prop}
    (h : tT P W (fun e s => ((ea e s).bind fun x s => (eb e s).bind fun y s => .of (f x y) s).bind fun d s => .of (truth d) s) σ H Q) : tTest (tOp (r2 P f) (tE P W ka ea) (tE P W kb eb)) σ H Q := by
  obtain ⟨Z, ρ, e, s, R, h⟩ := h
  refine ⟨Z, ρ, e, s, R, (Post.bind (Post.bind h)).imp fun a s1 ρ1 H1 X1 R1 h v hv => ?_⟩
  refine ⟨Z, ρ1, e, s1, R1, (Post.bind h).imp fun b s2 ρ2 H2 X2 R2 h u hu => ?_⟩
  obtain ⟨d, hd, q⟩ := Post.of h
  obtain ⟨t, rfl⟩ := hf _ _ _ hd
  refine ⟨_, a, b, _, v, u, rfl, R2.rs.here, (hv.mono hk X2 R1.rs.out).w, hu.w, hd, fun H3 z x3 rz => ?_⟩
  cases rz
  obtain ⟨t', ht', q⟩ := Post.of (q ρ2 H2 Ex.refl R2)
  cases ht'
  exact ⟨_, rfl, q ρ2 H3 (Ex.sm x3) (R2.sm x3)⟩
theorem red1T {f : D → Option D} (hf : ∀ a d, f a = some d → ∃ t, d = .bl t) {k : Nat} {ev : Env → Store → Res D} {σ : L2.St} {H : Hp} {Q : Bool → Hp → Prop}
    (h : tT P W (fun e s => ((ev e s).bind fun x s => .of (f x) s).bind fun d s => .of (truth d) s) σ H Q) : tTest (tUn (r1 P f) (tE P W k ev)) σ H Q := by
  obtain ⟨Z, ρ, e, s, R, h⟩ := h
  refine ⟨Z, ρ, e, s, R, (Post.bind (Post.bind h)).imp fun a s1 ρ1 H1 X1 R1 h v hv => ?_⟩
  obtain ⟨d, hd, q⟩ := Post.of h
  obtain ⟨t, rfl⟩ := hf _ _ hd
  refine ⟨_, a, _, v, rfl, R1.rs.here, hv.w, hd, fun H3 z x3 rz => ?_⟩
  cases rz
  obtain ⟨t', ht', q⟩ := Post.of (q ρ1 H1 Ex.refl R1)
  cases ht'
  exact ⟨_, rfl, q ρ1 H3 (Ex.sm x3) (R1.sm x3)⟩
theorem cmp_bl {o : O2} {op : CmpOp} (h : o2Cmp o op = true) (a b d : D) (e : op2 o a b = some d) : ∃ t, d = .bl t := by
  cases o <;> first | (exfalso; cases op <;> simp [o2Cmp] at h; done) | skip
  all_goals simp only [op2, eqVal, neVal, cmpD, Option.map_eq_some_iff] at e
  all_goals first
    | (obtain ⟨t, _, rfl⟩ := e; exact ⟨_, rfl⟩)
    | (split at e <;> first | (cases e; exact ⟨_, rfl⟩) | cases e)
theorem pt_cmpK {op : CmpOp} {x c : Expr} {pos : Pos} {y : V} {te : TE} {r : V → Hp → VK → Prop} (hk : L2.PE X c (tC y)) (hx : L2.PE X x te)
    (ho : ∀ (pins : List (Addr × Obj)) (s : Shared) (σ : L2.St) (H : Hp) (x : V) (v u : Value) (Q : VK), Inv X pins σ H s → RelV x v → RelV y u → r x H Q → wpAny (model X.prog X.w) X.A (compareOp op v u) (EP X pins σ Q) X.xe s)
    (hm : behindInMarks op c = false) : L2.PT X (.Compare x [op] [c] pos) (tTest (tUn r te)) := by
  refine ⟨fun pins s σ H Q I h => wpAny_isTrue_Compare1 (thn (hx.run pins s σ H _ I h) fun v s1 hh => ?_) hm⟩
  obtain ⟨x1, H1, I1, rx, q1⟩ := hh
  refine thn (hk.run pins s1 σ H1 (fun z H2 => z = y ∧ r x1 H2 fun x H' => ∃ k, x = .bl k ∧ Q k H') I1 ⟨rfl, q1⟩) fun u s2 hh => ?_
  obtain ⟨z, H2, I2, rz, ez, q2⟩ := hh
  subst ez
  refine thn (ho pins s2 σ H2 x1 v u _ I2 rx rz q2) fun c s3 hh => ?_
  obtain ⟨z, H3, I3, r3, k, ek, q3⟩ := hh
  subst ek
  cases r3
  exact wpAny_truthy_bool ⟨H3, I3, q3⟩
theorem args_plain {P : Pm} {M : Addr → Prop} {H : Hp} {ρ ρ' : List (List Addr)} : ∀ {as : List Arg} {vs : List V}, anyRef as = false → ArgsOk P M H ρ as vs → ArgsOk P M H ρ' as vs
  | _, _, _, .nil => .nil
  | .val d :: as, _, h, .cons r t => .cons r (args_plain (by simpa [anyRef] using h) t)
  | .ref n :: as, _, h, .cons r t => by simp [anyRef] at h
theorem Ex.sm0 {H H' : Hp} {ρ' : List (List Addr)} (x : Ex [] H ρ' H') : Sm H H' := fun a o e => x.keep a o e fun m => by simp [inR] at m
theorem red_callOf {Z : Addr → Prop} {ρ : List (List Addr)} {H : Hp} {σ : L2.St} {e : Env} {s : Store} {f : Nat} {as : List Arg} {vs : List V} {Q : VK} (R : Rp P Z ρ H σ e s) (hv : ArgsOk P (Mu Z ρ σ e) H ρ as vs)
    (h : Post P Z ρ H σ e W (callOf C f as s) fun d _ ρ' H' => ∀ v, RV P (Mu Z ρ' σ e) H' d v → Q v H') : spF P (C f) vs H Q (WE W σ) := by
  unfold callOf at h
  cases ha : anyRef as with
  | true =>
    rw [ha, if_pos rfl] at h
    refine ⟨Mu Z ρ σ e, ρ, as, s, R.rs, hv, ?_⟩
    have sub : ∀ ρ' a, Mu Z ρ' σ e a → Mu Z ρ σ e a ∨ inR ρ' a := fun ρ' a m => by
      rcases m with m | m | m
      · exact .inl (.inl m)
      · exact .inr m
      · exact .inl (.inr (.inr m))
    revert h
    cases C f as s with
    | ok d s' => exact fun h ρ' H' v x rs r => h ρ' H' x (R.ex x rs (sub ρ')) v (r.less (sub ρ'))
    | exc c s' => exact fun h ρ' H' x rs => h ρ' H' x (R.ex x rs (sub ρ'))
    | stuck => exact fun h => h
  | false =>
    rw [ha, if_neg Bool.false_ne_true] at h
    refine ⟨Mu Z ρ σ e, [], as, [], ⟨.nil, by simp, R.rs.here, fun a m => by simp [inR] at m⟩, args_plain ha hv, ?_⟩
    revert h
    cases C f as [] with
    | ok d s' => exact fun h ρ' H' v x rs r => h ρ H' (Ex.sm x.sm0) (R.sm x.sm0) v (r.less fun a m => .inl m)
    | exc c s' => exact fun h ρ' H' x rs => h ρ H' (Ex.sm x.sm0) (R.sm x.sm0)
    | stuck => exact fun h => h
theorem red_call {f : Nat} {ev : Env → Store → Res (List Arg)} {σ : L2.St} {H : Hp} {Q : VK} (h : tE P W 0 (fun e s => (ev e s).bind fun as s => callOf C f as s) σ H Q) : tCallS (spF P (C f)) (WE W) (tA P W ev) σ H Q := by
  obtain ⟨Z, ρ, e, s, R, h⟩ := h
  refine ⟨Z, ρ, e, s, R, (Post.bind h).imp fun as s1 ρ1 H1 X1 R1 h vs hv => red_callOf R1 hv h⟩
theorem evE_var {e : Env} {i : Nat} {s : Store} {d : D} {s' : Store} (h : evE G C (.var i) e s = .ok d s') : e[i]? = some (some (.val d)) ∧ s' = s := by
  simp only [evE] at h
  split at h
  · rename_i d' he
    cases h
    exact ⟨he, rfl⟩
  · cases h
/-- a slot of data -/
theorem red_var {i : Nat} {σ : L2.St} {H : Hp} {Q : VK} (h : tE P W 0 (evE G C (.var i)) σ H Q) : tVar i σ H Q := by
  obtain ⟨Z, ρ, e, s, R, h⟩ := h
  simp only [evE] at h
  split at h
  · rename_i d he
    obtain ⟨v, h1, h2⟩ := R.slot _ _ he
    cases h2 with
    | val r => exact ⟨v, h1, h ρ H Ex.refl R v r⟩
  · exact h.elim
/-- a slot's own thing -/
theorem red_peek {i : Nat} {σ : L2.St} {H : Hp} {Q : VK} (h : tE P W 1 (evE G C (.peek i)) σ H Q) : tVar i σ H Q := by
  obtain ⟨Z, ρ, e, s, R, h⟩ := h
  simp only [evE] at h
  split at h
  · rename_i o he
    obtain ⟨v, h1, h2⟩ := R.slot _ _ he
    obtain ⟨d, hd, h⟩ := Post.of h
    refine ⟨v, h1, h ρ H Ex.refl R v ?_⟩
    cases h2 with
    | own r nr =>
      cases r with
      | lst r t => cases hd; exact RVo.lst r nr t
      | dK r t => cases hd; exact RVo.dK r nr t
      | dT r t => cases hd; exact RVo.dT r nr t
      | ins => cases hd
  · exact h.elim
/-- a cell, read -/
theorem cell_at {M : Addr → Prop} {H : Hp} {ρ0 : List (List Addr)} : ∀ {s : Store} {fps : List (List Addr)} {n : Nat} {o : SO}, CellsOk P M H ρ0 s fps → s[n]? = some o → ∃ fp, fps[n]? = some fp ∧ CellOk P M H ρ0 o fp
  | _, _, _, _, .nil, h => by simp at h
  | _, _, 0, _, .cons c _, h => by
    simp at h
    subst h
    exact ⟨_, by simp, c⟩
  | _, _, n + 1, _, .cons _ t, h => by
    obtain ⟨fp, h1, h2⟩ := cell_at (n := n) t (by simpa using h)
    exact ⟨fp, by simpa using h1, h2⟩
end
end Nt
set_option Elab.async false
set_option linter.all false
set_option maxRecDepth 100000
set_option maxHeartbeats 2000000
set_option autoImplicit false
/-! E2i: statements: readings, the state's steps -/
namespace Nt
open PySem PySem.Spec PyProof.Rows L2
abbrev Mo (ρ : List (List Addr)) (σ : L2.St) (e : Env) : Addr → Prop := fun a => inR ρ a ∨ Ow σ e a
/-- what statements leave -/
structure Em (ρ : List (List Addr)) (H : Hp) (σ : L2.St) (e : Env) (M' : Addr → Prop) (ρ' : List (List Addr)) (H' : Hp) : Prop where
  stp : Stp (Mo ρ σ e) H M' H'
  roots : ∀ n a, root ρ n = some a → root ρ' n = some a
def PostS (P : Pm) (Z : Addr → Prop) (ρ : List (List Addr)) (H : Hp) (σ : L2.St) (e : Env) (W : WX) (o : Out) (D : Ends) : Prop :=
  match o with
  | .nx e' s' => ∀ ρ' H' σ', Em ρ H σ e (Mo ρ' σ' e') ρ' H' → Rp P Z ρ' H' σ' e' s' → D.nx σ' H'
  | .rt d s' => ∀ ρ' H' v, Em ρ H σ e (inR ρ') ρ' H' → Rs P (fun a => Z a ∨ inR ρ' a) ρ' H' s' → RV P (fun a => Z a ∨ inR ρ' a) H' d v → D.rt v H'
  | .exc c s' => ∀ ρ' H' σ', Em ρ H σ e (inR ρ') ρ' H' → Rs P (fun a => Z a ∨ inR ρ' a) ρ' H' s' → W (.ref (P.cls c)) none σ' H'
  | .stuck => False
/-- a statement's reading -/
def tS (P : Pm) (W : WX) (ex : Env → Store → Out) : TS := fun D σ H => ∃ Z ρ e s, Rp P Z ρ H σ e s ∧ PostS P Z ρ H σ e W (ex e s) D
section
variable {P : Pm} {Z M : Addr → Prop} {ρ ρ' ρ1 ρ2 : List (List Addr)} {H H' H1 H2 : Hp} {σ σ' σ1 : L2.St} {e e' e1 : Env} {s s' s1 : Store} {W : WX} {D D' : Ends} {o : Out}
theorem Em.refl : Em ρ H σ e (Mo ρ σ e) ρ H := ⟨Stp.refl, fun _ _ h => h⟩
theorem Em.trans (a : Em ρ H σ e (Mo ρ1 σ1 e1) ρ1 H1) (b : Em ρ1 H1 σ1 e1 M ρ2 H2) : Em ρ H σ e M ρ2 H2 := ⟨a.stp.trans b.stp, fun n x h => b.roots n x (a.roots n x h)⟩
theorem Em.less {M' : Addr → Prop} (k : ∀ a, M' a → M a) (a : Em ρ H σ e M ρ' H') : Em ρ H σ e M' ρ' H' := ⟨⟨a.stp.keep, fun x h => a.stp.new x (k x h)⟩, a.roots⟩
theorem Em.ex (x : Ex ρ H ρ' H') : Em ρ H σ e (Mo ρ' σ e) ρ' H' := ⟨⟨fun a o h n => x.keep a o h fun m => n (.inl m), fun a h => by
  rcases h with h | h
  · rcases x.new a h with q | q
    · exact .inl (.inl q)
    · exact .inr q
  · exact .inl (.inr h)⟩, x.roots⟩
theorem Em.exR (x : Ex ρ H ρ' H') : Em ρ H σ e (inR ρ') ρ' H' := (Em.ex x).less fun _ h => .inl h
/-- data stays -/
theorem Em.mu (a : Em ρ H σ e (Mo ρ1 σ1 e1) ρ1 H1) : Stp (Mu Z ρ σ e) H (Mu Z ρ1 σ1 e1) H1 := by
  refine ⟨fun x o h n => a.stp.keep x o h fun m => n (.inr m), fun x h => ?_⟩
  rcases h with h | h
  · exact .inl (.inl h)
  · rcases a.stp.new x h with q | q
    · exact .inl (.inr q)
    · exact .inr q
theorem PostS.base (a : Em ρ H σ e (Mo ρ1 σ1 e1) ρ1 H1) (h : PostS P Z ρ H σ e W o D) : PostS P Z ρ1 H1 σ1 e1 W o D := by
  cases o with
  | nx e' s' => exact fun ρ' H' σ' x => h ρ' H' σ' (a.trans x)
  | rt d s' => exact fun ρ' H' v x => h ρ' H' v (a.trans x)
  | exc c s' => exact fun ρ' H' σ' x => h ρ' H' σ' (a.trans x)
  | stuck => exact h
theorem Rp.rsR (h : Rp P Z ρ H σ e s) : Rs P (fun a => Z a ∨ inR ρ a) ρ H s := h.rs.less (fun a m => by
  rcases m with m | m
  · exact .inl m
  · exact .inr (.inl m)) fun a m => .inr m
/-- behind an expression -/
theorem PostS.out {α : Type} {r : Res α} {f : α → Store → Out} (h : PostS P Z ρ H σ e W (r.out f) D) : Post P Z ρ H σ e W r fun a s ρ1 H1 => PostS P Z ρ1 H1 σ e W (f a s) D := by
  cases r with
  | ok a s1 => exact fun ρ1 H1 x R => h.base (Em.ex x)
  | exc c s1 => exact fun ρ1 H1 x R => h ρ1 H1 σ (Em.exR x) R.rsR
  | stuck => exact h
/-- one statement, then the rest -/
theorem PostS.then {f : Env → Store → Out} (h : PostS P Z ρ H σ e W (o.then f) D) : PostS P Z ρ H σ e W o { D with nx := tS P W f D } := by
  cases o with
  | nx e' s' => exact fun ρ' H' σ' x R => ⟨Z, ρ', e', s', R, h.base x⟩
  | rt d s' => exact h
  | exc c s' => exact h
  | stuck => exact h
theorem tS_then {t u : Env → Store → Out} (h : tS P W (fun e s => (t e s).then u) D σ H) : tSeq (tS P W t) (tS P W u) D σ H := by
  obtain ⟨Z, ρ, e, s, R, h⟩ := h
  exact ⟨Z, ρ, e, s, R, h.then⟩
theorem ow_set {i : Nat} {x : Option Slot} {v : Option V} (hx : ∀ o, x ≠ some (.own o)) {a : Addr} (h : Ow (σ.set i v) (e.set i x) a) : Ow σ e a := by
  obtain ⟨j, o, h1, h2⟩ := h
  by_cases hj : i = j
  · subst hj
    rw [List.getElem?_set_self' ] at h1
    cases he : e[i]? with
    | none => rw [he] at h1; cases h1
    | some y => rw [he] at h1; cases h1; exact absurd rfl (hx o)
  · rw [List.getElem?_set_ne hj] at h1
    rw [List.getElem?_set_ne hj] at h2
    exact ⟨j, o, h1, h2⟩
theorem ow_set1 {i : Nat} {x : Option Slot} (hx : ∀ o, x ≠ some (.own o)) {a : Addr} (h : Ow σ (e.set i x) a) : Ow σ e a := by
  obtain ⟨j, o, h1, h2⟩ := h
  by_cases hj : i = j
  · subst hj
    rw [List.getElem?_set_self' ] at h1
    cases he : e[i]? with
    | none => rw [he] at h1; cases h1
    | some y => rw [he] at h1; cases h1; exact absurd rfl (hx o)
  · rw [List.getElem?_set_ne hj] at h1
    exact ⟨j, o, h1, h2⟩
theorem SlotOk.less {M M' : Addr → Prop} (k : ∀ a, M' a → M a) {x : Slot} {v : V} (h : SlotOk P M H ρ x v) : SlotOk P M' H ρ x v := by
  cases h with
  | val r => exact .val (r.less k)
  | ref r => exact .ref r
  | own c n => exact .own (c.less k) n
theorem mu_set {i : Nat} {x : Option Slot} {v : Option V} (hx : ∀ o, x ≠ some (.own o)) : ∀ a, Mu Z ρ (σ.set i v) (e.set i x) a → Mu Z ρ σ e a := fun a h => by
  rcases h with h | h | h
  · exact .inl h
  · exact .inr (.inl h)
  · exact .inr (.inr (ow_set hx h))
theorem get_set {α : Type} {l : List α} {i j : Nat} {x y : α} (h : (l.set i x)[j]? = some y) : (i = j ∧ y = x ∧ i < l.length) ∨ (i ≠ j ∧ l[j]? = some y) := by
  by_cases hj : i = j
  · subst hj
    left
    rw [List.getElem?_set_self'] at h
    cases he : l[i]? with
    | none => rw [he] at h; cases h
    | some z =>
      rw [he] at h
      cases h
      exact ⟨rfl, rfl, (List.getElem?_eq_some_iff.mp he).1⟩
  · right
    rw [List.getElem?_set_ne hj] at h
    exact ⟨hj, h⟩
/-- a slot is filled: data, a cell -/
theorem Rp.put {i : Nat} {x : Slot} {v : V} (h : Rp P Z ρ H σ e s) (hx : ∀ o, x ≠ .own o) (r : SlotOk P (Mu Z ρ σ e) H ρ x v) : Rp P Z ρ H (σ.set i (some v)) (e.set i (some x)) s := by
  have hx' : ∀ o, some x ≠ some (Slot.own o) := fun o z => hx o (by cases z; rfl)
  have k : ∀ a, Mu Z ρ (σ.set i (some v)) (e.set i (some x)) a → Mu Z ρ σ e a := mu_set hx'
  refine ⟨h.rs.less k fun a m => .inr (.inl m), by simp [h.len], fun j y q => ?_, fun j l o o' a q1 q2 q3 q4 => ?_, fun a m => h.oz a (ow_set hx' m)⟩
  · rcases get_set q with ⟨rfl, e1, hl⟩ | ⟨hj, q⟩
    · cases e1
      refine ⟨v, ?_, r.less k⟩
      rw [List.getElem?_set_self (by rw [← h.len]; exact hl)]
    · obtain ⟨u, h1, h2⟩ := h.slot j y q
      exact ⟨u, by rw [List.getElem?_set_ne hj]; exact h1, h2.less k⟩
  · rcases get_set q1 with ⟨rfl, e1, hl⟩ | ⟨hj, q1⟩
    · cases e1; exact absurd rfl (hx _)
    · rcases get_set q2 with ⟨rfl, e1, hl⟩ | ⟨hj2, q2⟩
      · cases e1; exact absurd rfl (hx _)
      · rw [List.getElem?_set_ne hj] at q3
        rw [List.getElem?_set_ne hj2] at q4
        exact h.apart j l o o' a q1 q2 q3 q4
theorem Em.put {i : Nat} {x : Slot} {v : V} (hx : ∀ o, x ≠ .own o) : Em ρ H σ e (Mo ρ (σ.set i (some v)) (e.set i (some x))) ρ H := Em.refl.less fun a m => by
  rcases m with m | m
  · exact .inl m
  · exact .inr (ow_set (fun o z => hx o (by cases z; rfl)) m)
/-- a slot is emptied -/
theorem Rp.wipe1 {i : Nat} (h : Rp P Z ρ H σ e s) : Rp P Z ρ H σ (e.set i none) s := by
  have hx : ∀ o, (none : Option Slot) ≠ some (.own o) := fun o z => by cases z
  have k : ∀ a, Mu Z ρ σ (e.set i none) a → Mu Z ρ σ e a := fun a h => by
    rcases h with h | h | h
    · exact .inl h
    · exact .inr (.inl h)
    · exact .inr (.inr (ow_set1 hx h))
  refine ⟨h.rs.less k fun a m => .inr (.inl m), by simp [h.len], fun j y q => ?_, fun j l o o' a q1 q2 q3 q4 => ?_, fun a m => h.oz a (ow_set1 hx m)⟩
  · rcases get_set q with ⟨rfl, e1, hl⟩ | ⟨hj, q⟩
    · cases e1
    · obtain ⟨u, h1, h2⟩ := h.slot j y q
      exact ⟨u, h1, h2.less k⟩
  · rcases get_set q1 with ⟨rfl, e1, hl⟩ | ⟨hj, q1⟩
    · cases e1
    · rcases get_set q2 with ⟨rfl, e1, hl⟩ | ⟨hj2, q2⟩
      · cases e1
      · exact h.apart j l o o' a q1 q2 q3 q4
theorem Em.wipe1 {i : Nat} : Em ρ H σ e (Mo ρ σ (e.set i none)) ρ H := Em.refl.less fun a m => by
  rcases m with m | m
  · exact .inl m
  · exact .inr (ow_set1 (fun o z => by cases z) m)
theorem Rp.wipe (h : Rp P Z ρ H σ e s) : ∀ is : List Nat, Rp P Z ρ H σ (wipeE e is) s ∧ Em ρ H σ e (Mo ρ σ (wipeE e is)) ρ H
  | [] => ⟨h, Em.refl⟩
  | i :: r => ⟨(h.wipe r).1.wipe1, (h.wipe r).2.trans Em.wipe1⟩
/-- a new own thing in a slot -/
theorem Rp.own {i : Nat} {p : Addr} {u : HO} {so : SO} (h : Rp P Z ρ H σ e s) (hp : H p = none) (mu : Mut (some u)) (c : ∀ M' H', Stp (Mu Z ρ σ e) H M' H' → H' p = some u → CellOk P M' H' ρ so [p]) :
    Rp P Z ρ (upd H p u) (σ.set i (some (.ref p))) (e.set i (some (.own so))) s ∧ Em ρ H σ e (Mo ρ (σ.set i (some (.ref p))) (e.set i (some (.own so)))) ρ (upd H p u) := by
  have hn : ¬ Mu Z ρ σ e p := Hr.out h.rs.here hp
  have sm : Sm H (upd H p u) := Sm.new hp
  have ow : ∀ a, Ow (σ.set i (some (.ref p))) (e.set i (some (.own so))) a → Ow σ e a ∨ a = p := fun a m => by
    obtain ⟨j, o, h1, h2⟩ := m
    rcases get_set h1 with ⟨rfl, e1, hl⟩ | ⟨hj, q⟩
    · rw [List.getElem?_set_self (by rw [← h.len]; exact hl)] at h2
      cases h2
      exact .inr rfl
    · rw [List.getElem?_set_ne hj] at h2
      exact .inl ⟨j, o, q, h2⟩
  have mo : ∀ a, Mu Z ρ (σ.set i (some (.ref p))) (e.set i (some (.own so))) a → Mu Z ρ σ e a ∨ a = p := fun a m => by
    rcases m with m | m | m
    · exact .inl (.inl m)
    · exact .inl (.inr (.inl m))
    · rcases ow a m with m | m
      · exact .inl (.inr (.inr m))
      · exact .inr m
  have st : Stp (Mu Z ρ σ e) H (Mu Z ρ (σ.set i (some (.ref p))) (e.set i (some (.own so)))) (upd H p u) := ⟨fun a o q _ => sm a o q, fun a m => by
    rcases mo a m with q | rfl
    · exact .inl q
    · exact .inr hp⟩
  have nr : ¬ inR ρ p := fun m => hn (.inr (.inl m))
  have keepC : ∀ {so' : SO} {fp : List Addr}, CellOk P (Mu Z ρ σ e) H ρ so' fp → CellOk P (Mu Z ρ (σ.set i (some (.ref p))) (e.set i (some (.own so)))) (upd H p u) ρ so' fp := fun {so' fp} c => c.keep st h.rs.out (fun _ _ r => r) (fun a _ v q => sm a v q) fun a x q => sm a _ q
  have notp : ∀ (j : Nat) (o' : SO), e[j]? = some (some (Slot.own o')) → σ[j]? = some (some (V.ref p)) → False := fun j o' q1 q2 => hn (.inr (.inr ⟨j, o', q1, q2⟩))
  refine ⟨⟨⟨h.rs.cells.map keepC, h.rs.nd, fun a m => ?_, fun a m => .inr (.inl m)⟩, by simp [h.len], fun j y q => ?_, fun j l o o' a q1 q2 q3 q4 => ?_, fun a m z => ?_⟩, ⟨⟨fun a o q _ => sm a o q, fun a m => ?_⟩, fun _ _ r => r⟩⟩
  · rcases mo a m with q | rfl
    · obtain ⟨o, e1, e2⟩ := Hr.some h.rs.here q
      rw [sm a o e1]
      exact e2
    · rw [upd_same]
      exact mu
  · rcases get_set q with ⟨rfl, e1, hl⟩ | ⟨hj, q⟩
    · cases e1
      refine ⟨_, List.getElem?_set_self (by rw [← h.len]; exact hl), .own (c _ _ st (upd_same ..)) nr⟩
    · obtain ⟨v, h1, h2⟩ := h.slot j y q
      refine ⟨v, by rw [List.getElem?_set_ne hj]; exact h1, ?_⟩
      cases h2 with
      | val r => exact .val (r.mono st h.rs.out)
      | ref r => exact .ref r
      | own r n => exact .own (keepC r) n
  · rcases get_set q1 with ⟨rfl, e1, hl⟩ | ⟨hj, q1'⟩
    · rw [List.getElem?_set_self (by rw [← h.len]; exact hl)] at q3
      cases q3
      rcases get_set q2 with ⟨rfl, e2, hl2⟩ | ⟨hj2, q2'⟩
      · rfl
      · rw [List.getElem?_set_ne hj2] at q4
        exact (notp _ _ q2' q4).elim
    · rw [List.getElem?_set_ne hj] at q3
      rcases get_set q2 with ⟨rfl, e2, hl2⟩ | ⟨hj2, q2'⟩
      · rw [List.getElem?_set_self (by rw [← h.len]; exact hl2)] at q4
        cases q4
        exact (notp _ _ q1' q3).elim
      · rw [List.getElem?_set_ne hj2] at q4
        exact h.apart j l o o' a q1' q2' q3 q4
  · rcases ow a m with m | rfl
    · exact h.oz a m z
    · exact hn (.inl z)
  · rcases m with m | m
    · exact .inl (.inl m)
    · rcases ow a m with m | rfl
      · exact .inl (.inr m)
      · exact .inr hp
/-- a slot's own thing is written -/
theorem Rp.write {i : Nat} {a : Addr} {u : HO} {so so' : SO} (h : Rp P Z ρ H σ e s) (he : e[i]? = some (some (.own so))) (hs : σ[i]? = some (some (.ref a))) (mu : Mut (some u)) (c : ∀ M' H', Stp (Mu Z ρ σ e) H M' H' → H' a = some u → (∀ b x, H b = some (.own x) → H' b = some (.own x)) → CellOk P M' H' ρ so' [a]) :
    Rp P Z ρ (upd H a u) σ (e.set i (some (.own so'))) s ∧ Em ρ H σ e (Mo ρ σ (e.set i (some (.own so')))) ρ (upd H a u) := by
  have hl : i < e.length := (List.getElem?_eq_some_iff.mp he).1
  have hM : Mu Z ρ σ e a := .inr (.inr ⟨i, so, he, hs⟩)
  have nr : ¬ inR ρ a := by
    obtain ⟨v, h1, h2⟩ := h.slot i _ he
    rw [hs] at h1
    cases h1
    cases h2 with
    | own _ n => exact n
  have ow : ∀ b, Ow σ (e.set i (some (.own so'))) b → Ow σ e b := fun b m => by
    obtain ⟨j, o, h1, h2⟩ := m
    rcases get_set h1 with ⟨rfl, e1, hl⟩ | ⟨hj, q⟩
    · exact ⟨i, so, he, h2⟩
    · exact ⟨j, o, q, h2⟩
  have mo : ∀ b, Mu Z ρ σ (e.set i (some (.own so'))) b → Mu Z ρ σ e b := fun b m => by
    rcases m with m | m | m
    · exact .inl m
    · exact .inr (.inl m)
    · exact .inr (.inr (ow b m))
  have kp : ∀ b o, b ≠ a → H b = some o → upd H a u b = some o := fun b o n q => by rw [upd_ne n]; exact q
  have ownk : ∀ b x, H b = some (.own x) → upd H a u b = some (.own x) := fun b x q => kp b _ (fun z => by subst z; exact h.rs.out b x q hM) q
  have st : Stp (Mu Z ρ σ e) H (Mu Z ρ σ (e.set i (some (.own so')))) (upd H a u) := ⟨fun b o q n => kp b o (fun z => n (z ▸ hM)) q, fun b m => .inl (mo b m)⟩
  have keepC : ∀ {o : SO} {fp : List Addr}, (∀ b ∈ fp, b ≠ a) → CellOk P (Mu Z ρ σ e) H ρ o fp → CellOk P (Mu Z ρ σ (e.set i (some (.own so')))) (upd H a u) ρ o fp := fun {o fp} hf c => c.keep st h.rs.out (fun _ _ r => r) (fun b hb v q => kp b v (hf b hb) q) ownk
  have keepCs : ∀ {s : Store} {fps : List (List Addr)}, (∀ b ∈ fps.flatten, b ≠ a) → CellsOk P (Mu Z ρ σ e) H ρ s fps → CellsOk P (Mu Z ρ σ (e.set i (some (.own so')))) (upd H a u) ρ s fps := by
    intro s fps hf c
    induction c with
    | nil => exact .nil
    | cons c t ih =>
      refine .cons (keepC (fun b hb => hf b ?_) c) (ih fun b hb => hf b ?_)
      · rw [List.flatten_cons]; exact List.mem_append_left _ hb
      · rw [List.flatten_cons]; exact List.mem_append_right _ hb
  refine ⟨⟨⟨keepCs (fun b hb z => nr (z ▸ hb)) h.rs.cells, h.rs.nd, fun b m => ?_, fun b m => .inr (.inl m)⟩, by simp [h.len], fun j y q => ?_, fun j l o o' b q1 q2 q3 q4 => ?_, fun b m => h.oz b (ow b m)⟩, ⟨⟨fun b o q n => kp b o (fun z => n (.inr (z ▸ ⟨i, so, he, hs⟩))) q, fun b m => ?_⟩, fun _ _ r => r⟩⟩
  · by_cases hb : b = a
    · subst hb; rw [upd_same]; exact mu
    · rw [upd_ne hb]; exact h.rs.here b (mo b m)
  · rcases get_set q with ⟨rfl, e1, _⟩ | ⟨hj, q⟩
    · cases e1
      exact ⟨_, hs, .own (c _ _ st (upd_same ..) ownk) nr⟩
    · obtain ⟨v, h1, h2⟩ := h.slot j y q
      refine ⟨v, h1, ?_⟩
      cases h2 with
      | val r => exact .val (r.mono st h.rs.out)
      | ref r => exact .ref r
      | own r n =>
        refine .own (keepC (fun b hb z => ?_) r) n
        rcases List.mem_cons.mp hb with rfl | hb
        · exact hj (h.apart i j _ _ a he q hs (z ▸ h1))
        · cases hb
  · have f : ∀ {j : Nat} {o : SO}, (e.set i (some (.own so')))[j]? = some (some (Slot.own o)) → ∃ o2, e[j]? = some (some (Slot.own o2)) := fun {j o} q => by
      rcases get_set q with ⟨rfl, e1, _⟩ | ⟨hj, q⟩
      · exact ⟨_, he⟩
      · exact ⟨_, q⟩
    obtain ⟨o2, q1⟩ := f q1
    obtain ⟨o3, q2⟩ := f q2
    exact h.apart j l _ _ b q1 q2 q3 q4
  · rcases m with m | m
    · exact .inl (.inl m)
    · exact .inl (.inr (ow b m))
/-- a slot's own thing becomes data -/
theorem Rp.freeze {i : Nat} {so : SO} {d : Nt.D} (h : Rp P Z ρ H σ e s) (he : e[i]? = some (some (.own so))) (hd : frozen so = some d) :
    Rp P Z ρ H σ (e.set i (some (.val d))) s ∧ Em ρ H σ e (Mo ρ σ (e.set i (some (.val d)))) ρ H := by
  have hx : ∀ o, (some (Slot.val d) : Option Slot) ≠ some (.own o) := fun o z => by cases z
  have k : ∀ a, Mu Z ρ σ (e.set i (some (.val d))) a → Mu Z ρ σ e a := fun a h => by
    rcases h with h | h | h
    · exact .inl h
    · exact .inr (.inl h)
    · exact .inr (.inr (ow_set1 hx h))
  refine ⟨⟨h.rs.less k fun a m => .inr (.inl m), by simp [h.len], fun j y q => ?_, fun j l o o' a q1 q2 q3 q4 => ?_, fun a m => h.oz a (ow_set1 hx m)⟩, Em.refl.less fun a m => ?_⟩
  · rcases get_set q with ⟨rfl, e1, hl⟩ | ⟨hj, q⟩
    · cases e1
      obtain ⟨u, h1, h2⟩ := h.slot i _ he
      refine ⟨u, h1, .val ?_⟩
      cases h2 with
      | @own so a c n =>
        have nM : ¬ Mu Z ρ σ (e.set i (some (.val d))) a := fun m => by
          rcases m with m | m | m
          · exact h.oz a ⟨i, so, he, h1⟩ m
          · exact n m
          · obtain ⟨j, o, g1, g2⟩ := m
            rcases get_set g1 with ⟨rfl, e1, _⟩ | ⟨hj, g1⟩
            · cases e1
            · exact hj (h.apart i j _ _ a he g1 h1 g2)
        cases c with
        | lst c t => cases hd; exact .lst ⟨c, nM⟩ (t.less k)
        | dK c t => cases hd; exact .dK c nM (t.less k)
        | dT c t => cases hd; exact .dT c nM (t.less k)
        | ins => cases hd
    · obtain ⟨u, h1, h2⟩ := h.slot j y q
      exact ⟨u, h1, h2.less k⟩
  · rcases get_set q1 with ⟨rfl, e1, hl⟩ | ⟨hj, q1⟩
    · cases e1
    · rcases get_set q2 with ⟨rfl, e1, hl⟩ | ⟨hj2, q2⟩
      · cases e1
      · exact h.apart j l o o' a q1 q2 q3 q4
  · rcases m with m | m
    · exact .inl m
    · exact .inr (ow_set1 hx m)
end
end Nt
set_option Elab.async false
set_option linter.all false
set_option maxRecDepth 100000
set_option maxHeartbeats 2000000
set_option autoImplicit false
/-! E2j: targets, sources, comprehensions: readings -/
namespace Nt
open PySem PySem.Spec PyProof.Rows L2
/-- all slots but ts are the same -/
def Same (ts : List Nat) (σ : L2.St) (e : Env) (σ' : L2.St) (e' : Env) : Prop := σ'.length = σ.length ∧ ∀ j, j ∉ ts → σ'[j]? = σ[j]? ∧ e'[j]? = e[j]?
def tG (P : Pm) (ts : List Nat) (b : D → Env → Option Env) : TG := fun v σ H Q => ∃ Z ρ e s d e', Rp P Z ρ H σ e s ∧ RV P (Mu Z ρ σ e) H d v ∧ b d e = some e' ∧
  ∀ σ', Same ts σ e σ' e' → Em ρ H σ e (Mo ρ σ' e') ρ H → Rp P Z ρ H σ' e' s → Q σ' H
def tGs (P : Pm) (ts : List Nat) (b : List D → Env → Option Env) : TGs := fun vs σ H Q => ∃ Z ρ e s ds e', Rp P Z ρ H σ e s ∧ RVs P (Mu Z ρ σ e) H ds vs ∧ b ds e = some e' ∧
  ∀ σ', Same ts σ e σ' e' → Em ρ H σ e (Mo ρ σ' e') ρ H → Rp P Z ρ H σ' e' s → Q σ' H
theorem PG_imp {X : Cx} {e : Expr} {t t' : TG} (h : L2.PG X e t) (f : ∀ v σ H Q, t' v σ H Q → t v σ H Q) : L2.PG X e t' := ⟨fun pins s σ H v u Q I r q => h.run pins s σ H v u Q I r (f v σ H Q q)⟩
theorem PGs_imp {X : Cx} {e : List Expr} {t t' : TGs} (h : L2.PGs X e t) (f : ∀ v σ H Q, t' v σ H Q → t v σ H Q) : L2.PGs X e t' := ⟨fun pins s σ H v u Q I r q => h.run pins s σ H v u Q I r (f v σ H Q q)⟩
theorem PG_or {X : Cx} {e : Expr} {t t' : TG} (h : L2.PG X e t) (h' : L2.PG X e t') : L2.PG X e (fun v σ H Q => t v σ H Q ∨ t' v σ H Q) := ⟨fun pins s σ H v u Q I r q => by
  rcases q with q | q
  · exact h.run pins s σ H v u Q I r q
  · exact h'.run pins s σ H v u Q I r q⟩
theorem PI_imp {X : Cx} {tg e : Expr} {t t' : TI} (h : L2.PI X tg e t) (f : ∀ σ H Q, t' σ H Q → t σ H Q) : L2.PI X tg e t' := ⟨fun pins s σ H R I q => h.run pins s σ H R I (f σ H R q)⟩
theorem PI_or {X : Cx} {tg e : Expr} {t t' : TI} (h : L2.PI X tg e t) (h' : L2.PI X tg e t') : L2.PI X tg e (fun σ H R => t σ H R ∨ t' σ H R) := ⟨fun pins s σ H R I q => by
  rcases q with q | q
  · exact h.run pins s σ H R I q
  · exact h'.run pins s σ H R I q⟩
section
variable {P : Pm} {G : Glob} {C : Calls} {T : Tx} {n : Nat}
def lenTs : Tgs → Nat
  | .nil => 0
  | .cons _ ts => lenTs ts + 1
theorem bindTs_len : ∀ (ts : Tgs) (ds : List D) (e e' : Env), bindTs ts ds e = some e' → ds.length = lenTs ts
  | .nil, ds, e, e', h => by
    cases ds with
    | nil => rfl
    | cons => simp [bindTs] at h
  | .cons t ts, ds, e, e', h => by
    cases ds with
    | nil => simp [bindTs] at h
    | cons d ds =>
      simp only [bindTs, Option.bind_eq_some_iff] at h
      obtain ⟨e1, _, h⟩ := h
      rw [List.length_cons, bindTs_len ts ds e1 e' h]
      rfl
theorem chkG_plain {sc : Sc} {e : Expr} {es : List Expr} {env : PySem.Env} : ∀ (t : Tg), chkG T t sc e = true → assignEach (e :: es) env = (false, assign e env) :: assignEach es env
  | .v i, h => by cases e <;> first | rfl | (simp [chkG] at h)
  | .t ts, h => by cases e <;> first | rfl | (simp [chkG] at h)
theorem chkGs_plain {sc : Sc} {env : PySem.Env} : ∀ (ts : Tgs) (es : List Expr), chkGs T ts sc es = true → (assignEach es env).length = lenTs ts ∧ (assignEach es env).findIdx? (·.1) = none
  | .nil, es, h => by
    simp only [chkGs, List.isEmpty_iff] at h
    subst h
    exact ⟨rfl, rfl⟩
  | .cons t ts, es, h => by
    cases es with
    | nil => simp [chkGs] at h
    | cons e es =>
      simp only [chkGs, Bool.and_eq_true] at h
      obtain ⟨h1, h2⟩ := chkGs_plain (env := env) ts es h.2
      rw [chkG_plain t h.1]
      refine ⟨by rw [List.length_cons, h1]; rfl, ?_⟩
      rw [List.findIdx?_cons]
      simp [h2]
theorem loc_ok {sc : Sc} {W : WX} {X : Cx} {x : Str} (ok : XOk P G C T n sc W X) (h : locC sc x = true) : Loc X.env.scope x ∧ (X.fn x = true ∨ X.env.scope.names.lookup x = some .local) := by
  unfold locC at h
  split at h
  · rename_i e
    obtain ⟨k', h1, h2⟩ := ok.sc _ _ e
    rcases h2 with rfl | ⟨h2, _⟩
    · exact ⟨.inl h1, .inr h1⟩
    · cases h2
  · rename_i e
    obtain ⟨k', h1, h2⟩ := ok.sc _ _ e
    rcases h2 with rfl | ⟨h2, _⟩
    · exact ⟨.inr h1, .inl (ok.fnc _ e)⟩
    · cases h2
  · cases h
mutual
theorem sG : ∀ (t : Tg) {sc : Sc} {W : WX} {X : Cx} {e : Expr}, XOk P G C T n sc W X → chkG T t sc e = true → L2.PG X e (tG P (tgVars t) (bindT t))
  | .v i, sc, W, X, e, ok, h => by
    simp only [chkG] at h
    split at h
    · simp only [Bool.and_eq_true, decide_eq_true_eq] at h
      obtain ⟨h1, h2⟩ := loc_ok ok h.2
      refine PG_imp (pg_name ok.nd (by rw [ok.nm]; exact h.1) h1 h2) fun v σ H Q q => ?_
      obtain ⟨Z, ρ, e, s, d, e', R, rv, hb, q⟩ := q
      simp only [bindT] at hb
      split at hb
      · cases hb
        refine q _ ⟨by rw [List.length_set], fun j hj => ?_⟩ (Em.put fun o z => by cases z) (R.put (fun o z => by cases z) (.val rv))
        have hj : i ≠ j := fun z => hj (by rw [z]; exact List.mem_cons_self)
        exact ⟨List.getElem?_set_ne hj, List.getElem?_set_ne hj⟩
      · cases hb
    · cases h
  | .t ts, sc, W, X, e, ok, h => by
    simp only [chkG] at h
    split at h
    · rename_i es k pos
      obtain ⟨h1, h2⟩ := chkGs_plain (env := X.env) ts es h
      refine PG_imp (PG_or (pg_tup ok.calm (sGs ts ok h) h1 h2) (pg_lst ok.calm (sGs ts ok h) h1 h2)) fun v σ H Q q => ?_
      obtain ⟨Z, ρ, e, s, d, e', R, rv, hb, q⟩ := q
      cases d with
      | tup ds =>
        obtain ⟨a, vs, rfl, f, t⟩ := r_tup rv
        exact .inl ⟨a, vs, rfl, by rw [ok.K]; exact f.sq, by rw [← t.length]; exact bindTs_len ts ds e e' hb, Z, ρ, e, s, ds, e', R, t, hb, q⟩
      | lst ds =>
        cases rv with
        | lst f t => exact .inr ⟨_, _, rfl, f.sq, by rw [← t.length]; exact bindTs_len ts ds e e' hb, Z, ρ, e, s, ds, e', R, t, hb, q⟩
      | _ => simp [bindT] at hb
    · cases h
theorem sGs : ∀ (ts : Tgs) {sc : Sc} {W : WX} {X : Cx} {es : List Expr}, XOk P G C T n sc W X → chkGs T ts sc es = true → L2.PGs X es (tGs P (tgsVars ts) (bindTs ts))
  | .nil, sc, W, X, es, ok, h => by
    simp only [chkGs, List.isEmpty_iff] at h
    subst h
    refine PGs_imp pgs_nil fun v σ H Q q => ?_
    obtain ⟨Z, ρ, e, s, ds, e', R, rv, hb, q⟩ := q
    cases ds with
    | nil =>
      cases rv
      cases hb
      exact ⟨rfl, q σ ⟨rfl, fun j _ => ⟨rfl, rfl⟩⟩ Em.refl R⟩
    | cons => simp [bindTs] at hb
  | .cons t ts, sc, W, X, es, ok, h => by
    cases es with
    | nil => simp [chkGs] at h
    | cons x es =>
      simp only [chkGs, Bool.and_eq_true] at h
      refine PGs_imp (pgs_cons (sG t ok h.1) (sGs ts ok h.2) (by rw [chkG_plain t h.1]; rfl)) fun v σ H Q q => ?_
      obtain ⟨Z, ρ, e, s, ds, e', R, rv, hb, q⟩ := q
      cases ds with
      | nil => simp [bindTs] at hb
      | cons d ds =>
        simp only [bindTs, Option.bind_eq_some_iff] at hb
        obtain ⟨e1, hb1, hb⟩ := hb
        cases rv with
        | cons r rs =>
          refine ⟨_, _, rfl, Z, ρ, e, s, d, e1, R, r, hb1, fun σ1 sm1 em1 R1 => ?_⟩
          refine ⟨Z, ρ, e1, s, ds, e', R1, rs.mono em1.mu R.rs.out, hb, fun σ2 sm2 em2 R2 => ?_⟩
          refine q σ2 ⟨sm2.1.trans sm1.1, fun j hj => ?_⟩ (em1.trans em2) R2
          have hj : j ∉ tgVars t ++ tgsVars ts := hj
          rw [List.mem_append, not_or] at hj
          exact ⟨((sm2.2 j hj.2).1).trans (sm1.2 j hj.1).1, ((sm2.2 j hj.2).2).trans (sm1.2 j hj.1).2⟩
end
end
/-! ### sources -/
/-- a later state -/
def Lt (k : Nat) (ρ : List (List Addr)) (M : Addr → Prop) (H : Hp) (M' : Addr → Prop) (H' : Hp) : Prop := Stp M H M' H' ∧ (k = 1 → ∀ a o, H a = some o → ¬ inR ρ a → H' a = some o)
/-- J gives the data xs, one by one -/
structure WalkD (P : Pm) (k : Nat) (ρ : List (List Addr)) (M : Addr → Prop) (H : Hp) (J : It) (xs : List D) : Prop where
  goes : ∀ i M' H', Lt k ρ M H M' H' → i < xs.length → J.go i H'
  stops : ∀ M' H', Lt k ρ M H M' H' → J.stop xs.length H'
  yields : ∀ i M' H' x H'', Lt k ρ M H M' H' → Hr M' H' → i < xs.length → J.yld i H' x H'' → Sm H' H'' ∧ ∃ d, xs[i]? = some d ∧ RV P M' H'' d x
/-- a source's reading -/
def tI (P : Pm) (W : WX) (k : Nat) (ev : Env → Store → Res (List D)) : TI := fun σ H R => ∃ Z ρ e s, Rp P Z ρ H σ e s ∧
  Post P Z ρ H σ e W (ev e s) fun xs _ ρ1 H1 => ∀ J, WalkD P k ρ1 (Mu Z ρ1 σ e) H1 J xs → R J H1
section
variable {P : Pm} {Z M : Addr → Prop} {ρ ρ1 : List (List Addr)} {H H1 : Hp} {σ : L2.St} {e : Env} {k : Nat} {W : WX}
theorem RVs.at2 {M : Addr → Prop} {H : Hp} {ds : List D} {vs : List V} {i : Nat} (h : RVs P M H ds vs) (hi : i < ds.length) : ∃ d v, ds[i]? = some d ∧ vs[i]? = some v ∧ RV P M H d v := by
  obtain ⟨v, h1, h2⟩ := h.get (List.getElem?_eq_getElem hi)
  exact ⟨_, v, List.getElem?_eq_getElem hi, h1, h2⟩
theorem walkT {K : Frag} (hK : K = P.K) (ow : OwnOut M H) {a : Addr} {vs : List V} {ds : List D} (f : FzT P.K M H a vs) (t : RVs P M H ds vs) : WalkD P k ρ M H (Itt K a) ds := by
  subst hK
  refine ⟨fun i M' H' l hi => ?_, fun M' H' l => ?_, fun i M' H' x H'' l hr hi hy => ?_⟩
  · obtain ⟨d, v, h1, h2, h3⟩ := t.at2 hi
    exact ⟨vs, v, (f.mono l.1).sq, h2⟩
  · exact ⟨vs, (f.mono l.1).sq, by rw [t.length]; exact Nat.le_refl _⟩
  · obtain ⟨d, v, h1, h2, h3⟩ := t.at2 hi
    obtain ⟨rfl, hy⟩ := hy
    have := hy vs (f.mono l.1).sq
    rw [h2] at this
    cases this
    exact ⟨Sm.refl, d, h1, h3.mono l.1 ow⟩
theorem walkL {K : Frag} (ow : OwnOut M H) {a : Addr} {vs : List V} {ds : List D} (f : ∀ (M' : Addr → Prop) (H' : Hp), Lt k ρ M H M' H' → H' a = some (.lst vs)) (t : RVs P M H ds vs) : WalkD P k ρ M H (Itl K a) ds := by
  refine ⟨fun i M' H' l hi => ?_, fun M' H' l => ?_, fun i M' H' x H'' l hr hi hy => ?_⟩
  · obtain ⟨d, v, h1, h2, h3⟩ := t.at2 hi
    exact ⟨vs, v, SqL.of (f M' H' l), h2⟩
  · exact ⟨vs, SqL.of (f M' H' l), by rw [t.length]; exact Nat.le_refl _⟩
  · obtain ⟨d, v, h1, h2, h3⟩ := t.at2 hi
    obtain ⟨rfl, hy⟩ := hy
    have := hy vs (SqL.of (f _ _ l))
    rw [h2] at this
    cases this
    exact ⟨Sm.refl, d, h1, h3.mono l.1 ow⟩
theorem walkS {x : List Nat} : WalkD P k ρ M H (Its (sV x)) (x.map fun c => D.str [c]) := by
  have hs : (sV x).cps.size = x.length := by simp [sV]
  refine ⟨fun i M' H' l hi => ?_, fun M' H' l => ?_, fun i M' H' v H'' l hr hi hy => ?_⟩
  · show i < (sV x).cps.size
    rw [hs]; simpa using hi
  · show (sV x).cps.size ≤ _
    rw [hs]; simp
  · obtain ⟨rfl, c, hc, rfl⟩ := hy
    refine ⟨Sm.refl, .str [c], ?_, ?_⟩
    · have hx : x[i]? = some c := by simpa [sV] using hc
      rw [List.getElem?_map, hx]
      rfl
    · exact .str [c]
theorem rngFrom_get : ∀ (n i : Nat) (a : Int), i < n → (rngFrom a n)[i]? = some (.int (a + i))
  | 0, i, a, h => by omega
  | n + 1, 0, a, h => by simp [rngFrom]
  | n + 1, i + 1, a, h => by
    rw [rngFrom, List.getElem?_cons_succ, rngFrom_get n i (a + 1) (by omega)]
    congr 2
    push_cast
    omega
theorem rngFrom_len : ∀ (n : Nat) (a : Int), (rngFrom a n).length = n
  | 0, _ => rfl
  | n + 1, a => by rw [rngFrom, List.length_cons, rngFrom_len n]
theorem walkR {lo : Int} {n : Nat} : WalkD P k ρ M H (Itr lo n) (rngFrom lo n) := by
  refine ⟨fun i M' H' l hi => ?_, fun M' H' l => ?_, fun i M' H' x H'' l hr hi hy => ?_⟩
  · rw [rngFrom_len] at hi; exact hi
  · rw [rngFrom_len]; exact Nat.le_refl _
  · rw [rngFrom_len] at hi
    obtain ⟨rfl, rfl⟩ := hy
    exact ⟨Sm.refl, _, rngFrom_get n i lo hi, .int _⟩
theorem rng_ok {a : Int} (h : rngOk a = true) : -(2 ^ 62) ≤ a ∧ a < 2 ^ 62 := by
  simp only [rngOk, Bool.and_eq_true, decide_eq_true_eq] at h
  have : (2 : Int) ^ 62 = 4611686018427387904 := by decide
  omega
theorem zipD_get : ∀ (xs ys : List D) (i : Nat), i < (zipD xs ys).length → ∃ x y, xs[i]? = some x ∧ ys[i]? = some y ∧ (zipD xs ys)[i]? = some (.tup [x, y])
  | [], _, i, h => by simp [zipD] at h
  | _ :: _, [], i, h => by simp [zipD] at h
  | x :: xs, y :: ys, 0, h => ⟨x, y, rfl, rfl, rfl⟩
  | x :: xs, y :: ys, i + 1, h => by
    obtain ⟨a, b, h1, h2, h3⟩ := zipD_get xs ys i (by simpa [zipD] using h)
    exact ⟨a, b, by simpa using h1, by simpa using h2, by simpa [zipD] using h3⟩
theorem zipD_len : ∀ xs ys : List D, (zipD xs ys).length = min xs.length ys.length
  | [], ys => by simp [zipD]
  | _ :: _, [] => by simp [zipD]
  | x :: xs, y :: ys => by
    rw [zipD, List.length_cons, zipD_len xs ys, List.length_cons, List.length_cons]
    omega
theorem walkZT {K : Frag} (hK : K = P.K) (ow : OwnOut M H) {a b : Addr} {vs ws : List V} {ds es : List D} (f : FzT P.K M H a vs) (t : RVs P M H ds vs) (g : FzT P.K M H b ws) (u : RVs P M H es ws) : WalkD P k ρ M H (RZ.ItzT K a b) (zipD ds es) := by
  subst hK
  refine ⟨fun i M' H' l hi => ?_, fun M' H' l => ?_, fun i M' H' x H'' l hr hi hy => ?_⟩
  · obtain ⟨d, e, h1, h2, h3⟩ := zipD_get ds es i hi
    obtain ⟨v, v1, v2⟩ := t.get h1
    obtain ⟨w, w1, w2⟩ := u.get h2
    exact ⟨vs, ws, v, w, (f.mono l.1).sq, (g.mono l.1).sq, v1, w1⟩
  · refine ⟨vs, ws, (f.mono l.1).sq, (g.mono l.1).sq, ?_⟩
    rw [zipD_len, ← t.length, ← u.length]
    omega
  · obtain ⟨d, e, h1, h2, h3⟩ := zipD_get ds es i hi
    obtain ⟨v, v1, v2⟩ := t.get h1
    obtain ⟨w, w1, w2⟩ := u.get h2
    obtain ⟨T, x', y', rfl, hT, rfl, q1, q2⟩ := hy
    have q1 := q1 vs (f.mono l.1).sq
    have q2 := q2 ws (g.mono l.1).sq
    rw [v1] at q1
    rw [w1] at q2
    cases q1
    cases q2
    exact ⟨Sm.new hT, _, h3, RV.newT hr hT (.cons (v2.mono l.1 ow) (.cons (w2.mono l.1 ow) .nil))⟩
theorem walkZL {K : Frag} (ow : OwnOut M H) {a b : Addr} {vs ws : List V} {ds es : List D} (f : FzL M H a vs) (t : RVs P M H ds vs) (g : FzL M H b ws) (u : RVs P M H es ws) : WalkD P k ρ M H (Itz K a b) (zipD ds es) := by
  have mo : ∀ {c : Addr} {xs : List V} {M' : Addr → Prop} {H' : Hp}, FzL M H c xs → Stp M H M' H' → SqL K H' c xs := fun f s => SqL.of (s.keep _ _ f.1 f.2)
  refine ⟨fun i M' H' l hi => ?_, fun M' H' l => ?_, fun i M' H' x H'' l hr hi hy => ?_⟩
  · obtain ⟨d, e, h1, h2, h3⟩ := zipD_get ds es i hi
    obtain ⟨v, v1, v2⟩ := t.get h1
    obtain ⟨w, w1, w2⟩ := u.get h2
    exact ⟨vs, ws, v, w, mo f l.1, mo g l.1, v1, w1⟩
  · refine ⟨vs, ws, mo f l.1, mo g l.1, ?_⟩
    rw [zipD_len, ← t.length, ← u.length]
    omega
  · obtain ⟨d, e, h1, h2, h3⟩ := zipD_get ds es i hi
    obtain ⟨v, v1, v2⟩ := t.get h1
    obtain ⟨w, w1, w2⟩ := u.get h2
    obtain ⟨T, x', y', rfl, hT, rfl, q1, q2⟩ := hy
    have q1 := q1 vs (mo f l.1)
    have q2 := q2 ws (mo g l.1)
    rw [v1] at q1
    rw [w1] at q2
    cases q1
    cases q2
    exact ⟨Sm.new hT, _, h3, RV.newT hr hT (.cons (v2.mono l.1 ow) (.cons (w2.mono l.1 ow) .nil))⟩
theorem red_zip {K : Frag} (hK : K = P.K) {ea eb : Env → Store → Res D} {R : It → Hp → Prop} (h : tI P W 0 (fun e s => (ea e s).bind fun x s => (eb e s).bind fun y s => .of (zipOf x y) s) σ H R) : RZ.iZipA K (tCons (tE P W 0 ea) (tCons (tE P W 0 eb) tNil)) σ H R := by
  obtain ⟨Z, ρ, e, s, R0, h⟩ := h
  refine ⟨Z, ρ, e, s, R0, (Post.bind h).imp fun x s1 ρ1 H1 X1 R1 h v hv => ?_⟩
  refine ⟨Z, ρ1, e, s1, R1, (Post.bind h).imp fun y s2 ρ2 H2 X2 R2 h u hu => ?_⟩
  obtain ⟨xs, hxs, q⟩ := Post.of h
  have hv := RV.mono X2.mu R1.rs.out hv
  unfold zipOf at hxs
  split at hxs
  · cases hxs
    obtain ⟨a, vs, rfl, f, t⟩ := r_tup hv
    obtain ⟨b, ws, rfl, g, u⟩ := r_tup hu
    exact ⟨a, b, vs, ws, rfl, .inr ⟨by rw [hK]; exact f.sq, by rw [hK]; exact g.sq, q ρ2 H2 Ex.refl R2 _ (walkZT hK R2.rs.out f t g u)⟩⟩
  · cases hxs
    cases hv with
    | lst f t =>
      cases hu with
      | lst g u => exact ⟨_, _, _, _, rfl, .inl ⟨f.sq, g.sq, q ρ2 H2 Ex.refl R2 _ (walkZL R2.rs.out f t g u)⟩⟩
  · cases hxs
/-- over data -/
theorem red_of {K : Frag} (hK : K = P.K) {ev : Env → Store → Res D} (hk : k ≤ 1) {R : It → Hp → Prop} (h : tI P W k (fun e s => (ev e s).bind fun x s => .of (itemsOf x) s) σ H R) :
    iTup K (tE P W k ev) σ H R ∨ iList K (tE P W k ev) σ H R ∨ iStr (tE P W k ev) σ H R := by
  obtain ⟨Z, ρ, e, s, R0, h⟩ := h
  have h := Post.bind h
  cases hev : ev e s with
  | ok d s1 =>
    rw [hev] at h
    have go : ∀ {Q : V → Hp → Prop}, (∀ xs, itemsOf d = some xs → ∀ ρ1 H1 v, OwnOut (Mu Z ρ1 σ e) H1 → Vp k P (Mu Z ρ1 σ e) ρ1 H1 d v → (∀ J, WalkD P k ρ1 (Mu Z ρ1 σ e) H1 J xs → R J H1) → Q v H1) → tE P W k ev σ H Q := fun {Q} f => by
      refine ⟨Z, ρ, e, s, R0, ?_⟩
      rw [hev]
      intro ρ1 H1 X1 R1 v hv
      obtain ⟨xs, hxs, q⟩ := Post.of (h ρ1 H1 X1 R1)
      exact f xs hxs ρ1 H1 v R1.rs.out hv (q ρ1 H1 Ex.refl R1)
    cases d with
    | tup ds =>
      refine .inl (go fun xs hxs ρ1 H1 v ow hv q => ?_)
      cases hxs
      match k, hk, hv with
      | 0, _, hv =>
        obtain ⟨a, vs, rfl, f, t⟩ := r_tup hv
        exact ⟨a, rfl, ⟨vs, by rw [hK]; exact f.sq⟩, q _ (walkT hK ow f t)⟩
      | 1, _, hv => cases hv
    | lst ds =>
      refine .inr (.inl (go fun xs hxs ρ1 H1 v ow hv q => ?_))
      cases hxs
      match k, hk, hv with
      | 0, _, hv =>
        cases hv with
        | lst f t => exact ⟨_, rfl, ⟨_, f.sq⟩, q _ (walkL ow (fun M' H' l => (f.mono l.1).1) t)⟩
      | 1, _, hv =>
        cases hv with
        | lst f n t => exact ⟨_, rfl, ⟨_, SqL.of f⟩, q _ (walkL ow (fun M' H' l => l.2 rfl _ _ f n) t)⟩
    | str x =>
      refine .inr (.inr (go fun xs hxs ρ1 H1 v ow hv q => ?_))
      cases hxs
      match k, hk, hv with
      | 0, _, hv => cases hv; exact ⟨_, rfl, q _ walkS⟩
      | 1, _, hv => cases hv
    | _ =>
      refine .inl (go fun xs hxs ρ1 H1 v ow hv q => ?_)
      cases hxs
  | exc c s1 =>
    rw [hev] at h
    exact .inl ⟨Z, ρ, e, s, R0, by rw [hev]; exact h⟩
  | stuck => rw [hev] at h; exact h.elim
end
end Nt
set_option Elab.async false
set_option linter.all false
set_option maxRecDepth 100000
set_option maxHeartbeats 2000000
set_option autoImplicit false
/-! E3b: zip of three tuples -/
namespace Nt
open PySem PySem.Spec PyProof.Rows L2
def Itz3 (K : Frag) (a b c : Addr) : It :=
  ⟨fun i H => ∃ (xs ys zs : List V) (x y z : V), SqT K H a xs ∧ SqT K H b ys ∧ SqT K H c zs ∧ xs[i]? = some x ∧ ys[i]? = some y ∧ zs[i]? = some z,
    fun i H v H' => ∃ T x y z, v = .ref T ∧ H T = none ∧ H' = upd H T (.tup [x, y, z]) ∧ (∀ xs, SqT K H a xs → xs[i]? = some x) ∧ (∀ ys, SqT K H b ys → ys[i]? = some y) ∧ ∀ zs, SqT K H c zs → zs[i]? = some z,
    fun i H => ∃ xs ys zs : List V, SqT K H a xs ∧ SqT K H b ys ∧ SqT K H c zs ∧ i ≤ xs.length ∧ i ≤ ys.length ∧ i ≤ zs.length ∧ (i = xs.length ∨ i = ys.length ∨ i = zs.length)⟩
/-- the cells: iterators 0 1 2, tuples 3 4, the zip 5 -/
theorem sep3 {n a b c : Addr} (ha : a < n) (hb : b < n) (hc : c < n) : ZipSep3 (n + 5) (n + 3) (n + 4) n (n + 1) (n + 2) [n, a] [n + 1, b] [n + 2, c] := by
  have q : ∀ {x y z : Addr}, x ≠ y → x ≠ z → x ∉ [y, z] := fun h1 h2 h => by
    rcases (by simpa using h : _ = _ ∨ _ = _) with e | e
    · exact h1 e
    · exact h2 e
  have w : ∀ (i : Nat) {a : Addr}, a < n → n + i ≠ a := fun i a h e => by
    subst e; exact absurd h (Nat.not_lt.mpr (Nat.le_add_right n i))
  have z : ∀ {a : Addr}, a < n → n ≠ a := fun h e => by subst e; exact absurd h (Nat.lt_irrefl _)
  have u : ∀ (i j : Nat), i ≠ j → n + i ≠ n + j := fun i j h e => h (Nat.add_left_cancel e)
  have u0 : ∀ (i : Nat), i ≠ 0 → n + i ≠ n := fun i h e => h (Nat.add_left_cancel (n := n) (m := i) (k := 0) e)
  exact ⟨u _ _ (by decide), u _ _ (by decide), u _ _ (by decide), u0 _ (by decide), by simp, q (u0 _ (by decide)) (w _ ha), q (u0 _ (by decide)) (w _ ha),
    u _ _ (by decide), by simp, q (u _ _ (by decide)) (w _ hb), q (u _ _ (by decide)) (w _ hb),
    u _ _ (by decide), by simp, q (u _ _ (by decide)) (w _ hc), q (u _ _ (by decide)) (w _ hc),
    q (u0 _ (by decide)).symm (z hb), q (u0 _ (by decide)).symm (z hc), q (u0 _ (by decide)) (w _ ha), q (u _ _ (by decide)) (w _ hc), q (u0 _ (by decide)) (w _ ha), q (u _ _ (by decide)) (w _ hb)⟩
theorem turn_zip3 {P : Program} {w : World} {K : Frag} {elts : List Expr} {kk : Nat} {tpos : Pos} {a b c z TI TO i1 i2 i3 : Addr} (S : ZipSep3 z TI TO i1 i2 i3 [i1, a] [i2, b] [i3, c]) (n1 : a ≠ i1) (n2 : b ≠ i2) (n3 : c ≠ i3) :
    Turn P w K (.Tuple elts kk tpos) (Itz3 K a b c) [z, TI, TO, i1, i2, i3] z (fun i h => IsZip h z TI TO .none ∧ IsTupOf3 h TI (.ref i1) (.ref i2) (.ref i3) ∧ (∃ x y w, IsTupOf3 h TO x y w) ∧ h.IsTupleIter i1 a i ∧ h.IsTupleIter i2 b i ∧ h.IsTupleIter i3 c i) where
  mem := by simp
  obj := fun i h st d hd => by
    obtain ⟨hz, hTI, ⟨x, y, u, hTO⟩, ⟨o1, e1, _, d1⟩, ⟨o2, e2, _, d2⟩, ⟨o3, e3, _, d3⟩⟩ := st
    have e' : d = z ∨ d = TI ∨ d = TO ∨ d = i1 ∨ d = i2 ∨ d = i3 := by simpa using hd
    rcases e' with q | q | q | q | q | q
    · rw [q]; exact ⟨_, hz, fun v q => nomatch q⟩
    · rw [q]; exact ⟨_, hTI, fun v q => nomatch q⟩
    · rw [q]; exact ⟨_, hTO, fun v q => nomatch q⟩
    · rw [q]; exact ⟨o1, e1, fun v q => by rw [d1] at q; cases q⟩
    · rw [q]; exact ⟨o2, e2, fun v q => by rw [d2] at q; cases q⟩
    · rw [q]; exact ⟨o3, e3, fun v q => by rw [d3] at q; cases q⟩
  keep := fun i h h' st k => by
    obtain ⟨hz, hTI, ⟨x, y, u, hTO⟩, h1, h2, h3⟩ := st
    exact ⟨k z (by simp) _ hz, k TI (by simp) _ hTI, ⟨x, y, u, k TO (by simp) _ hTO⟩, h1.at fun o q => k i1 (by simp) o q, h2.at fun o q => k i2 (by simp) o q, h3.at fun o q => k i3 (by simp) o q⟩
  item := by
    intro X hP hw hK hc i pins s σ H E I hf st hg
    subst hP hw hK
    obtain ⟨hz, hTI, ⟨x0, y0, u0, hTO⟩, h1, h2, h3⟩ := st
    obtain ⟨xs, ys, zs, x, y, v, hqx, hqy, hqz, hx, hy, hv⟩ := hg
    obtain ⟨its, rv, p, _⟩ := I.tuple hqx
    obtain ⟨its2, rv2, p2, _⟩ := I.tuple hqy
    obtain ⟨its3, rv3, p3, _⟩ := I.tuple hqz
    obtain ⟨u, hu, ru⟩ := rv.get hx
    obtain ⟨u2, hu2, ru2⟩ := rv2.get hy
    obtain ⟨u3, hu3, ru3⟩ := rv3.get hv
    have p : s.heap.IsTuple a its.toArray := p
    have p2 : s.heap.IsTuple b its2.toArray := p2
    have p3 : s.heap.IsTuple c its3.toArray := p3
    have hzl : z < s.heap.objs.size := Heap.lt_size hz
    have lt : ∀ {l : List Value} {u : Value}, l[i]? = some u → i < l.toArray.size := fun h => by simpa using (List.getElem?_eq_some_iff.mp h).1
    refine wpAny_pyNext_zipD3_item S (Draws.tuple (A := X.A.in1) (I.ok.hd hc) i1 a n1 its.toArray) (Draws.tuple (A := X.A.in1) (I.ok.hd hc) i2 b n2 its2.toArray) (Draws.tuple (A := X.A.in1) (I.ok.hd hc) i3 c n3 its3.toArray) hz hTI hTO ⟨h1, p⟩ ⟨h2, p2⟩ ⟨h3, p3⟩ (lt hu) (lt hu2) (lt hu3)
      fun y1 y2 y3 h' tk g1 g2 g3 z' TO' st1 st2 st3 hT hsz hk => ?_
    have ev : y1 = u ∧ y2 = u2 ∧ y3 = u3 := by
      refine ⟨?_, ?_, ?_⟩
      · have : its.toArray[i]? = some u := by simpa using hu
        rw [this] at g1; cases g1; rfl
      · have : its2.toArray[i]? = some u2 := by simpa using hu2
        rw [this] at g2; cases g2; rfl
      · have : its3.toArray[i]? = some u3 := by simpa using hu3
        rw [this] at g3; cases g3; rfl
    obtain ⟨rfl, rfl, rfl⟩ := ev
    refine ⟨_, rfl, wpAny_letOwnedTupleGo_zip (s := { s with heap := h', toks := tk }) z' fun h'' z'' sb => ?_⟩
    have hT2 : h''.get? s.heap.objs.size = some { cls := .type "tuple", data := .seq #[y1, y2, y3] } := (sb.2 _ (Nat.ne_of_gt hzl)).trans hT
    have new : ObjOk X.prog X.w (upd H s.heap.objs.size (.tup [x, y, v])) h'' s.heap.objs.size (.tup [x, y, v]) :=
      ⟨by show 3 ≤ sizeLine; decide, [y1, y2, y3], .cons ru (.cons ru2 (.cons ru3 .nil)), ⟨_, hT2, rfl, _, rfl⟩⟩
    have I1 : Inv X pins σ (upd H s.heap.objs.size (.tup [x, y, v])) { s with heap := h'', toks := tk } :=
      I.turnedNew (ch := [z, TI, TO, i1, i2, i3]) (fun c o hb q => (sb.2 c (fun q' => hb (by simp [q']))).trans (hk c o (fun q' => hb (by simp [q'])) (fun q' => hb (by simp [q'])) (fun q' => hb (by simp [q'])) (fun q' => hb (by simp [q'])) (fun q' => hb (by simp [q'])) q)) hf (Nat.le_refl _) new
    have hzi : ∀ {j : Addr}, z ≠ j → j ≠ z := fun h => Ne.symm h
    refine ⟨.ref s.heap.objs.size, _, I1, rfl, ⟨_, x, y, v, rfl, I.hok.fresh (Nat.le_refl _), rfl, fun l hl => by rw [I.tuple_inj hl hqx]; exact hx, fun l hl => by rw [I.tuple_inj hl hqy]; exact hy, fun l hl => by rw [I.tuple_inj hl hqz]; exact hv⟩, ⟨z'', ?_, ⟨y1, y2, y3, ?_⟩, ?_, ?_, ?_⟩, fun c hcm => ?_⟩
    · exact (sb.2 _ S.TIz).trans (hk _ _ S.TIz S.TITO S.TIi1 S.TIi2 S.TIi3 hTI)
    · exact (sb.2 _ S.TOz).trans TO'
    · exact st1.1.at fun o q => (sb.2 _ S.zi1.symm).trans q
    · exact st2.1.at fun o q => (sb.2 _ S.zi2.symm).trans q
    · exact st3.1.at fun o q => (sb.2 _ S.zi3.symm).trans q
    · have hlt : c < s.heap.objs.size := by
        have e' : c = z ∨ c = TI ∨ c = TO ∨ c = i1 ∨ c = i2 ∨ c = i3 := by simpa using hcm
        rcases e' with q | q | q | q | q | q
        · rw [q]; exact hzl
        · rw [q]; exact Heap.lt_size hTI
        · rw [q]; exact Heap.lt_size hTO
        · rw [q]; obtain ⟨_, e1, _⟩ := h1; exact Heap.lt_size e1
        · rw [q]; obtain ⟨_, e2, _⟩ := h2; exact Heap.lt_size e2
        · rw [q]; obtain ⟨_, e3, _⟩ := h3; exact Heap.lt_size e3
      rw [upd_ne (Nat.ne_of_lt hlt)]
      exact (hf c hcm).1
  done := by
    intro X hP hw hK hc i pins s σ H E I hf st hg
    subst hP hw hK
    obtain ⟨hz, hTI, ⟨x0, y0, u0, hTO⟩, h1, h2, h3⟩ := st
    obtain ⟨xs, ys, zs, hqx, hqy, hqz, l1, l2, l3, hend⟩ := hg
    obtain ⟨its, rv, p, _⟩ := I.tuple hqx
    obtain ⟨its2, rv2, p2, _⟩ := I.tuple hqy
    obtain ⟨its3, rv3, p3, _⟩ := I.tuple hqz
    have p : s.heap.IsTuple a its.toArray := p
    have p2 : s.heap.IsTuple b its2.toArray := p2
    have p3 : s.heap.IsTuple c its3.toArray := p3
    have m1 : its.toArray.size = xs.length := by rw [List.size_toArray, ← rv.length]
    have m2 : its2.toArray.size = ys.length := by rw [List.size_toArray, ← rv2.length]
    have m3 : its3.toArray.size = zs.length := by rw [List.size_toArray, ← rv3.length]
    exact wpAny_pyNext_zipD3_end S (Draws.tuple (A := X.A.in1) (I.ok.hd hc) i1 a n1 its.toArray) (Draws.tuple (A := X.A.in1) (I.ok.hd hc) i2 b n2 its2.toArray) (Draws.tuple (A := X.A.in1) (I.ok.hd hc) i3 c n3 its3.toArray) hz hTI hTO ⟨h1, p⟩ ⟨h2, p2⟩ ⟨h3, p3⟩ (by omega) (by omega) (by omega) (by omega)
      fun h' tk hk => ⟨rfl, I.turnedL (t' := tk) (ch := [z, TI, TO, i1, i2, i3]) (fun c o hb q =>
      hk c o (fun q' => hb (by simp [q'])) (fun q' => hb (by simp [q'])) (fun q' => hb (by simp [q'])) (fun q' => hb (by simp [q'])) (fun q' => hb (by simp [q'])) q) hf⟩
  self := fun A i s Q E st h => wpAny_pyIter_zip st.1 h
def iZip3 (K : Frag) (ta : TA) : TI := fun σ H R => ta σ H fun vs H1 => ∃ a b c xs ys zs, vs = [.ref a, .ref b, .ref c] ∧ SqT K H1 a xs ∧ SqT K H1 b ys ∧ SqT K H1 c zs ∧ R (Itz3 K a b c) H1
theorem pi_zip3 {X : Cx} {e e2 e3 : Expr} {ta : TA} {p pos tpos : Pos} {elts : List Expr} {kk : Nat} (hg : Gl X "zip") (hm : X.mg "zip" = none) (ha : L2.PA X [e, e2, e3] ta)
    (hs : starEach [e, e2, e3] X.env = (false, eval e X.env) :: starEach [e2, e3] X.env := by rfl) (hpl : (backTo pos (starEach [e2, e3] X.env)).any (·.1) = false := by rfl) :
    L2.PI X (.Tuple elts kk tpos) (.Call (.Name "zip" p) [e, e2, e3] [] pos) (iZip3 X.K ta) := by
  refine ⟨fun pins s σ H R I h => ?_⟩
  refine Call_ (ld_blt I hg hm PyProof.Rows.boot_zip (PyProof.Rows.callWith_type1 (thn (ha.run pos pins s σ H _ I h) fun us s1 ⟨vs, H1, I1, r1, q1⟩ => ?_) hs hpl))
  obtain ⟨a, b, c, xs, ys, zs, ex, hqx, hqy, hqz, q⟩ := q1
  subst ex
  cases r1 with
  | cons r rr =>
    cases rr with
    | cons r' rr =>
      cases rr with
      | cons r'' rr =>
        cases rr
        cases r
        cases r'
        cases r''
        obtain ⟨its, rv, p1, _⟩ := I1.tuple hqx
        obtain ⟨its2, rv2, p2, _⟩ := I1.tuple hqy
        obtain ⟨its3, rv3, p3, _⟩ := I1.tuple hqz
        have p1 : s1.heap.IsTuple a its.toArray := p1
        have p2 : s1.heap.IsTuple b its2.toArray := p2
        have p3 : s1.heap.IsTuple c its3.toArray := p3
        have la : a < s1.heap.objs.size := by obtain ⟨o, ho, _⟩ := id p1; exact Heap.lt_size ho
        have lb : b < s1.heap.objs.size := by obtain ⟨o, ho, _⟩ := id p2; exact Heap.lt_size ho
        have lc : c < s1.heap.objs.size := by obtain ⟨o, ho, _⟩ := id p3; exact Heap.lt_size ho
        refine zip_begins3 (begins_tuple a its.toArray) (begins_tuple b its2.toArray) (begins_tuple c its3.toArray) p1 p2 p3 fun h' hz hTI hTO h1 h2 h3 hsz hk => wpAny_pyIter_zip hz ?_
        have I2 : Inv X pins σ H1 { s1 with heap := h' } := I1.kept (t' := s1.toks) hk
        refine ⟨s1.heap.objs.size + 5, [s1.heap.objs.size + 5, s1.heap.objs.size + 3, s1.heap.objs.size + 4, s1.heap.objs.size, s1.heap.objs.size + 1, s1.heap.objs.size + 2], _, _, H1, rfl, I2, turn_zip3 (sep3 la lb lc) (Nat.ne_of_lt la) (Nat.ne_of_lt (Nat.lt_of_lt_of_le lb (Nat.le_add_right _ _))) (Nat.ne_of_lt (Nat.lt_of_lt_of_le lc (Nat.le_add_right _ _))),
          ⟨hz, hTI, ⟨_, _, _, hTO⟩, ⟨_, h1, rfl, rfl⟩, ⟨_, h2, rfl, rfl⟩, ⟨_, h3, rfl, rfl⟩⟩, fun d hd => ?_, q⟩
        have e' : d = s1.heap.objs.size + 5 ∨ d = s1.heap.objs.size + 3 ∨ d = s1.heap.objs.size + 4 ∨ d = s1.heap.objs.size ∨ d = s1.heap.objs.size + 1 ∨ d = s1.heap.objs.size + 2 := by simpa using hd
        have hle : s1.heap.objs.size ≤ d := by
          rcases e' with z | z | z | z | z | z <;> rw [z]
          · exact Nat.le_add_right _ _
          · exact Nat.le_add_right _ _
          · exact Nat.le_add_right _ _
          · exact Nat.le_refl _
          · exact Nat.le_add_right _ _
          · exact Nat.le_add_right _ _
        exact I1.fpOk hle (I1.hok.fresh hle)
section
variable {P : Pm} {M : Addr → Prop} {ρ : List (List Addr)} {H : Hp} {σ : L2.St} {k : Nat} {W : WX}
theorem zip3D_get : ∀ (xs ys zs : List D) (i : Nat), i < (zip3D xs ys zs).length → ∃ x y z, xs[i]? = some x ∧ ys[i]? = some y ∧ zs[i]? = some z ∧ (zip3D xs ys zs)[i]? = some (.tup [x, y, z])
  | [], _, _, i, h => by simp [zip3D] at h
  | _ :: _, [], _, i, h => by simp [zip3D] at h
  | _ :: _, _ :: _, [], i, h => by simp [zip3D] at h
  | x :: xs, y :: ys, z :: zs, 0, h => ⟨x, y, z, rfl, rfl, rfl, rfl⟩
  | x :: xs, y :: ys, z :: zs, i + 1, h => by
    obtain ⟨a, b, c, h1, h2, h3, h4⟩ := zip3D_get xs ys zs i (by simpa [zip3D] using h)
    exact ⟨a, b, c, by simpa using h1, by simpa using h2, by simpa using h3, by simpa [zip3D] using h4⟩
theorem zip3D_len : ∀ xs ys zs : List D, (zip3D xs ys zs).length = min (min xs.length ys.length) zs.length
  | [], ys, zs => by simp [zip3D]
  | _ :: _, [], zs => by simp [zip3D]
  | _ :: _, _ :: _, [] => by simp [zip3D]
  | x :: xs, y :: ys, z :: zs => by
    rw [zip3D, List.length_cons, zip3D_len xs ys zs, List.length_cons, List.length_cons, List.length_cons]
    omega
theorem walkZ3 {K : Frag} (hK : K = P.K) (ow : OwnOut M H) {a b c : Addr} {vs ws us : List V} {ds es fs : List D} (f : FzT P.K M H a vs) (t : RVs P M H ds vs) (g : FzT P.K M H b ws) (u : RVs P M H es ws) (h : FzT P.K M H c us) (r : RVs P M H fs us) : WalkD P k ρ M H (Itz3 K a b c) (zip3D ds es fs) := by
  subst hK
  have e1 := t.length
  have e2 := u.length
  have e3 := r.length
  have e4 := zip3D_len ds es fs
  refine ⟨fun i M' H' l hi => ?_, fun M' H' l => ?_, fun i M' H' x H'' l hr hi hy => ?_⟩
  · obtain ⟨d, e, f', h1, h2, h3, h4⟩ := zip3D_get ds es fs i hi
    obtain ⟨v, v1, v2⟩ := t.get h1
    obtain ⟨w, w1, w2⟩ := u.get h2
    obtain ⟨y, y1, y2⟩ := r.get h3
    exact ⟨vs, ws, us, v, w, y, (f.mono l.1).sq, (g.mono l.1).sq, (h.mono l.1).sq, v1, w1, y1⟩
  · refine ⟨vs, ws, us, (f.mono l.1).sq, (g.mono l.1).sq, (h.mono l.1).sq, by omega, by omega, by omega, by omega⟩
  · obtain ⟨d, e, f', h1, h2, h3, h4⟩ := zip3D_get ds es fs i hi
    obtain ⟨v, v1, v2⟩ := t.get h1
    obtain ⟨w, w1, w2⟩ := u.get h2
    obtain ⟨y, y1, y2⟩ := r.get h3
    obtain ⟨T, x', y', z', rfl, hT, rfl, q1, q2, q3⟩ := hy
    have q1 := q1 vs (f.mono l.1).sq
    have q2 := q2 ws (g.mono l.1).sq
    have q3 := q3 us (h.mono l.1).sq
    rw [v1] at q1
    rw [w1] at q2
    rw [y1] at q3
    cases q1
    cases q2
    cases q3
    exact ⟨Sm.new hT, _, h4, RV.newT hr hT (.cons (v2.mono l.1 ow) (.cons (w2.mono l.1 ow) (.cons (y2.mono l.1 ow) .nil)))⟩
theorem red_zip3 {K : Frag} (hK : K = P.K) {ea eb ec : Env → Store → Res D} {R : It → Hp → Prop} (h : tI P W 0 (fun e s => (ea e s).bind fun x s => (eb e s).bind fun y s => (ec e s).bind fun z s => .of (zip3T x y z) s) σ H R) : iZip3 K (tCons (tE P W 0 ea) (tCons (tE P W 0 eb) (tCons (tE P W 0 ec) tNil))) σ H R := by
  obtain ⟨Z, ρ, e, s, R0, h⟩ := h
  refine ⟨Z, ρ, e, s, R0, (Post.bind h).imp fun x s1 ρ1 H1 X1 R1 h v hv => ?_⟩
  refine ⟨Z, ρ1, e, s1, R1, (Post.bind h).imp fun y s2 ρ2 H2 X2 R2 h u hu => ?_⟩
  refine ⟨Z, ρ2, e, s2, R2, (Post.bind h).imp fun z s3 ρ3 H3 X3 R3 h w hw => ?_⟩
  obtain ⟨xs, hxs, q⟩ := Post.of h
  have hv := RV.mono X3.mu R2.rs.out (RV.mono X2.mu R1.rs.out hv)
  have hu := RV.mono X3.mu R2.rs.out hu
  unfold zip3T at hxs
  split at hxs
  · cases hxs
    obtain ⟨a, vs, rfl, f, t⟩ := r_tup hv
    obtain ⟨b, ws, rfl, g, u⟩ := r_tup hu
    obtain ⟨c, us, rfl, h', r⟩ := r_tup hw
    exact ⟨a, b, c, vs, ws, us, rfl, by rw [hK]; exact f.sq, by rw [hK]; exact g.sq, by rw [hK]; exact h'.sq, q ρ3 H3 Ex.refl R3 _ (walkZ3 hK R3.rs.out f t g u h' r)⟩
  · cases hxs
end
end Nt
set_option Elab.async false
set_option linter.all false
set_option maxRecDepth 100000
set_option maxHeartbeats 2000000
set_option autoImplicit false
/-! E2k: comprehensions -/
namespace Nt
open PySem PySem.Spec PyProof.Rows L2
section
variable {P : Pm} {Z Z' M : Addr → Prop} {ρ ρ' ρ1 : List (List Addr)} {H H' H1 : Hp} {σ σ' : L2.St} {e e' : Env} {s s' : Store} {k : Nat} {W : WX}
theorem wipeE_len (e : Env) : ∀ vs : List Nat, (wipeE e vs).length = e.length
  | [] => rfl
  | v :: vs => by unfold wipeE; rw [List.length_set, wipeE_len e vs]
theorem wipeE_some {e : Env} {i : Nat} {x : Slot} : ∀ {vs : List Nat}, (wipeE e vs)[i]? = some (some x) → e[i]? = some (some x) ∧ i ∉ vs
  | [], h => ⟨h, by simp⟩
  | v :: vs, h => by
    unfold wipeE at h
    rcases get_set h with ⟨rfl, e1, _⟩ | ⟨hj, h⟩
    · cases e1
    · obtain ⟨h1, h2⟩ := wipeE_some h
      exact ⟨h1, by simp only [List.mem_cons, not_or]; exact ⟨fun e => hj e.symm, h2⟩⟩
theorem wipe_some' {σ : L2.St} {i : Nat} {x : V} {vs : List Nat} (h : σ[i]? = some (some x)) (n : i ∉ vs) : (wipe σ vs)[i]? = some (some x) := by rw [wipe_out n]; exact h
theorem wipeE_out {e : Env} {i : Nat} : ∀ {vs : List Nat}, i ∉ vs → (wipeE e vs)[i]? = e[i]?
  | [], _ => rfl
  | v :: vs, h => by
    have h1 : v ≠ i := fun q => h (by rw [q]; exact List.mem_cons_self)
    unfold wipeE
    rw [List.getElem?_set_ne h1, wipeE_out fun q => h (List.mem_cons_of_mem _ q)]
theorem ow_wipe {vs : List Nat} {a : Addr} (h : Ow (wipe σ vs) (wipeE e vs) a) : Ow σ e a := by
  obtain ⟨i, o, h1, h2⟩ := h
  exact ⟨i, o, (wipeE_some h1).1, (wipe_some h2).1⟩
/-- what a block must not touch of the slots that it does not see -/
def ZB (Z : Addr → Prop) (σ : L2.St) (e : Env) (vs : List Nat) (p : Addr) : Addr → Prop := fun a => Z a ∨ a = p ∨ (Ow σ e a ∧ ¬ Ow (wipe σ vs) (wipeE e vs) a)
theorem mu_zb {vs : List Nat} {p a : Addr} : Mu (ZB Z σ e vs p) ρ (wipe σ vs) (wipeE e vs) a ↔ (Mu Z ρ σ e a ∨ a = p) := by
  constructor
  · intro h
    rcases h with h | h | h
    · rcases h with h | h | h
      · exact .inl (.inl h)
      · exact .inr h
      · exact .inl (.inr (.inr h.1))
    · exact .inl (.inr (.inl h))
    · exact .inl (.inr (.inr (ow_wipe h)))
  · intro h
    rcases h with (h | h | h) | h
    · exact .inl (.inl h)
    · exact .inr (.inl h)
    · by_cases q : Ow (wipe σ vs) (wipeE e vs) a
      · exact .inr (.inr q)
      · exact .inl (.inr (.inr ⟨h, q⟩))
    · exact .inl (.inr (.inl h))
/-- a block's state behind what happened -/
theorem Rp.blk {vs : List Nat} {p : Addr} (h : Rp P Z ρ H σ e s) (x : Ex ρ H ρ' H') (hp : H p = none) (r : Rs P (Mu (ZB Z σ e vs p) ρ' (L2.wipe σ vs) (wipeE e vs)) ρ' H' s') : Rp P (ZB Z σ e vs p) ρ' H' (L2.wipe σ vs) (wipeE e vs) s' := by
  have st : Stp (Mu Z ρ σ e) H (Mu (ZB Z σ e vs p) ρ' (L2.wipe σ vs) (wipeE e vs)) H' := ⟨fun a o q n => x.keep a o q fun m => n (.inr (.inl m)), fun a m => by
    rcases mu_zb.mp m with m | rfl
    · rcases m with m | m | m
      · exact .inl (.inl m)
      · rcases x.new a m with q | q
        · exact .inl (.inr (.inl q))
        · exact .inr q
      · exact .inl (.inr (.inr m))
    · exact .inr hp⟩
  refine ⟨r, by rw [wipeE_len, wipe_length, h.len], fun i y q => ?_, fun i j o o' a q1 q2 q3 q4 => h.apart i j o o' a (wipeE_some q1).1 (wipeE_some q2).1 (wipe_some q3).1 (wipe_some q4).1, fun a m z => ?_⟩
  · obtain ⟨q, nv⟩ := wipeE_some q
    obtain ⟨v, h1, h2⟩ := h.slot i y q
    refine ⟨v, wipe_some' h1 nv, ?_⟩
    cases h2 with
    | val h2 => exact .val (h2.mono st h.rs.out)
    | ref h2 => exact .ref (x.roots _ _ h2)
    | own h2 n =>
      refine .own (h2.keep st h.rs.out x.roots (fun a ha u hu => ?_) fun a y hy => x.keep a _ hy fun m => h.rs.out a y hy (h.rs.sub a m)) fun m => ?_
      · rcases List.mem_cons.mp ha with rfl | ha
        · exact x.keep _ _ hu n
        · cases ha
      · rcases x.new _ m with m | m
        · exact n m
        · cases h2 with
          | lst h2 => rw [h2] at m; cases m
          | dK h2 => rw [h2] at m; cases m
          | dT h2 => rw [h2] at m; cases m
          | ins h2 => rw [h2] at m; cases m
  · rcases z with z | z | z
    · exact h.oz a (ow_wipe m) z
    · obtain ⟨o, e1, e2⟩ := Hr.some h.rs.here (.inr (.inr (ow_wipe m)))
      rw [z, hp] at e1
      cases e1
    · exact z.2 m
/-- a thing of Z is written -/
theorem Rs.updZ {p : Addr} {u : HO} (h : Rs P M ρ H s) (hM : M p) (n : ¬ inR ρ p) (mu : Mut (some u)) : Rs P M ρ (upd H p u) s := by
  have ownk : ∀ b x, H b = some (.own x) → upd H p u b = some (.own x) := fun b x q => by
    have : b ≠ p := fun z => by subst z; exact h.out b x q hM
    rw [upd_ne this]; exact q
  have st : Stp M H M (upd H p u) := ⟨fun b o q m => by rw [upd_ne fun z => m (by rw [z]; exact hM)]; exact q, fun b m => .inl m⟩
  have keepCs : ∀ {s : Store} {fps : List (List Addr)}, (∀ b ∈ fps.flatten, b ≠ p) → CellsOk P M H ρ s fps → CellsOk P M (upd H p u) ρ s fps := by
    intro s fps hf c
    induction c with
    | nil => exact .nil
    | cons c t ih =>
      refine .cons (c.keep st h.out (fun _ _ r => r) (fun b hb v q => ?_) ownk) (ih fun b hb => hf b ?_)
      · rw [upd_ne (hf b (by rw [List.flatten_cons]; exact List.mem_append_left _ hb))]; exact q
      · rw [List.flatten_cons]; exact List.mem_append_right _ hb
  refine ⟨keepCs (fun b hb z => n (z ▸ hb)) h.cells, h.nd, fun b m => ?_, h.sub⟩
  by_cases hb : b = p
  · subst hb; rw [upd_same]; exact mu
  · rw [upd_ne hb]; exact h.here b m
theorem Ex.upd {p : Addr} {u : HO} (x : Ex ρ H ρ' H') (hp : H p = none) : Ex ρ H ρ' (L2.upd H' p u) := ⟨fun a o q n => by
  have : a ≠ p := fun z => by rw [z, hp] at q; cases q
  rw [upd_ne this]
  exact x.keep a o q n, x.new, x.roots⟩
theorem same_wipe {ts vs : List Nat} (h : Same ts (wipe σ vs) (wipeE e vs) σ' e') (hs : ∀ i ∈ ts, i ∈ vs) : wipe σ' vs = wipe σ vs := by
  have hl : σ'.length = σ.length := by rw [h.1, wipe_length]
  have none_in : ∀ {τ : L2.St} {i : Nat} {us : List Nat}, i ∈ us → i < τ.length → (wipe τ us)[i]? = some none := by
    intro τ i us
    induction us with
    | nil => intro h; cases h
    | cons v us ih =>
      intro hi hlt
      unfold wipe
      by_cases hv : v = i
      · subst hv
        rw [List.getElem?_set_self (by rw [wipe_length]; exact hlt)]
      · rw [List.getElem?_set_ne hv]
        rcases List.mem_cons.mp hi with q | q
        · exact absurd q.symm hv
        · exact ih q hlt
  apply List.ext_getElem?
  intro i
  by_cases hi : i ∈ vs
  · by_cases hlt : i < σ.length
    · rw [none_in hi (by rw [hl]; exact hlt), none_in hi hlt]
    · rw [List.getElem?_eq_none (by rw [wipe_length, hl]; omega), List.getElem?_eq_none (by rw [wipe_length]; omega)]
  · rw [wipe_out hi]
    exact (h.2 i fun q => hi (hs i q)).1
end
abbrev W0 : WX := fun _ _ _ _ => False
section
variable {P : Pm} {k : Nat} {W : WX} {σ : L2.St} {H : Hp} {Q : VK}
theorem red_lc {vs ts : List Nat} {ev : Env → Store → Res (List D)} {b : D → Env → Option Env} {cond : Env → Store → Res Bool} {elt : Env → Store → Res D} (hs : ∀ i ∈ ts, i ∈ vs)
    (h : tE P W 0 (fun e s => (ev e s).bind fun xs s => (lcL (fun x s => match b x (wipeE e vs) with
        | some e' => (cond e' s).bind fun c s => if c then (elt e' s).bind fun d s => .ok (some d) s else .ok none s
        | none => .stuck) xs [] s).nox.bind fun ds s => .ok (.lst ds) s) σ H Q) :
    tLc (tI P W k ev) (tG P ts b) (tT P W0 cond) (tE P W0 0 elt) vs σ H Q := by
  obtain ⟨Z, ρ, e, s, R, h⟩ := h
  refine ⟨Z, ρ, e, s, R, (Post.bind h).imp fun xs s1 ρ1 H1 X1 R1 h J wk p hp => ?_⟩
  generalize hf : (fun x s => match b x (wipeE e vs) with
        | some e' => (cond e' s).bind fun c s => if c = true then (elt e' s).bind fun d s => .ok (some d) s else .ok none s
        | none => (.stuck : Res (Option D))) = f at h
  have npR : ¬ inR ρ1 p := fun m => Hr.out R1.rs.here hp (.inr (.inl m))
  have npM : ¬ Mu Z ρ1 σ e p := Hr.out R1.rs.here hp
  refine ⟨fun i m H' => m = xs.length - i ∧ i ≤ xs.length ∧ ∃ ρ' s' acc ws, H' p = some (.lst ws) ∧ RVs P (Mu (ZB Z σ e vs p) ρ' (wipe σ vs) (wipeE e vs)) H' acc ws ∧ acc.length ≤ LIM ∧ ¬ inR ρ' p ∧ Ex ρ1 H1 ρ' H' ∧
      Rs P (Mu (ZB Z σ e vs p) ρ' (wipe σ vs) (wipeE e vs)) ρ' H' s' ∧ Post P Z ρ1 H1 σ e W ((lcL f (xs.drop i) acc s').nox.bind fun ds s => .ok (.lst ds) s) fun d _ ρ'' H'' => ∀ v, RV P (Mu Z ρ'' σ e) H'' d v → Q v H'', ?_, fun i m H' w => ?_⟩
  · refine ⟨_, rfl, Nat.zero_le _, ρ1, s1, [], [], upd_same, .nil, Nat.zero_le _, npR, Ex.refl.upd hp, ?_, h⟩
    have r0 : Rs P (Mu (ZB Z σ e vs p) ρ1 (wipe σ vs) (wipeE e vs)) ρ1 (upd H1 p (.lst [])) s1 := by
      have st : Stp (Mu Z ρ1 σ e) H1 (Mu (ZB Z σ e vs p) ρ1 (wipe σ vs) (wipeE e vs)) (upd H1 p (.lst [])) := ⟨fun a o q n => Sm.new hp a o q, fun a m => by
        rcases mu_zb.mp m with m | rfl
        · exact .inl m
        · exact .inr hp⟩
      refine ⟨R1.rs.cells.map fun c => c.keep st R1.rs.out (fun _ _ r => r) (fun a _ u q => Sm.new hp a u q) fun a x q => Sm.new hp a _ q, R1.rs.nd, fun a m => ?_, fun a m => .inr (.inl m)⟩
      rcases mu_zb.mp m with m | rfl
      · have hne : a ≠ p := fun z => npM (z ▸ m)
        rw [upd_ne hne]
        exact R1.rs.here a m
      · rw [upd_same]; trivial
    exact r0
  · obtain ⟨hm, hi, ρ', s', acc, ws, hD, hacc, hlen, npR', X, rs, post⟩ := w
    have Rin : Rp P (ZB Z σ e vs p) ρ' H' (wipe σ vs) (wipeE e vs) s' := R1.blk X hp rs
    have lt : Lt k ρ1 (Mu Z ρ1 σ e) H1 (Mu (ZB Z σ e vs p) ρ' (wipe σ vs) (wipeE e vs)) H' := ⟨⟨fun a o q n => X.keep a o q fun m => n (.inr (.inl m)), fun a m => by
      rcases mu_zb.mp m with m | rfl
      · rcases m with m | m | m
        · exact .inl (.inl m)
        · rcases X.new a m with q | q
          · exact .inl (.inr (.inl q))
          · exact .inr q
        · exact .inl (.inr (.inr m))
      · exact .inr hp⟩, fun _ a o q n => X.keep a o q n⟩
    by_cases hlt : i < xs.length
    · right
      refine ⟨wk.goes i _ _ lt hlt, _, fun H2 hn => hn, fun x H2 hy => ?_⟩
      obtain ⟨sm, d, hd, rd⟩ := wk.yields i _ _ x H2 lt rs.here hlt hy
      have hdrop : xs.drop i = d :: xs.drop (i + 1) := by
        rw [List.drop_eq_getElem_cons hlt]
        congr 1
        rw [List.getElem?_eq_getElem hlt] at hd
        cases hd
        rfl
      rw [hdrop] at post
      simp only [lcL] at post
      cases hb : b d (wipeE e vs) with
      | none =>
        have : f d s' = .stuck := by rw [← hf]; simp only [hb]
        rw [this] at post
        exact post.elim
      | some e2 =>
        have hfd : f d s' = (cond e2 s').bind fun c s => if c = true then (elt e2 s).bind fun d s => .ok (some d) s else .ok none s := by rw [← hf]; simp only [hb]
        rw [hfd] at post
        refine ⟨_, ρ', _, s', d, e2, Rin.sm sm, rd, hb, fun σ2 sm2 em2 R2 => ⟨same_wipe sm2 hs, ?_⟩⟩
        have none_in : ∀ {us : List Nat} {i : Nat} {y : Slot}, i ∈ us → (wipeE e us)[i]? = some (some y) → False := fun hi q => (wipeE_some q).2 hi
        have hOw : ∀ a, Ow σ2 e2 a ↔ Ow (wipe σ vs) (wipeE e vs) a := fun a => by
          constructor
          · intro m
            rcases em2.stp.new a (.inr m) with (q | q) | q
            · exfalso
              obtain ⟨j, o, g1, g2⟩ := m
              obtain ⟨v, g3, g4⟩ := R2.slot j _ g1
              rw [g2] at g3
              cases g3
              cases g4 with
              | own _ n => exact n q
            · exact q
            · exfalso
              obtain ⟨o, g1, _⟩ := Hr.some R2.rs.here (.inr (.inr m))
              rw [q] at g1
              cases g1
          · intro m
            obtain ⟨j, o, g1, g2⟩ := m
            have hj : j ∉ ts := fun q => none_in (hs j q) g1
            exact ⟨j, o, by rw [(sm2.2 j hj).2]; exact g1, by rw [(sm2.2 j hj).1]; exact g2⟩
        have hMI : ∀ ρx a, Mu (ZB Z σ e vs p) ρx σ2 e2 a ↔ Mu (ZB Z σ e vs p) ρx (wipe σ vs) (wipeE e vs) a := fun ρx a => by
          constructor
          · intro m
            rcases m with m | m | m
            · exact .inl m
            · exact .inr (.inl m)
            · exact .inr (.inr ((hOw a).mp m))
          · intro m
            rcases m with m | m | m
            · exact .inl m
            · exact .inr (.inl m)
            · exact .inr (.inr ((hOw a).mpr m))
        have hD2 : H2 p = some (.lst ws) := sm p _ hD
        have st3 : ∀ {ρ3 : List (List Addr)} {H3 : Hp}, Ex ρ' H2 ρ3 H3 → H3 p = some (.lst ws) ∧ ¬ inR ρ3 p ∧ Stp (Mu (ZB Z σ e vs p) ρ' (wipe σ vs) (wipeE e vs)) H' (Mu (ZB Z σ e vs p) ρ3 (wipe σ vs) (wipeE e vs)) H3 := fun {ρ3 H3} x3 =>
          ⟨x3.keep _ _ hD2 npR', (fun m => by
            rcases x3.new p m with q | q
            · exact npR' q
            · rw [hD2] at q; exact absurd q (by simp)), ((Ex.sm sm).trans x3).mu⟩
        cases hc : cond e2 s' with
        | ok c s2 =>
          rw [hc] at post
          refine ⟨_, ρ', e2, s', R2, ?_⟩
          rw [hc]
          intro ρ3 H3 X3 R3
          obtain ⟨g1, g2, g3⟩ := st3 X3
          cases c with
          | true =>
            rw [if_pos rfl]
            cases he : elt e2 s2 with
            | ok y s3 =>
              simp only [bind_ok, if_true, he] at post
              refine ⟨_, ρ3, e2, s2, R3, ?_⟩
              rw [he]
              intro ρ4 H4 X4 R4 v hv
              obtain ⟨g1, g2, g3⟩ := st3 (X3.trans X4)
              by_cases hl : acc.length < LIM
              · rw [if_pos hl] at post
                have hMp : Mu (ZB Z σ e vs p) ρ4 (wipe σ vs) (wipeE e vs) p := mu_zb.mpr (.inr rfl)
                have st5 : Stp (Mu (ZB Z σ e vs p) ρ4 (wipe σ vs) (wipeE e vs)) H4 (Mu (ZB Z σ e vs p) ρ4 (wipe σ vs) (wipeE e vs)) (upd H4 p (.lst (ws ++ [v]))) := ⟨fun b o q m => by rw [upd_ne fun z => m (by rw [z]; exact hMp)]; exact q, fun b m => .inl m⟩
                have rs4 : Rs P (Mu (ZB Z σ e vs p) ρ4 (wipe σ vs) (wipeE e vs)) ρ4 H4 s3 := R4.rs.less (fun a m => (hMI ρ4 a).mpr m) fun a m => .inr (.inl m)
                refine ⟨ws, g1, ?_, ⟨xs.length - (i + 1), by omega, rfl, by omega, ρ4, s3, acc ++ [y], ws ++ [v], upd_same, ?_, ?_, g2, ?_, rs4.updZ hMp g2 trivial, post⟩⟩
                · rw [← hacc.length]; exact Nat.lt_of_lt_of_le hl lim_line
                · have r1 : RVs P (Mu (ZB Z σ e vs p) ρ4 (wipe σ vs) (wipeE e vs)) H4 acc ws := hacc.mono g3 rs.out
                  have hv : RV P (Mu (ZB Z σ e vs p) ρ4 σ2 e2) H4 y v := hv
                  have r2 : RV P (Mu (ZB Z σ e vs p) ρ4 (wipe σ vs) (wipeE e vs)) H4 y v := hv.less fun a m => (hMI ρ4 a).mpr m
                  exact (r1.append (.cons r2 .nil)).mono st5 rs4.out
                · rw [List.length_append]; simp only [List.length_cons, List.length_nil]; omega
                · exact (X.trans ((Ex.sm sm).trans (X3.trans X4))).upd hp
              · rw [if_neg hl] at post
                exact post.elim
            | exc c s3 => simp only [bind_ok, if_true, he] at post; exact post.elim
            | stuck => simp only [bind_ok, if_true, he] at post; exact post.elim
          | false =>
            rw [if_neg Bool.false_ne_true]
            simp only [bind_ok, Bool.false_eq_true, if_false] at post
            exact ⟨xs.length - (i + 1), by omega, rfl, by omega, ρ3, s2, acc, ws, g1, hacc.mono g3 rs.out, hlen, g2, X.trans ((Ex.sm sm).trans X3), R3.rs.less (fun a m => (hMI ρ3 a).mpr m) fun a m => .inr (.inl m), post⟩
        | exc c s2 => rw [hc] at post; exact post.elim
        | stuck => rw [hc] at post; exact post.elim
    · have hil : i = xs.length := by omega
      left
      refine ⟨by rw [hil]; exact wk.stops _ _ lt, ?_⟩
      have hdrop : xs.drop i = [] := by rw [hil]; exact List.drop_length
      rw [hdrop] at post
      have post : ∀ ρ'' H'', Ex ρ1 H1 ρ'' H'' → Rp P Z ρ'' H'' σ e s' → ∀ v, RV P (Mu Z ρ'' σ e) H'' (D.lst acc) v → Q v H'' := post
      refine post ρ' H' X (R1.ex X rs fun a m => mu_zb.mpr (.inl m)) _ (.lst ⟨hD, fun m => ?_⟩ (hacc.less fun a m => mu_zb.mpr (.inl m)))
      rcases m with m | m | m
      · exact npM (.inl m)
      · exact npR' m
      · exact npM (.inr (.inr m))
end
/-! ### blocks: the context -/
theorem relS_look {scope sc : Scope} {x : Str} {k : NameKind} (h : scope.names.lookup x = some k) : ∃ k', (relS scope sc).names.lookup x = some k' ∧ (k' = k ∨ (k = .free ∧ k' = .cell)) := by
  unfold relS
  simp only
  generalize scope.names = l at h
  induction l with
  | nil => cases h
  | cons p l ih =>
    obtain ⟨y, j⟩ := p
    rw [List.lookup_cons] at h
    rw [List.map_cons]
    by_cases hy : x = y
    · subst hy
      simp only [beq_self_eq_true, Option.some.injEq] at h
      subst h
      simp only
      split
      · rename_i hc
        refine ⟨.cell, by simp, .inr ⟨?_, rfl⟩⟩
        simp only [Bool.and_eq_true] at hc
        cases j <;> first | rfl | (exact absurd hc.1.1 (by decide))
      · exact ⟨j, by simp, .inl rfl⟩
    · have hb : (x == y) = false := by simpa using hy
      rw [hb] at h
      obtain ⟨k', h1, h2⟩ := ih h
      refine ⟨k', ?_, h2⟩
      simp only
      split <;> (rw [List.lookup_cons, hb]; exact h1)
section
variable {P : Pm} {G : Glob} {C : Calls} {T : Tx} {n : Nat} {sc : Sc} {W : WX} {X : Cx}
theorem blk_ok (ok : XOk P G C T n sc W X) (scope : Scope) (hkf : scope.kind = .function) (s : Shared) (H : Hp) (Cd : Addr) (cl : List (Str × Addr)) (fp : List Addr) : XOk P G C T n scope.names W0 (X.blk s H scope (compEnvC scope cl Cd X.env) fp) where
  K := ok.K
  calm := ok.calm
  kf := hkf
  room := ok.room
  nd := ok.nd
  nm := ok.nm
  fnc := fun x h => by
    show (scope.names.lookup x == some .cell) = true
    rw [h]
    rfl
  sc := fun x k h => relS_look h
  tk := fun u s' h => by
    obtain ⟨a, B, sI, pins, σ, H, cls, d, e, I, nb, up, sky, na, os, ag, w⟩ := h
    exact w
  pass := PassesOwn.never
  kn := ok.kn
abbrev ownP (T : Tx) (own : List Nat) : List (Str × Nat) := own.map fun i => (T.names.getD i "", i)
theorem ownP_snd (T : Tx) (own : List Nat) : (ownP T own).map (·.2) = own := by
  rw [List.map_map]
  exact List.map_id' own
theorem ownP_fst (T : Tx) (own : List Nat) : (ownP T own).map (·.1) = own.map fun i => T.names.getD i "" := by
  rw [List.map_map]
  rfl
theorem blk_kf {own : List Nat} {scope : Scope} (h : chkBlk T sc own scope = true) : scope.kind = .function := by
  unfold chkBlk at h
  simp only [Bool.and_eq_true] at h
  obtain ⟨⟨⟨h1, h2⟩, h3⟩, h4⟩ := h
  revert h1
  cases scope.kind <;> first | (intro _; rfl) | (intro h; cases h)
theorem blk_of (ok : XOk P G C T n sc W X) {own : List Nat} {scope : Scope} (h : chkBlk T sc own scope = true) : BlkOk X.N X.env.scope scope (ownP T own) := by
  unfold chkBlk at h
  simp only [Bool.and_eq_true] at h
  obtain ⟨⟨⟨h1, h2⟩, h3⟩, h4⟩ := h
  refine ⟨?_, fun y hy => ?_, fun p hp => ?_, fun y hy e => ?_, fun y hy e => ?_⟩
  · revert h1
    cases scope.kind <;> first | (intro _; rfl) | (intro h; cases h)
  · exact of_decide_eq_true (List.all_eq_true.mp h2 y hy)
  · obtain ⟨i, hi, rfl⟩ := List.mem_map.mp hp
    have hl := of_decide_eq_true (List.all_eq_true.mp h3 i hi)
    rw [ok.nm]
    show T.names[i]? = some (T.names.getD i "")
    rw [List.getD_eq_getElem?_getD, List.getElem?_eq_getElem hl]
    rfl
  · have h := List.all_eq_true.mp h4 y hy
    rw [e] at h
    simp only at h
    split at h
    · rename_i q
      obtain ⟨k', g1, g2⟩ := ok.sc _ _ q
      rcases g2 with rfl | ⟨g2, _⟩
      · exact .inl g1
      · cases g2
    · rename_i q
      obtain ⟨k', g1, g2⟩ := ok.sc _ _ q
      rcases g2 with rfl | ⟨_, rfl⟩
      · exact .inr g1
      · exact .inl g1
    · cases h
  · have h := List.all_eq_true.mp h4 y hy
    rw [ownP_fst, ok.nm]
    rcases e with e | e
    · rw [e] at h
      simp only [Bool.or_eq_true, decide_eq_true_eq] at h
      exact h
    · rw [e] at h
      simp only [Bool.or_eq_true, decide_eq_true_eq] at h
      exact h
end
section
variable {P : Pm} {k : Nat} {W : WX} {σ : L2.St} {H : Hp}
theorem red_rng1 {ev : Env → Store → Res D} {R : It → Hp → Prop} (h : tI P W 0 (fun e s => (ev e s).bind fun x s => .of (rng1 x) s) σ H R) : iRng1 (tCons (tE P W 0 ev) tNil) σ H R := by
  obtain ⟨Z, ρ, e, s, R0, h⟩ := h
  refine ⟨Z, ρ, e, s, R0, (Post.bind h).imp fun x s1 ρ1 H1 X1 R1 h v hv => ?_⟩
  obtain ⟨xs, hxs, q⟩ := Post.of h
  cases x <;> simp only [rng1, reduceCtorEq] at hxs
  split at hxs
  · rename_i hb
    cases hxs
    cases hv
    exact ⟨_, rfl, (rng_ok hb).1, (rng_ok hb).2, q ρ1 H1 Ex.refl R1 _ walkR⟩
  · cases hxs
theorem red_rng2 {ea eb : Env → Store → Res D} {R : It → Hp → Prop} (h : tI P W 0 (fun e s => (ea e s).bind fun x s => (eb e s).bind fun y s => .of (rng2 x y) s) σ H R) : iRng2 (tCons (tE P W 0 ea) (tCons (tE P W 0 eb) tNil)) σ H R := by
  obtain ⟨Z, ρ, e, s, R0, h⟩ := h
  refine ⟨Z, ρ, e, s, R0, (Post.bind h).imp fun x s1 ρ1 H1 X1 R1 h v hv => ?_⟩
  refine ⟨Z, ρ1, e, s1, R1, (Post.bind h).imp fun y s2 ρ2 H2 X2 R2 h u hu => ?_⟩
  obtain ⟨xs, hxs, q⟩ := Post.of h
  cases x <;> first | (simp only [rng2, reduceCtorEq] at hxs; done) | skip
  cases y <;> simp only [rng2, reduceCtorEq] at hxs
  split at hxs
  · rename_i hb
    rw [Bool.and_eq_true] at hb
    cases hxs
    cases hv
    cases hu
    exact ⟨_, _, rfl, ⟨(rng_ok hb.1).1, (rng_ok hb.1).2, (rng_ok hb.2).1, (rng_ok hb.2).2⟩, q ρ2 H2 Ex.refl R2 _ walkR⟩
  · cases hxs
theorem PTs_imp {X : Cx} {e : List Expr} {t t' : TT} (h : PTs X e t) (f : ∀ σ H Q, t' σ H Q → t σ H Q) : PTs X e t' := ⟨fun pins s σ H Q I q => h.run pins s σ H Q I (f σ H Q q)⟩
theorem red_yes {G : Glob} {C : Calls} {Q : Bool → Hp → Prop} (h : tT P W (evT G C .yes) σ H Q) : tYes σ H Q := by
  obtain ⟨Z, ρ, e, s, R, h⟩ := h
  simp only [evT] at h
  exact h ρ H Ex.refl R
end
end Nt
set_option Elab.async false
set_option linter.all false
set_option maxRecDepth 100000
set_option maxHeartbeats 2000000
set_option autoImplicit false
/-! E3c: list(range(..)) -/
namespace Nt
open PySem PySem.Spec PyProof.Rows L2
section
variable {P : Pm} {M : Addr → Prop} {ρ : List (List Addr)} {H : Hp} {σ : L2.St} {W : WX}
theorem rvs_rng : ∀ (n : Nat) (a : Int), RVs P M H (rngFrom a n) ((List.range n).map fun i => V.int (a + (i : Nat)))
  | 0, a => .nil
  | n + 1, a => by
    rw [rngFrom, List.range_succ_eq_map, List.map_cons, List.map_map]
    have e : (List.range n).map ((fun i => V.int (a + (i : Nat))) ∘ Nat.succ) = (List.range n).map fun i => V.int (a + 1 + (i : Nat)) := by
      refine List.map_congr_left fun i _ => ?_
      show V.int (a + ((i + 1 : Nat) : Int)) = _
      congr 1
      omega
    rw [e]
    have h0 : V.int (a + ((0 : Nat) : Int)) = V.int a := by congr 1; omega
    rw [h0]
    exact .cons (.int a) (rvs_rng n (a + 1))
theorem rngL_ok {a b : Int} (h1 : rngOk a = true) (h2 : rngOk b = true) (h3 : (rngFrom a (b - a).toNat).length ≤ LIM) : RgOk a b := by
  unfold rngOk at h1 h2
  simp only [Bool.and_eq_true, decide_eq_true_eq] at h1 h2
  rw [rngFrom_len] at h3
  have : LIM = 1000000 := rfl
  refine ⟨?_, ?_, ?_, ?_, ?_⟩ <;> omega
theorem red_lrng1 {ev : Env → Store → Res D} {Q : VK} (h : tE P W 0 (fun e s => (ev e s).bind fun x s => .of (lrgD (rng1 x)) s) σ H Q) : tLstRg (tRg1 (tE P W 0 ev)) σ H Q := by
  obtain ⟨Z, ρ, e, s, R, h⟩ := h
  refine ⟨Z, ρ, e, s, R, (Post.bind h).imp fun a s1 ρ1 H1 X1 R1 h v hv => ?_⟩
  obtain ⟨d, hd, q⟩ := Post.of h
  unfold lrgD rng1 at hd
  split at hd
  · rename_i b
    cases hv
    split at hd
    · rename_i hb
      simp only [Option.bind_some] at hd
      split at hd
      · rename_i hl
        cases hd
        have e0 : b - 0 = b := by omega
        refine ⟨b, rfl, rngL_ok (by decide) hb (by rw [e0]; exact hl), fun p hp => q ρ1 _ (Ex.sm (Sm.new hp)) (R1.sm (Sm.new hp)) _ (RV.newL R1.rs.here hp ?_)⟩
        unfold rgV
        rw [e0]
        exact rvs_rng _ _
      · cases hd
    · simp at hd
  · simp at hd
theorem red_lrng2 {ea eb : Env → Store → Res D} {Q : VK} (h : tE P W 0 (fun e s => (ea e s).bind fun x s => (eb e s).bind fun y s => .of (lrgD (rng2 x y)) s) σ H Q) : tLstRg (tRg2 (tE P W 0 ea) (tE P W 0 eb)) σ H Q := by
  obtain ⟨Z, ρ, e, s, R, h⟩ := h
  refine ⟨Z, ρ, e, s, R, (Post.bind h).imp fun a s1 ρ1 H1 X1 R1 h v hv => ?_⟩
  refine ⟨Z, ρ1, e, s1, R1, (Post.bind h).imp fun b s2 ρ2 H2 X2 R2 h u hu => ?_⟩
  obtain ⟨d, hd, q⟩ := Post.of h
  unfold lrgD rng2 at hd
  split at hd
  · cases hv
    cases hu
    split at hd
    · rename_i hb
      rw [Bool.and_eq_true] at hb
      simp only [Option.bind_some] at hd
      split at hd
      · rename_i hl
        cases hd
        refine ⟨_, _, rfl, rfl, rngL_ok hb.1 hb.2 hl, fun p hp => q ρ2 _ (Ex.sm (Sm.new hp)) (R2.sm (Sm.new hp)) _ (RV.newL R2.rs.here hp ?_)⟩
        unfold rgV
        exact rvs_rng _ _
      · cases hd
    · simp at hd
  · simp at hd
theorem red_inR {ex ea eb : Env → Store → Res D} {Q : VK} (h : tE P W 0 (fun e s => (ex e s).bind fun x s => (ea e s).bind fun y s => (eb e s).bind fun z s => .of (inRD x y z) s) σ H Q) :
    tOp (fun x y H Q => ∃ i a lo hi, x = V.int i ∧ y = V.ref a ∧ H a = some (.rng lo hi) ∧ Q (.bl (decide (lo ≤ i ∧ i < hi))) H) (tE P W 0 ex) (tCB (fun vs H Q => ∃ i j, vs = [V.int i, V.int j] ∧ ∀ p, H p = none → Q (.ref p) (upd H p (.rng i j))) (tCons (tE P W 0 ea) (tCons (tE P W 0 eb) tNil))) σ H Q := by
  obtain ⟨Z, ρ, e, s, R, h⟩ := h
  refine ⟨Z, ρ, e, s, R, (Post.bind h).imp fun x s1 ρ1 H1 X1 R1 h v hv => ?_⟩
  refine ⟨Z, ρ1, e, s1, R1, (Post.bind h).imp fun a s2 ρ2 H2 X2 R2 h u hu => ?_⟩
  refine ⟨Z, ρ2, e, s2, R2, (Post.bind h).imp fun b s3 ρ3 H3 X3 R3 h w hw => ?_⟩
  obtain ⟨d, hd, q⟩ := Post.of h
  unfold inRD at hd
  split at hd
  · cases hd
    cases hv
    cases hu
    cases hw
    refine ⟨_, _, rfl, fun p hp => ⟨_, p, _, _, rfl, rfl, upd_same, q ρ3 _ (Ex.sm (Sm.new hp)) (R3.sm (Sm.new hp)) _ (.bl _)⟩⟩
  · cases hd
theorem red_inRT {ex ea eb : Env → Store → Res D} {Q : Bool → Hp → Prop} (h : tT P W (fun e s => ((ex e s).bind fun x s => (ea e s).bind fun y s => (eb e s).bind fun z s => .of (inRD x y z) s).bind fun d s => .of (truth d) s) σ H Q) :
    tTest (tOp (fun x y H Q => ∃ i a lo hi, x = V.int i ∧ y = V.ref a ∧ H a = some (.rng lo hi) ∧ Q (.bl (decide (lo ≤ i ∧ i < hi))) H) (tE P W 0 ex) (tCB (fun vs H Q => ∃ i j, vs = [V.int i, V.int j] ∧ ∀ p, H p = none → Q (.ref p) (upd H p (.rng i j))) (tCons (tE P W 0 ea) (tCons (tE P W 0 eb) tNil)))) σ H Q := by
  obtain ⟨Z, ρ, e, s, R, h⟩ := h
  refine ⟨Z, ρ, e, s, R, (Post.bind (Post.bind h)).imp fun x s1 ρ1 H1 X1 R1 h v hv => ?_⟩
  refine ⟨Z, ρ1, e, s1, R1, (Post.bind h).imp fun a s2 ρ2 H2 X2 R2 h u hu => ?_⟩
  refine ⟨Z, ρ2, e, s2, R2, (Post.bind h).imp fun b s3 ρ3 H3 X3 R3 h w hw => ?_⟩
  obtain ⟨d, hd, q⟩ := Post.of h
  unfold inRD at hd
  split at hd
  · cases hd
    cases hv
    cases hu
    cases hw
    obtain ⟨t', ht', q⟩ := Post.of (q ρ3 H3 Ex.refl R3)
    cases ht'
    exact ⟨_, _, rfl, fun p hp => ⟨_, p, _, _, rfl, rfl, upd_same, _, rfl, q ρ3 _ (Ex.sm (Sm.new hp)) (R3.sm (Sm.new hp))⟩⟩
  · cases hd
end
end Nt
set_option Elab.async false
set_option linter.all false
set_option maxRecDepth 100000
set_option maxHeartbeats 2000000
set_option autoImplicit false
/-! E2t: enumerate of a tuple -/
namespace Nt
open PySem PySem.Spec PyProof.Rows L2
def IteT (K : Frag) (a : Addr) : It :=
  ⟨fun i H => ∃ (xs : List V) (x : V), SqT K H a xs ∧ xs[i]? = some x, fun i H v H' => ∃ T x, v = .ref T ∧ H T = none ∧ H' = upd H T (.tup [.int (i : Nat), x]) ∧ ∀ xs, SqT K H a xs → xs[i]? = some x, fun i H => ∃ xs : List V, SqT K H a xs ∧ xs.length = i⟩
theorem turn_enumT {P : Program} {w : World} {K : Frag} {elts : List Expr} {kk : Nat} {tpos : Pos} (a e it : Addr) :
    Turn P w K (.Tuple elts kk tpos) (IteT K a) [e, it] e (fun i h => (∃ old, IsEnum h e it ((i : Nat) : Int) old) ∧ h.IsTupleIter it a i ∧ e ≠ it) where
  mem := by simp
  obj := fun i h st b hb => by
    obtain ⟨⟨old, he⟩, ⟨o, ho, hc, hd⟩, _⟩ := st
    rcases (by simpa using hb : b = e ∨ b = it) with z | z
    · rw [z]; exact ⟨_, he, fun v q => nomatch q⟩
    · rw [z]; exact ⟨o, ho, fun v q => by rw [hd] at q; cases q⟩
  keep := fun i h h' st k => ⟨st.1.imp fun old he => k e (by simp) _ he, st.2.1.at fun o q => k it (by simp) o q, st.2.2⟩
  item := by
    intro X hP hw hK hc i pins s σ H E I hf st hg
    subst hP hw hK
    obtain ⟨⟨old, he⟩, hit, hne⟩ := st
    obtain ⟨xs, x, hq, hx⟩ := hg
    obtain ⟨its, rv, p, hz⟩ := I.tuple hq
    have p : s.heap.IsTuple a its.toArray := p
    obtain ⟨u, hu, ru⟩ := rv.get hx
    have hel : e < s.heap.objs.size := Heap.lt_size he
    have hil : it < s.heap.objs.size := by obtain ⟨_, q, _⟩ := hit; exact Heap.lt_size q
    have hai : a ≠ it := fun z => by
      obtain ⟨o, q1, q2, _⟩ := p
      obtain ⟨o', q3, q4, _⟩ := hit
      rw [z, q3] at q1
      cases q1
      rw [q2] at q4
      exact absurd (Value.type.inj q4) (by decide)
    have hea : e ≠ a := fun z => by
      obtain ⟨o, q1, q2, _⟩ := p
      have he' := he
      unfold IsEnum at he'
      rw [z, q1] at he'
      cases he'
      exact absurd (Value.type.inj q2) (by decide)
    have hlt : i < its.toArray.size := by simpa using (List.getElem?_eq_some_iff.mp hu).1
    refine wpAny_pyNext_enum_itemD (Draws.tuple (A := X.A.in1) (I.ok.hd hc) it a hai its.toArray) he ⟨hit, p⟩ hlt hne (by simp [hne, hea]) fun v h' tk hv ho hst hT hsz hk => ?_
    have ev : v = u := by
      have : its.toArray[i]? = some u := by simpa using hu
      rw [this] at hv
      cases hv
      rfl
    subst ev
    refine ⟨_, rfl, wpAny_letOwnedTupleGo_enum (s := { s with heap := h', toks := tk + 1 }) ho fun h'' he' sb => ?_⟩
    have hT2 : h''.get? s.heap.objs.size = some { cls := .type "tuple", data := .seq #[.int i tk, v] } := (sb.2 _ (Nat.ne_of_gt hel)).trans hT
    have new : ObjOk X.prog X.w (upd H s.heap.objs.size (.tup [.int (i : Nat), x])) h'' s.heap.objs.size (.tup [.int (i : Nat), x]) :=
      ⟨by show 2 ≤ sizeLine; decide, [.int i tk, v], .cons ⟨_, rfl⟩ (.cons ru .nil), ⟨_, hT2, rfl, _, rfl⟩⟩
    have I1 : Inv X pins σ (upd H s.heap.objs.size (.tup [.int (i : Nat), x])) { s with heap := h'', toks := tk + 1 } :=
      I.turnedNew (ch := [e, it]) (fun b ob hb q => (sb.2 b (fun z => hb (by simp [z]))).trans (hk b ob (fun z => hb (by simp [z])) (fun z => hb (by simp [z])) q)) hf (Nat.le_refl _) new
    refine ⟨.ref s.heap.objs.size, _, I1, rfl, ⟨_, x, rfl, I.hok.fresh (Nat.le_refl _), rfl, fun ys hy => ?_⟩, ⟨⟨v, ?_⟩, hst.1.at fun o q => (sb.2 it (Ne.symm hne)).trans q, hne⟩, fun b hb => ?_⟩
    · rw [I.tuple_inj hy hq]; exact hx
    · have e1 : ((i + 1 : Nat) : Int) = (i : Int) + 1 := by omega
      rw [e1]; exact he'
    · have hb' : b < s.heap.objs.size := by
        rcases (by simpa using hb : b = e ∨ b = it) with z | z
        · rw [z]; exact hel
        · rw [z]; exact hil
      rw [upd_ne (Nat.ne_of_lt hb')]
      exact (hf b hb).1
  done := by
    intro X hP hw hK hc i pins s σ H E I hf st hg
    subst hP hw hK
    obtain ⟨⟨old, he⟩, hit, hne⟩ := st
    obtain ⟨xs, hq, hx⟩ := hg
    obtain ⟨its, rv, p, hz⟩ := I.tuple hq
    have p : s.heap.IsTuple a its.toArray := p
    have hai : a ≠ it := fun z => by
      obtain ⟨o, q1, q2, _⟩ := p
      obtain ⟨o', q3, q4, _⟩ := hit
      rw [z, q3] at q1
      cases q1
      rw [q2] at q4
      exact absurd (Value.type.inj q4) (by decide)
    obtain ⟨f0, f1, f2, f3, f4, f5⟩ := hf it (by simp)
    have hl : its.toArray.size = i := by rw [List.size_toArray, ← rv.length, hx]
    subst hl
    exact wpAny_pyNext_enum_endD (Draws.tuple (A := X.A.in1) (I.ok.hd hc) it a hai its.toArray) he ⟨hit, p⟩ fun h' eb => ⟨rfl, I.turned (t' := s.toks) (fun b o hb q => eb b o hb q) f0 f1 f3 f4 f5⟩
  self := fun A i s Q E st h => let ⟨⟨_, he⟩, _⟩ := st; wpAny_pyIter_enum he h
end Nt
namespace PySem
open Sem (wp)
open AutoSeq1 (wpAny_loadPart')
/-- enumerate(t), t a tuple -/
theorem nt_meets_enumT (t : Addr) (o : Obj) (items : Array Value) (n : Nat) (hc : o.cls = .type "tuple") (hd : o.data = .seq items n) :
    Meets (Builtin.«enumerate.__new__» ⟨[.type "enumerate", .ref t], []⟩) (fun _ R s => s.heap.get? t = some o ∧
      R (.ok (.ret (.ref (s.heap.push { cls := .type "tuple_iterator", data := .fields #[.ref t, .int 0 0] }).objs.size)))
        { s with heap := (s.heap.push { cls := .type "tuple_iterator", data := .fields #[.ref t, .int 0 0] }).push { cls := .type "enumerate", data := .fields #[.none, .bool false, .ref s.heap.objs.size, rawInt 0, .none, .none] } }) :=
  .of_wp fun prog w A R s h => by
    obtain ⟨hp, g, d, tk, os⟩ := s; obtain ⟨hl, h⟩ := h
    obtain ⟨oc, od, odt, osl⟩ := o
    dsimp only at hc hd
    subst hc hd
    have hsub := sub_enumerate
    have hL : Heap.IsTuple (Shared.heap ⟨hp, g, d, tk, os⟩) t items := ⟨_, hl, rfl, n, rfl⟩
    wp_walk using wpAny_loadPart' hl
    refine wpAny_stack_any fun st => wpAny_pure ?_
    split
    · rename_i c _ _ _ _ _
      cases (c == Value.type "enumerate")
      · wp_walk using wpAny_loadPart' hl, wpAny_pyIter_tuple hL
        exact ⟨_, rfl, h⟩
      · wp_walk using wpAny_loadPart' hl, wpAny_pyIter_tuple hL
        exact ⟨_, rfl, h⟩
    · wp_walk using wpAny_loadPart' hl, wpAny_pyIter_tuple hL
      exact ⟨_, rfl, h⟩
section
variable {prog : Program} {w : World} {A : Around} {E : Value → Shared → Prop} {s : Shared}
theorem nt_call_enumT {t : Addr} {items : Array Value} {Q : Value → Shared → Prop} (hL : s.heap.IsTuple t items)
    (h : ∀ h', IsEnum h' (s.heap.objs.size + 1) s.heap.objs.size 0 .none → h'.IsTupleIter s.heap.objs.size t 0 → (∀ b o, s.heap.get? b = some o → h'.get? b = some o) → Q (.ref (s.heap.objs.size + 1)) { s with heap := h' }) :
    wpAny (model prog w) A (call (.type "enumerate") [.ref t]) Q E s := by
  obtain ⟨o, hl, hc, n, hd⟩ := hL
  refine callType_new F.called_enumerate (by decide) (F.typeCall_enumerate_1 _) (F.newCall_enumerate_1 _) (fun obj => F.args_object_init_2 obj _) F.entry_enumerate_new
    (nt_meets_enumT t o items n hc hd) ⟨hl, ?_⟩
  have hz : (s.heap.push { cls := .type "tuple_iterator", data := .fields #[.ref t, .int 0 0] }).objs.size = s.heap.objs.size + 1 := Heap.size_push ..
  show _ ∧ _
  rw [hz]
  have he : IsEnum ((s.heap.push { cls := .type "tuple_iterator", data := .fields #[.ref t, .int 0 0] }).push
      { cls := .type "enumerate", data := .fields #[.none, .bool false, .ref s.heap.objs.size, rawInt 0, .none, .none] }) (s.heap.objs.size + 1) s.heap.objs.size 0 .none := by
    have := Heap.get?_push_size (s.heap.push { cls := .type "tuple_iterator", data := .fields #[.ref t, .int 0 0] })
      (o := { cls := .type "enumerate", data := .fields #[.none, .bool false, .ref s.heap.objs.size, rawInt 0, .none, .none] }) rfl
    rw [hz] at this; exact this
  exact ⟨⟨_, he, rfl⟩, h _ he ⟨_, Heap.get?_push_of_some _ (Heap.get?_push_size _ rfl), rfl, rfl⟩ fun b o x => Heap.get?_push_of_some _ (Heap.get?_push_of_some _ x)⟩
end
end PySem
namespace Nt
open PySem PySem.Spec PyProof.Rows L2
def iEnumT (K : Frag) (ta : TA) : TI := fun σ H R => ta σ H fun vs H1 => ∃ a xs, vs = [.ref a] ∧ SqT K H1 a xs ∧ R (IteT K a) H1
theorem pi_enumT {X : Cx} {e : Expr} {ta : TA} {p pos tpos : Pos} {elts : List Expr} {kk : Nat} (hg : Gl X "enumerate") (hm : X.mg "enumerate" = none) (ha : L2.PA X [e] ta) (hs : starEach [e] X.env = [(false, eval e X.env)] := by rfl) :
    L2.PI X (.Tuple elts kk tpos) (.Call (.Name "enumerate" p) [e] [] pos) (iEnumT X.K ta) := by
  refine ⟨fun pins s σ H R I h => ?_⟩
  refine Call_ (ld_blt I hg hm PyProof.Rows.boot_enumerate (PyProof.Rows.callWith_type1 (thn (ha.run pos pins s σ H _ I h) fun us s1 ⟨vs, H1, I1, r1, q1⟩ => ?_) hs rfl))
  obtain ⟨a, xs, ex, hq, q⟩ := q1
  subst ex
  cases r1 with
  | cons r rr =>
    cases rr
    cases r
    obtain ⟨its, rv, p', hz⟩ := I1.tuple hq
    refine nt_call_enumT (show s1.heap.IsTuple a its.toArray from p') fun h' he hit hk => wpAny_pyIter_enum he ?_
    have I2 : Inv X pins σ H1 { s1 with heap := h' } := I1.kept (t' := s1.toks) hk
    refine ⟨s1.heap.objs.size + 1, [s1.heap.objs.size + 1, s1.heap.objs.size], _, _, H1, rfl, I2, turn_enumT a (s1.heap.objs.size + 1) s1.heap.objs.size, ⟨⟨.none, he⟩, hit, Nat.succ_ne_self _⟩, fun b hb => ?_, q⟩
    have hle : s1.heap.objs.size ≤ b := by
      rcases (by simpa using hb : b = s1.heap.objs.size + 1 ∨ b = s1.heap.objs.size) with z | z
      · rw [z]; exact Nat.le_add_right _ _
      · rw [z]; exact Nat.le_refl _
    exact I1.fpOk hle (I1.hok.fresh hle)
section
variable {P : Pm} {M : Addr → Prop} {ρ : List (List Addr)} {H : Hp} {σ : L2.St} {k : Nat} {W : WX}
theorem enumFrom_get : ∀ (xs : List D) (n i : Nat), i < (enumFrom n xs).length → ∃ x, xs[i]? = some x ∧ (enumFrom n xs)[i]? = some (.tup [.int ((n + i : Nat) : Int), x])
  | [], n, i, h => by simp [enumFrom] at h
  | x :: xs, n, 0, h => ⟨x, rfl, rfl⟩
  | x :: xs, n, i + 1, h => by
    obtain ⟨y, h1, h2⟩ := enumFrom_get xs (n + 1) i (by simpa [enumFrom] using h)
    refine ⟨y, by simpa using h1, ?_⟩
    rw [enumFrom, List.getElem?_cons_succ, h2]
    congr 4
    omega
theorem enumFrom_len : ∀ (xs : List D) (n : Nat), (enumFrom n xs).length = xs.length
  | [], n => rfl
  | x :: xs, n => by rw [enumFrom, List.length_cons, enumFrom_len xs, List.length_cons]
theorem walkET {K : Frag} (hK : K = P.K) (ow : OwnOut M H) {a : Addr} {vs : List V} {ds : List D} (f : FzT P.K M H a vs) (t : RVs P M H ds vs) : WalkD P k ρ M H (IteT K a) (enumFrom 0 ds) := by
  subst hK
  refine ⟨fun i M' H' l hi => ?_, fun M' H' l => ?_, fun i M' H' x H'' l hr hi hy => ?_⟩
  · obtain ⟨d, h1, h2⟩ := enumFrom_get ds 0 i hi
    obtain ⟨v, v1, v2⟩ := t.get h1
    exact ⟨vs, v, (f.mono l.1).sq, v1⟩
  · exact ⟨vs, (f.mono l.1).sq, by rw [enumFrom_len, t.length]⟩
  · obtain ⟨d, h1, h2⟩ := enumFrom_get ds 0 i hi
    obtain ⟨v, v1, v2⟩ := t.get h1
    obtain ⟨T, x', rfl, hT, rfl, q1⟩ := hy
    have q1 := q1 vs (f.mono l.1).sq
    rw [v1] at q1
    cases q1
    rw [Nat.zero_add] at h2
    exact ⟨Sm.new hT, _, h2, RV.newT hr hT (.cons (.int _) (.cons (v2.mono l.1 ow) .nil))⟩
theorem walkEL {K : Frag} (ow : OwnOut M H) {a : Addr} {vs : List V} {ds : List D} (f : FzL M H a vs) (t : RVs P M H ds vs) : WalkD P k ρ M H (Ite K a) (enumFrom 0 ds) := by
  have mo : ∀ {M' : Addr → Prop} {H' : Hp}, Stp M H M' H' → SqL K H' a vs := fun s => SqL.of (s.keep _ _ f.1 f.2)
  refine ⟨fun i M' H' l hi => ?_, fun M' H' l => ?_, fun i M' H' x H'' l hr hi hy => ?_⟩
  · obtain ⟨d, h1, h2⟩ := enumFrom_get ds 0 i hi
    obtain ⟨v, v1, v2⟩ := t.get h1
    exact ⟨vs, v, mo l.1, v1⟩
  · exact ⟨vs, mo l.1, by rw [enumFrom_len, t.length]; exact Nat.le_refl _⟩
  · obtain ⟨d, h1, h2⟩ := enumFrom_get ds 0 i hi
    obtain ⟨v, v1, v2⟩ := t.get h1
    obtain ⟨T, x', rfl, hT, rfl, q1⟩ := hy
    have q1 := q1 vs (mo l.1)
    rw [v1] at q1
    cases q1
    rw [Nat.zero_add] at h2
    exact ⟨Sm.new hT, _, h2, RV.newT hr hT (.cons (.int _) (.cons (v2.mono l.1 ow) .nil))⟩
theorem red_enum {K : Frag} (hK : K = P.K) {ev : Env → Store → Res D} {R : It → Hp → Prop} (h : tI P W 0 (fun e s => (ev e s).bind fun x s => .of ((seqOf x).map (enumFrom 0))  s) σ H R) :
    iEnumT K (tCons (tE P W 0 ev) tNil) σ H R ∨ iEnum K (tCons (tE P W 0 ev) tNil) σ H R := by
  obtain ⟨Z, ρ, e, s, R0, h⟩ := h
  have h := Post.bind h
  cases hev : ev e s with
  | ok d s1 =>
    rw [hev] at h
    have go : ∀ {Q : V → Hp → Prop}, (∀ xs, (seqOf d).map (enumFrom 0) = some xs → ∀ ρ1 H1 v, OwnOut (Mu Z ρ1 σ e) H1 → RV P (Mu Z ρ1 σ e) H1 d v → (∀ J, WalkD P 0 ρ1 (Mu Z ρ1 σ e) H1 J xs → R J H1) → Q v H1) → tE P W 0 ev σ H Q := fun {Q} f => by
      refine ⟨Z, ρ, e, s, R0, ?_⟩
      rw [hev]
      intro ρ1 H1 X1 R1 v hv
      obtain ⟨xs, hxs, q⟩ := Post.of (h ρ1 H1 X1 R1)
      exact f xs hxs ρ1 H1 v R1.rs.out hv (q ρ1 H1 Ex.refl R1)
    cases d with
    | tup ds =>
      refine .inl (go fun xs hxs ρ1 H1 v ow hv q => ?_)
      cases hxs
      obtain ⟨a, vs, rfl, f, t⟩ := r_tup hv
      exact ⟨a, vs, rfl, by rw [hK]; exact f.sq, q _ (walkET hK ow f t)⟩
    | lst ds =>
      refine .inr (go fun xs hxs ρ1 H1 v ow hv q => ?_)
      cases hxs
      cases hv with
      | lst f t => exact ⟨_, _, rfl, f.sq, q _ (walkEL ow f t)⟩
    | _ =>
      refine .inl (go fun xs hxs ρ1 H1 v ow hv q => ?_)
      cases hxs
  | exc c s1 =>
    rw [hev] at h
    exact .inl ⟨Z, ρ, e, s, R0, by rw [hev]; exact h⟩
  | stuck => rw [hev] at h; exact h.elim
end
end Nt
set_option Elab.async false
set_option linter.all false
set_option maxRecDepth 100000
set_option maxHeartbeats 4000000
set_option autoImplicit false
/-! E2h: the evaluator of expressions is right -/
namespace Nt
open PySem PySem.Spec PyProof.Rows L2
section
variable {P : Pm} {G : Glob} {C : Calls} {T : Tx} {n : Nat}
theorem red_const {W : WX} {d : D} {v : V} (r : ∀ M H, RV P M H d v) {σ : L2.St} {H : Hp} {Q : VK} (h : tE P W 0 (fun _ s => .ok d s) σ H Q) : Q v H := by
  obtain ⟨Z, ρ, e, s, R, h⟩ := h
  exact h ρ H Ex.refl R v (r _ _)
theorem rv_str' {M : Addr → Prop} {H : Hp} (x : Str) : RV P M H (.str x.cps.toList) (.str x) := by
  have := RV.str (P := P) (M := M) (H := H) x.cps.toList
  rw [sV_of] at this
  exact this
theorem cst_pe {X : Cx} {W : WX} {d : D} {c : Const} {j : Nat} {pos : Pos} (h : cstOk d c = true) : L2.PE X (.Constant c j pos) (tE P W 0 (fun _ s => .ok d s)) := by
  cases d <;> cases c <;> simp [cstOk] at h
  · exact PE_imp pe_non fun σ H Q q => red_const (fun _ _ => .non) q
  · subst h; exact PE_imp pe_bl fun σ H Q q => red_const (fun _ _ => .bl _) q
  · subst h; exact PE_imp pe_int fun σ H Q q => red_const (fun _ _ => .int _) q
  · subst h
    exact PE_imp pe_str fun σ H Q q => red_const (fun M H => rv_str' _) q
theorem red_sn {W : WX} {X : Cx} {i : Nat} {σ : L2.St} {H : Hp} {Q : VK} (h : tE P W 2 (evE G C (.sn (.rv i))) σ H Q) : tVar i σ H Q := by
  obtain ⟨Z, ρ, e, s, R, h⟩ := h
  simp only [evE, evR] at h
  split at h
  · rename_i m hm
    split at hm
    · rename_i m' he
      cases hm
      split at h
      · rename_i o ho
        obtain ⟨d, hd, h⟩ := Post.of h
        obtain ⟨v, h1, h2⟩ := R.slot _ _ he
        refine ⟨v, h1, h ρ H Ex.refl R v ?_⟩
        cases h2 with
        | ref hr =>
          obtain ⟨fp, hf, c⟩ := cell_at R.rs.cells ho
          unfold root at hr
          rw [hf] at hr
          cases c with
          | lst c t => cases hr; cases hd; exact RVw.lst c t
          | dK c t => cases hr; cases hd; exact RVw.dK c t
          | dT c t => cases hr; cases hd; exact RVw.dT c t
          | snd => cases hd
          | ins => cases hd
      · exact h.elim
    · cases hm
  · exact h.elim
theorem red_tup {W : WX} {ev : Env → Store → Res (List D)} {m : Nat} {σ : L2.St} {H : Hp} {Q : VK} (hm : m ≤ 1000) (hl : ∀ e s ds s', ev e s = .ok ds s' → ds.length = m) (h : tE P W 0 (fun e s => (ev e s).bind fun ds s => .ok (.tup ds) s) σ H Q) : tTup (tEs P W ev) σ H Q := by
  obtain ⟨Z, ρ, e, s, R, h⟩ := h
  refine ⟨Z, ρ, e, s, R, ?_⟩
  have h := Post.bind h
  cases he : ev e s with
  | ok ds s' =>
    rw [he] at h
    intro ρ1 H1 X1 R1 vs hv
    have hn := hl _ _ _ _ he
    refine ⟨?_, fun p hp => ?_⟩
    · rw [← hv.length, hn]; exact Nat.le_trans hm (Nat.le_trans (by decide) lim_line)
    · exact h ρ1 H1 X1 R1 ρ1 (upd H1 p (.tup vs)) (Ex.sm (Sm.new hp)) (R1.sm (Sm.new hp)) _ (RV.newT R1.rs.here hp hv)
  | exc c s' => rw [he] at h; exact h
  | stuck => rw [he] at h; exact h
theorem red_lst {W : WX} {ev : Env → Store → Res (List D)} {m : Nat} {σ : L2.St} {H : Hp} {Q : VK} (hm : m ≤ 1000) (hl : ∀ e s ds s', ev e s = .ok ds s' → ds.length = m) (h : tE P W 0 (fun e s => (ev e s).bind fun ds s => .ok (.lst ds) s) σ H Q) : tLst (tEs P W ev) σ H Q := by
  obtain ⟨Z, ρ, e, s, R, h⟩ := h
  refine ⟨Z, ρ, e, s, R, ?_⟩
  have h := Post.bind h
  cases he : ev e s with
  | ok ds s' =>
    rw [he] at h
    intro ρ1 H1 X1 R1 vs hv
    have hn := hl _ _ _ _ he
    refine ⟨?_, fun p hp => ?_⟩
    · rw [← hv.length, hn]; exact Nat.le_trans hm (Nat.le_trans (by decide) lim_line)
    · exact h ρ1 H1 X1 R1 ρ1 (upd H1 p (.lst vs)) (Ex.sm (Sm.new hp)) (R1.sm (Sm.new hp)) _ (RV.newL R1.rs.here hp hv)
  | exc c s' => rw [he] at h; exact h
  | stuck => rw [he] at h; exact h
/-- how many code items there are -/
def lenEs : PEs → Nat
  | .nil => 0
  | .cons _ es => lenEs es + 1
theorem evEs_len : ∀ (es : PEs) (e : Env) (s : Store) (ds : List D) (s' : Store), evEs G C es e s = .ok ds s' → ds.length = lenEs es
  | .nil, e, s, ds, s', h => by
    simp only [evEs] at h
    cases h
    rfl
  | .cons a es, e, s, ds, s', h => by
    simp only [evEs] at h
    cases ha : evE G C a e s with
    | ok x s1 =>
      rw [ha] at h
      simp only [bind_ok] at h
      cases hb : evEs G C es e s1 with
      | ok xs st2 =>
        rw [hb] at h
        simp only [bind_ok] at h
        cases h
        rw [List.length_cons, evEs_len es e s1 xs _ hb]
        rfl
      | exc c s2 => rw [hb] at h; cases h
      | stuck => rw [hb] at h; cases h
    | exc c s1 => rw [ha] at h; cases h
    | stuck => rw [ha] at h; cases h
theorem chkEs_len : ∀ (es : PEs) (sc : Sc) (xs : List Expr), chkEs T es sc xs = true → xs.length = lenEs es
  | .nil, sc, xs, h => by
    simp only [chkEs, List.isEmpty_iff] at h
    subst h
    rfl
  | .cons a es, sc, xs, h => by
    cases xs with
    | nil => simp [chkEs] at h
    | cons x xs =>
      simp only [chkEs, Bool.and_eq_true] at h
      rw [List.length_cons, chkEs_len es sc xs h.2]
      rfl
/-- two in a row, then -/
theorem red_chain {W : WX} {f g : D → D → Option D} {ka kb kc : Nat} (ha : ka ≤ 1) (hb : kb ≤ 1) {ea eb ec : Env → Store → Res D} {σ : L2.St} {H : Hp} {Q : VK}
    (h : tE P W 0 (fun e s => (ea e s).bind fun x s => (eb e s).bind fun y s => match f x y with
      | some (.bl true) => (ec e s).bind fun z s => .of (g y z) s
      | some (.bl false) => .ok (.bl false) s
      | _ => .stuck) σ H Q) : tChain (r2 P f) (r2 P g) (tE P W ka ea) (tE P W kb eb) (tE P W kc ec) σ H Q := by
  obtain ⟨Z, ρ, e, s, R, h⟩ := h
  refine ⟨Z, ρ, e, s, R, (Post.bind h).imp fun a s1 ρ1 H1 X1 R1 h v hv => ?_⟩
  refine ⟨Z, ρ1, e, s1, R1, (Post.bind h).imp fun b s2 ρ2 H2 X2 R2 h u hu => ?_⟩
  split at h
  · rename_i hf
    refine ⟨_, a, b, _, v, u, rfl, R2.rs.here, (hv.mono ha X2 R1.rs.out).w, hu.w, hf, fun H3 z x3 rz => ?_⟩
    cases rz
    refine ⟨true, rfl, ?_⟩
    rw [if_pos rfl]
    refine ⟨Z, ρ2, e, s2, R2.sm x3, ?_⟩
    have h3 : Post P Z ρ2 H3 σ e W ((ec e s2).bind fun z s => .of (g b z) s) fun d _ ρ' H' => ∀ v, Vp 0 P (Mu Z ρ' σ e) ρ' H' d v → Q v H' := by
      revert h
      cases (ec e s2).bind fun z s => .of (g b z) s with
      | ok d s => exact fun h ρ' H' x r => h ρ' H' ((Ex.sm x3).trans x) r
      | exc c s => exact fun h ρ' H' x r => h ρ' H' ((Ex.sm x3).trans x) r
      | stuck => exact fun h => h
    refine (Post.bind h3).imp fun c s4 ρ4 H4 X4 R4 h w hw => ?_
    obtain ⟨d, hd, q⟩ := Post.of h
    exact ⟨_, b, c, d, u, w, rfl, R4.rs.here, (hu.mono hb ((Ex.sm x3).trans X4) R2.rs.out).w, hw.w, hd, fun H5 z x5 rz => q ρ4 H5 (Ex.sm x5) (R4.sm x5) z rz⟩
  · rename_i hf
    refine ⟨_, a, b, _, v, u, rfl, R2.rs.here, (hv.mono ha X2 R1.rs.out).w, hu.w, hf, fun H3 z x3 rz => ?_⟩
    cases rz
    refine ⟨false, rfl, ?_⟩
    rw [if_neg Bool.false_ne_true]
    exact h ρ2 H3 (Ex.sm x3) (R2.sm x3) _ (.bl false)
  · exact h.elim
theorem opC {X : Cx} {W : WX} {sc : Sc} (ok : XOk P G C T n sc W X) {o : O2} {op : CmpOp} (h : o2Cmp o op = true) : OpR X (compareOp op) (r2 P (op2 o)) := by
  obtain ⟨K, cls⟩ := P
  have hK : X.K = K := ok.K
  subst hK
  have hu := ok.units
  cases o <;> cases op <;> first | (exfalso; simp [o2Cmp] at h; done) | skip
  · exact op_r2 (op2_eq rfl (by omega))
  · exact op_r2 (op2_ne rfl (by omega))
  · exact op_r2 op2_lt
  · exact op_r2 op2_le
  · exact op_r2 op2_gt
  · exact op_r2 op2_ge
  · exact op_r2 (op2_in rfl hu)
  · exact op_r2 (op2_notin rfl hu)
/-- the state goes on over a new state that differs by what was made -/
theorem Post.sm {Z : Addr → Prop} {ρ : List (List Addr)} {H H1 : Hp} {σ : L2.St} {e : Env} {W : WX} {α : Type} {r : Res α} {good : α → Store → List (List Addr) → Hp → Prop} (x : Sm H H1) (h : Post P Z ρ H σ e W r good) : Post P Z ρ H1 σ e W r good := by
  revert h
  cases r with
  | ok d s => exact fun h ρ' H' y r => h ρ' H' ((Ex.sm x).trans y) r
  | exc c s => exact fun h ρ' H' y r => h ρ' H' ((Ex.sm x).trans y) r
  | stuck => exact fun h => h
theorem red_and {W : WX} {a b : Env → Store → Res D} {σ : L2.St} {H : Hp} {Q : VK}
    (h : tE P W 0 (fun e s => (a e s).bind fun x s => match x with
      | .bl true => b e s
      | .bl false => .ok (.bl false) s
      | _ => .stuck) σ H Q) : tAndV (tE P W 0 a) (tE P W 0 b) σ H Q := by
  obtain ⟨Z, ρ, e, s, R, h⟩ := h
  refine ⟨Z, ρ, e, s, R, (Post.bind h).imp fun x s1 ρ1 H1 X1 R1 h v hv => ?_⟩
  split at h
  · cases hv
    exact ⟨true, rfl, Z, ρ1, e, s1, R1, h⟩
  · cases hv
    exact ⟨false, rfl, h ρ1 H1 Ex.refl R1 _ (.bl false)⟩
  · exact h.elim
theorem red_or {W : WX} {a b : Env → Store → Res D} {σ : L2.St} {H : Hp} {Q : VK}
    (h : tE P W 0 (fun e s => (a e s).bind fun x s => match x with
      | .bl true => .ok (.bl true) s
      | .bl false => b e s
      | _ => .stuck) σ H Q) : tOrV (tE P W 0 a) (tE P W 0 b) σ H Q := by
  obtain ⟨Z, ρ, e, s, R, h⟩ := h
  refine ⟨Z, ρ, e, s, R, (Post.bind h).imp fun x s1 ρ1 H1 X1 R1 h v hv => ?_⟩
  split at h
  · cases hv
    exact ⟨true, rfl, h ρ1 H1 Ex.refl R1 _ (.bl true)⟩
  · cases hv
    exact ⟨false, rfl, Z, ρ1, e, s1, R1, h⟩
  · exact h.elim
theorem red_not {X : Cx} {W : WX} (hK : X.K = P.K) {k : Nat} {a : Env → Store → Res D} {σ : L2.St} {H : Hp} {Q : VK}
    (h : tE P W 0 (fun e s => ((a e s).bind fun x s => .of (truth x) s).bind fun t s => .ok (.bl (!t)) s) σ H Q) : tNotT X.K (tE P W k a) σ H Q := by
  obtain ⟨Z, ρ, e, s, R, h⟩ := h
  refine ⟨Z, ρ, e, s, R, (Post.bind (Post.bind h)).imp fun x s1 ρ1 H1 X1 R1 h v hv => ?_⟩
  obtain ⟨b, hb, q⟩ := Post.of h
  refine ⟨b, ?_, q ρ1 H1 Ex.refl R1 ρ1 H1 Ex.refl R1 _ (.bl _)⟩
  rw [hK]
  exact tru_of hb hv.w
theorem red_if {W : WX} {t : Env → Store → Res Bool} {a b : Env → Store → Res D} {σ : L2.St} {H : Hp} {Q : VK}
    (h : tE P W 0 (fun e s => (t e s).bind fun t s => if t then a e s else b e s) σ H Q) : tIf (tT P W t) (tE P W 0 a) (tE P W 0 b) σ H Q := by
  obtain ⟨Z, ρ, e, s, R, h⟩ := h
  refine ⟨Z, ρ, e, s, R, (Post.bind h).imp fun x s1 ρ1 H1 X1 R1 h => ?_⟩
  cases x with
  | true => exact ⟨Z, ρ1, e, s1, R1, h⟩
  | false => exact ⟨Z, ρ1, e, s1, R1, h⟩
theorem red_andT {W : WX} {a b : Env → Store → Res Bool} {σ : L2.St} {H : Hp} {Q : Bool → Hp → Prop}
    (h : tT P W (fun e s => (a e s).bind fun t s => if t then b e s else .ok false s) σ H Q) : tAnd (tT P W a) (tT P W b) σ H Q := by
  obtain ⟨Z, ρ, e, s, R, h⟩ := h
  refine ⟨Z, ρ, e, s, R, (Post.bind h).imp fun x s1 ρ1 H1 X1 R1 h => ?_⟩
  cases x with
  | true => exact ⟨Z, ρ1, e, s1, R1, h⟩
  | false => exact h ρ1 H1 Ex.refl R1
theorem red_orT {W : WX} {a b : Env → Store → Res Bool} {σ : L2.St} {H : Hp} {Q : Bool → Hp → Prop}
    (h : tT P W (fun e s => (a e s).bind fun t s => if t then .ok true s else b e s) σ H Q) : tOr (tT P W a) (tT P W b) σ H Q := by
  obtain ⟨Z, ρ, e, s, R, h⟩ := h
  refine ⟨Z, ρ, e, s, R, (Post.bind h).imp fun x s1 ρ1 H1 X1 R1 h => ?_⟩
  cases x with
  | true => exact h ρ1 H1 Ex.refl R1
  | false => exact ⟨Z, ρ1, e, s1, R1, h⟩
theorem red_notT {W : WX} {a : Env → Store → Res Bool} {σ : L2.St} {H : Hp} {Q : Bool → Hp → Prop}
    (h : tT P W (fun e s => (a e s).bind fun t s => .ok (!t) s) σ H Q) : tNot (tT P W a) σ H Q := by
  obtain ⟨Z, ρ, e, s, R, h⟩ := h
  refine ⟨Z, ρ, e, s, R, (Post.bind h).imp fun x s1 ρ1 H1 X1 R1 h => h ρ1 H1 Ex.refl R1⟩
theorem red_nil {W : WX} {σ : L2.St} {H : Hp} {Q : List V → Hp → Prop} (h : tEs P W (fun _ s => .ok [] s) σ H Q) : tNil σ H Q := by
  obtain ⟨Z, ρ, e, s, R, h⟩ := h
  exact h ρ H Ex.refl R _ .nil
theorem red_nilA {W : WX} {σ : L2.St} {H : Hp} {Q : List V → Hp → Prop} (h : tA P W (fun _ s => .ok [] s) σ H Q) : tNil σ H Q := by
  obtain ⟨Z, ρ, e, s, R, h⟩ := h
  exact h ρ H Ex.refl R _ .nil
theorem red_cons {W : WX} {a : Env → Store → Res D} {b : Env → Store → Res (List D)} {σ : L2.St} {H : Hp} {Q : List V → Hp → Prop}
    (h : tEs P W (fun e s => (a e s).bind fun x s => (b e s).bind fun xs s => .ok (x :: xs) s) σ H Q) : tCons (tE P W 0 a) (tEs P W b) σ H Q := by
  obtain ⟨Z, ρ, e, s, R, h⟩ := h
  refine ⟨Z, ρ, e, s, R, (Post.bind h).imp fun x s1 ρ1 H1 X1 R1 h v hv => ?_⟩
  refine ⟨Z, ρ1, e, s1, R1, (Post.bind h).imp fun xs s2 ρ2 H2 X2 R2 h vs hvs => ?_⟩
  exact h ρ2 H2 Ex.refl R2 _ (.cons (RV.mono X2.mu R1.rs.out hv) hvs)
theorem ArgsOk.mono {M M' : Addr → Prop} {H H' : Hp} {ρ ρ' : List (List Addr)} (f : ∀ d v, RV P M H d v → RV P M' H' d v) (g : ∀ n a, root ρ n = some a → root ρ' n = some a) : ∀ {as : List Arg} {vs : List V}, ArgsOk P M H ρ as vs → ArgsOk P M' H' ρ' as vs
  | _, _, .nil => .nil
  | .val d :: _, _, .cons r t => .cons (f _ _ r) (ArgsOk.mono f g t)
  | .ref n :: _, _, .cons ⟨a, h1, h2⟩ t => .cons ⟨a, g _ _ h1, h2⟩ (ArgsOk.mono f g t)
theorem red_consA {W : WX} {a : Env → Store → Res D} {b : Env → Store → Res (List Arg)} {σ : L2.St} {H : Hp} {Q : List V → Hp → Prop}
    (h : tA P W (fun e s => (a e s).bind fun x s => (b e s).bind fun xs s => .ok (.val x :: xs) s) σ H Q) : tCons (tE P W 0 a) (tA P W b) σ H Q := by
  obtain ⟨Z, ρ, e, s, R, h⟩ := h
  refine ⟨Z, ρ, e, s, R, (Post.bind h).imp fun x s1 ρ1 H1 X1 R1 h v hv => ?_⟩
  refine ⟨Z, ρ1, e, s1, R1, (Post.bind h).imp fun xs s2 ρ2 H2 X2 R2 h vs hvs => ?_⟩
  exact h ρ2 H2 Ex.refl R2 _ (.cons (RV.mono X2.mu R1.rs.out hv) hvs)
/-- a cell, handed on -/
theorem red_consR {W : WX} {i : Nat} {b : Env → Store → Res (List Arg)} {σ : L2.St} {H : Hp} {Q : List V → Hp → Prop}
    (h : tA P W (fun e s => match evR e s (.rv i) with
      | some n => (b e s).bind fun xs s => .ok (.ref n :: xs) s
      | none => .stuck) σ H Q) : tCons (tVar i) (tA P W b) σ H Q := by
  obtain ⟨Z, ρ, e, s, R, h⟩ := h
  dsimp only at h
  split at h
  · rename_i m hm
    simp only [evR] at hm
    split at hm
    · rename_i m' he
      cases hm
      obtain ⟨v, h1, h2⟩ := R.slot _ _ he
      refine ⟨v, h1, Z, ρ, e, s, R, (Post.bind h).imp fun xs s2 ρ2 H2 X2 R2 h vs hvs => ?_⟩
      cases h2 with
      | ref hr => exact h ρ2 H2 Ex.refl R2 _ (.cons ⟨_, X2.roots _ _ hr, rfl⟩ hvs)
    · cases hm
  · exact h.elim
theorem s1T {X : Cx} {W : WX} {sc : Sc} (ok : XOk P G C T n sc W X) {o : O1} {l x : Expr} {bs : List CmpOp} {cs : List Expr} {pos : Pos} (h : o1Arg sc o (.Compare l bs cs pos) = some x) {te : TE} (hx : L2.PE X x te) : L2.PT X (.Compare l bs cs pos) (tTest (tUn (r1 P (op1 o)) te)) := by
  obtain ⟨K, cls⟩ := P
  have hK : X.K = K := ok.K
  subst hK
  unfold o1Arg at h
  split at h
  · rename_i e; cases e
  · rename_i e; cases e
  · rename_i e; cases e
  · rename_i e; cases e
  · rename_i e
    cases e
    split at h
    · rename_i hc
      cases h
      obtain ⟨y, hk, hm, ho⟩ := cmpK_of (cls := cls) hc
      exact pt_cmpK hk hx ho hm
    · cases h
  · rename_i e; cases e
  · cases h
theorem o1_bl {sc : Sc} {o : O1} {l x : Expr} {bs : List CmpOp} {cs : List Expr} {pos : Pos} (h : o1Arg sc o (.Compare l bs cs pos) = some x) (a d : D) (e : op1 o a = some d) : ∃ t, d = .bl t := by
  unfold o1Arg at h
  split at h
  · rename_i e; cases e
  · rename_i e; cases e
  · rename_i e; cases e
  · rename_i e; cases e
  · rename_i e
    cases e
    split at h
    · rename_i c _ k _ _ hc
      cases o <;> first | (exfalso; cases c <;> cases k <;> simp [o1Cmp] at hc; done) | skip
      all_goals cases a <;> simp only [op1, Option.some.injEq, reduceCtorEq] at e <;> exact ⟨_, e.symm⟩
    · cases h
  · rename_i e; cases e
  · cases h
theorem s2T {X : Cx} {W : WX} {sc : Sc} (ok : XOk P G C T n sc W X) {o : O2} {l x y : Expr} {bs : List CmpOp} {cs : List Expr} {pos : Pos} (h : o2Arg sc o (.Compare l bs cs pos) = some (x, y)) {ta tb : TE} (hx : L2.PE X x ta) (hy : L2.PE X y tb) :
    ∃ op, o2Cmp o op = true ∧ L2.PT X (.Compare l bs cs pos) (tTest (tOp (r2 P (op2 o)) ta tb)) := by
  unfold o2Arg at h
  split at h
  · rename_i e; cases e
  · rename_i e
    cases e
    split at h
    · rename_i hc
      obtain ⟨hc, hb⟩ := hc
      cases h
      exact ⟨_, hc, pt_cmpR (opC ok hc) hx hy (nomarks hb)⟩
    · cases h
  · rename_i e; cases e
  · rename_i e; cases e
  · cases h
theorem red_chainT {W : WX} {f g : D → D → Option D} (hg : ∀ a b d, g a b = some d → ∃ t, d = .bl t) {ka kb kc : Nat} (ha : ka ≤ 1) (hb : kb ≤ 1) {ea eb ec : Env → Store → Res D} {σ : L2.St} {H : Hp} {Q : Bool → Hp → Prop}
    (h : tT P W (fun e s => ((ea e s).bind fun x s => (eb e s).bind fun y s => match f x y with
      | some (.bl true) => (ec e s).bind fun z s => .of (g y z) s
      | some (.bl false) => .ok (.bl false) s
      | _ => .stuck).bind fun d s => .of (truth d) s) σ H Q) : tTest (tChain (r2 P f) (r2 P g) (tE P W ka ea) (tE P W kb eb) (tE P W kc ec)) σ H Q := by
  obtain ⟨Z, ρ, e, s, R, h⟩ := h
  refine ⟨Z, ρ, e, s, R, (Post.bind (Post.bind h)).imp fun a s1 ρ1 H1 X1 R1 h v hv => ?_⟩
  refine ⟨Z, ρ1, e, s1, R1, (Post.bind h).imp fun b s2 ρ2 H2 X2 R2 h u hu => ?_⟩
  split at h
  · rename_i hf
    refine ⟨_, a, b, _, v, u, rfl, R2.rs.here, (hv.mono ha X2 R1.rs.out).w, hu.w, hf, fun H3 z x3 rz => ?_⟩
    cases rz
    refine ⟨true, rfl, ?_⟩
    rw [if_pos rfl]
    refine ⟨Z, ρ2, e, s2, R2.sm x3, (Post.bind (Post.sm x3 h)).imp fun c s4 ρ4 H4 X4 R4 h w hw => ?_⟩
    obtain ⟨d, hd, q⟩ := Post.of h
    obtain ⟨t, rfl⟩ := hg _ _ _ hd
    refine ⟨_, b, c, _, u, w, rfl, R4.rs.here, (hu.mono hb ((Ex.sm x3).trans X4) R2.rs.out).w, hw.w, hd, fun H5 z x5 rz => ?_⟩
    cases rz
    obtain ⟨t', ht', q⟩ := Post.of (q ρ4 H4 Ex.refl R4)
    cases ht'
    exact ⟨_, rfl, q ρ4 H5 (Ex.sm x5) (R4.sm x5)⟩
  · rename_i hf
    refine ⟨_, a, b, _, v, u, rfl, R2.rs.here, (hv.mono ha X2 R1.rs.out).w, hu.w, hf, fun H3 z x3 rz => ?_⟩
    cases rz
    refine ⟨false, rfl, ?_⟩
    rw [if_neg Bool.false_ne_true]
    obtain ⟨t', ht', q⟩ := Post.of (h ρ2 H3 (Ex.sm x3) (R2.sm x3))
    cases ht'
    exact ⟨false, rfl, q ρ2 H3 Ex.refl (R2.sm x3)⟩
  · exact h.elim
/-- a slice's bound -/
def tO (P : Pm) (W : WX) (b : Bool) (ev : Env → Store → Res D) : TO := fun σ H Q => ∃ Z ρ e s, Rp P Z ρ H σ e s ∧
  Post P Z ρ H σ e W ((ev e s).bind fun l s => .of (gI b l) s) fun d _ ρ1 H1 => ∀ o, d = oD o → Q o H1
theorem PO_imp {X : Cx} {e : Option Expr} {t t' : TO} (h : PO X e t) (f : ∀ σ H Q, t' σ H Q → t σ H Q) : PO X e t' := ⟨fun pins s σ H Q I q => h.run pins s σ H Q I (f σ H Q q)⟩
theorem po_int {X : Cx} {W : WX} {y : Expr} {ev : Env → Store → Res D} (h : L2.PE X y (tE P W 0 ev)) : PO X (some y) (tO P W false ev) := by
  refine PO_imp (po_some h) fun σ H Q q => ?_
  obtain ⟨Z, ρ, e, s, R, q⟩ := q
  refine ⟨Z, ρ, e, s, R, (Post.bind q).imp fun d s1 ρ1 H1 X1 R1 q v hv => ?_⟩
  obtain ⟨d', hd, q⟩ := Post.of q
  cases d <;> simp only [gI, Option.some.injEq, reduceCtorEq] at hd
  subst hd
  cases hv
  exact ⟨_, rfl, q ρ1 H1 Ex.refl R1 (some _) rfl⟩
theorem isNonE_eq {a : Nt.PE} (h : isNonE a = true) : a = .cst .non := by
  unfold isNonE at h
  split at h
  · rfl
  · cases h
theorem po_non {X : Cx} {W : WX} : PO X none (tO P W true (evE G C (.cst .non))) := by
  refine PO_imp po_none fun σ H Q q => ?_
  obtain ⟨Z, ρ, e, s, R, q⟩ := q
  simp only [evE, bind_ok, gI, of_some] at q
  exact q ρ H Ex.refl R none rfl
theorem red_slc {W : WX} {k : Nat} {a lo hi : Nt.PE} {σ : L2.St} {H : Hp} {Q : VK} (hk : k ≤ 1)
    (h : tE P W 0 (fun e s => (evE G C a e s).bind fun x s => ((evE G C lo e s).bind fun l s => .of (gI (isNonE lo) l) s).bind fun l s => ((evE G C hi e s).bind fun h s => .of (gI (isNonE hi) h) s).bind fun h s => .of (sliceD x l h) s) σ H Q) :
    tSl (rSl P) (tE P W k (evE G C a)) (tO P W (isNonE lo) (evE G C lo)) (tO P W (isNonE hi) (evE G C hi)) σ H Q := by
  obtain ⟨Z, ρ, e, s, R, h⟩ := h
  refine ⟨Z, ρ, e, s, R, (Post.bind h).imp fun x s1 ρ1 H1 X1 R1 h v hv => ?_⟩
  refine ⟨Z, ρ1, e, s1, R1, (Post.bind h).imp fun l s2 ρ2 H2 X2 R2 h lo' hl => ?_⟩
  refine ⟨Z, ρ2, e, s2, R2, (Post.bind h).imp fun r s3 ρ3 H3 X3 R3 h hi' hr => ?_⟩
  subst hl hr
  obtain ⟨d, hd, q⟩ := Post.of h
  exact ⟨_, x, d, R3.rs.here, (hv.mono hk (X2.trans X3) R1.rs.out).w, hd, fun H4 z x4 rz => q ρ3 H4 (Ex.sm x4) (R3.sm x4) z rz⟩
theorem chkA_ok {sc : Sc} : ∀ (es : PAs) {xs : List Expr}, chkA T es sc xs = true → ∀ x ∈ xs, okE x = true
  | .nil, xs, h => by
    simp only [chkA, List.isEmpty_iff] at h
    subst h
    simp
  | .val a es, xs, h => by
    cases xs with
    | nil => simp [chkA] at h
    | cons x xs =>
      simp only [chkA, Bool.and_eq_true] at h
      intro y hy
      rcases List.mem_cons.mp hy with rfl | hy
      · exact h.1.2
      · exact chkA_ok es h.2 y hy
  | .ref a es, xs, h => by
    cases xs with
    | nil => simp [chkA] at h
    | cons x xs =>
      simp only [chkA, Bool.and_eq_true] at h
      intro y hy
      rcases List.mem_cons.mp hy with rfl | hy
      · exact h.1.2
      · exact chkA_ok es h.2 y hy
mutual
theorem sE : ∀ (a : Nt.PE) {sc : Sc} {W : WX} {X : Cx} {e : Expr}, XOk P G C T n sc W X → chkE T a sc e = true → L2.PE X e (tE P W (kind a) (evE G C a))
  | .cst d, sc, W, X, e, ok, h => by
    simp only [chkE] at h
    split at h
    · exact cst_pe h
    · cases h
  | .gl k, sc, W, X, e, ok, h => by
    simp only [chkE] at h
    split at h
    · simp only [Bool.and_eq_true, decide_eq_true_eq] at h
      obtain ⟨⟨h1, h2⟩, h3⟩ := h
      obtain ⟨u, v, d, e1, e2, e3, e4⟩ := ok.kn.glob _ _ h2
      refine PE_imp (pe_glob (ok.gl h1) e1 e2 (nb h3)) fun σ H Q q => red_const (W := W) (σ := σ) (d := d) e4 ?_
      obtain ⟨Z, ρ, e, s, R, q⟩ := q
      exact ⟨Z, ρ, e, s, R, by simp only [evE, e3, of_some] at q; exact q⟩
    · cases h
  | .var i, sc, W, X, e, ok, h => by
    simp only [chkE] at h
    split at h
    · simp only [Bool.and_eq_true, decide_eq_true_eq] at h
      obtain ⟨⟨⟨h1, h2⟩, h3⟩, h4⟩ := h
      exact PE_imp (pe_var (by rw [ok.nm]; exact h1) (ok.vis h2) (nb h3) (nb h4)) fun σ H Q q => red_var q
    · cases h
  | .peek i, sc, W, X, e, ok, h => by
    simp only [chkE] at h
    split at h
    · simp only [Bool.and_eq_true, decide_eq_true_eq] at h
      obtain ⟨⟨⟨h1, h2⟩, h3⟩, h4⟩ := h
      exact PE_imp (pe_var (by rw [ok.nm]; exact h1) (ok.vis h2) (nb h3) (nb h4)) fun σ H Q q => red_peek q
    · cases h
  | .sn r, sc, W, X, e, ok, h => by
    simp only [chkE] at h
    cases r with
    | rv i =>
      simp only [chkR] at h
      split at h
      · simp only [Bool.and_eq_true, decide_eq_true_eq] at h
        obtain ⟨⟨⟨h1, h2⟩, h3⟩, h4⟩ := h
        exact PE_imp (pe_var (by rw [ok.nm]; exact h1) (ok.vis h2) (nb h3) (nb h4)) fun σ H Q q => red_sn (X := X) q
      · cases h
    | rf r k => simp [chkR] at h
  | .tup es, sc, W, X, e, ok, h => by
    simp only [chkE] at h
    split at h
    · simp only [Bool.and_eq_true, decide_eq_true_eq] at h
      refine PE_imp (pe_tup (sEs es ok h.1)) fun σ H Q q => red_tup (m := lenEs es) ?_ (evEs_len es) q
      · rw [← chkEs_len es sc _ h.1]; exact h.2
    · cases h
  | .lst es, sc, W, X, e, ok, h => by
    simp only [chkE] at h
    split at h
    · simp only [Bool.and_eq_true, decide_eq_true_eq] at h
      refine PE_imp (pe_lst (sEs es ok h.1)) fun σ H Q q => red_lst (m := lenEs es) ?_ (evEs_len es) q
      · rw [← chkEs_len es sc _ h.1]; exact h.2
    · cases h
  | .o1 o a, sc, W, X, e, ok, h => by
    simp only [chkE] at h
    split at h
    · rename_i x hx
      exact PE_imp (s1 ok hx (sE a ok h) fun σ H Q Q' f q => tE_mono f q) fun σ H Q q => red1 q
    · cases h
  | .o2 o a b, sc, W, X, e, ok, h => by
    simp only [chkE] at h
    split at h
    · rename_i x y hx
      simp only [Bool.and_eq_true, decide_eq_true_eq] at h
      exact PE_imp (s2 ok hx (sE a ok h.1.1) (sE b ok h.1.2)) fun σ H Q q => red2 h.2 q
    · cases h
  | .chain o p a b c, sc, W, X, e, ok, h => by
    simp only [chkE] at h
    split at h
    · simp only [Bool.and_eq_true, decide_eq_true_eq] at h
      obtain ⟨⟨⟨⟨⟨⟨⟨⟨h1, h2⟩, h3⟩, h4⟩, h5⟩, h6⟩, h7⟩, h8⟩, h9⟩ := h
      refine PE_imp (pe_chain (opC ok h1) (opC ok h2) (sE a ok h3) (sE b ok h4) (sE c ok h5) (nomarks h9)) fun σ H Q q => red_chain h6 h7 q
    · cases h
  | .band a b, sc, W, X, e, ok, h => by
    simp only [chkE] at h
    split at h
    · rename_i x y r pos
      simp only [Bool.and_eq_true, decide_eq_true_eq] at h
      obtain ⟨⟨⟨h1, h2⟩, h3⟩, h4⟩ := h
      have ha := sE a ok h1
      rw [h3] at ha
      have hb : L2.PE X (.BoolOp .And (y :: r) pos) (tE P W 0 (evE G C b)) := by
        cases r with
        | nil =>
          have hb := sE b ok h2
          rw [h4] at hb
          exact pe_one hb
        | cons z r =>
          have hb := sE b ok h2
          rw [h4] at hb
          exact hb
      exact PE_imp (pe_and ha hb) fun σ H Q q => red_and q
    · cases h
  | .bor a b, sc, W, X, e, ok, h => by
    simp only [chkE] at h
    split at h
    · rename_i x y r pos
      simp only [Bool.and_eq_true, decide_eq_true_eq] at h
      obtain ⟨⟨⟨h1, h2⟩, h3⟩, h4⟩ := h
      have ha := sE a ok h1
      rw [h3] at ha
      have hb : L2.PE X (.BoolOp .Or (y :: r) pos) (tE P W 0 (evE G C b)) := by
        cases r with
        | nil =>
          have hb := sE b ok h2
          rw [h4] at hb
          exact pe_one hb
        | cons z r =>
          have hb := sE b ok h2
          rw [h4] at hb
          exact hb
      exact PE_imp (pe_or ha hb) fun σ H Q q => red_or q
    · cases h
  | .bnot (.v a), sc, W, X, e, ok, h => by
    cases e with
    | UnaryOp op x pos =>
      cases op with
      | Not =>
        simp only [chkE] at h
        exact PE_imp (pe_notT (sE a ok h)) fun σ H Q q => red_not ok.K q
      | _ => simp [chkE] at h
    | _ => simp [chkE] at h
  | .bnot (.and _ _), sc, W, X, e, ok, h => by
    cases e with
    | UnaryOp op x pos => cases op <;> simp [chkE] at h
    | _ => simp [chkE] at h
  | .bnot (.or _ _), sc, W, X, e, ok, h => by
    cases e with
    | UnaryOp op x pos => cases op <;> simp [chkE] at h
    | _ => simp [chkE] at h
  | .bnot (.not _), sc, W, X, e, ok, h => by
    cases e with
    | UnaryOp op x pos => cases op <;> simp [chkE] at h
    | _ => simp [chkE] at h
  | .bnot .yes, sc, W, X, e, ok, h => by
    cases e with
    | UnaryOp op x pos => cases op <;> simp [chkE] at h
    | _ => simp [chkE] at h
  | .ifx c a b, sc, W, X, e, ok, h => by
    simp only [chkE] at h
    split at h
    · simp only [Bool.and_eq_true, decide_eq_true_eq] at h
      obtain ⟨⟨⟨⟨h1, h2⟩, h3⟩, h4⟩, h5⟩ := h
      have ha := sE a ok h2
      rw [h4] at ha
      have hb := sE b ok h3
      rw [h5] at hb
      exact PE_imp (pe_ifExp (sT c ok h1) ha hb) fun σ H Q q => red_if q
    · cases h
  | .call f es, sc, W, X, e, ok, h => by
    simp only [chkE] at h
    split at h
    · rename_i x p y ys pos
      simp only [Bool.and_eq_true, decide_eq_true_eq] at h
      obtain ⟨⟨⟨h1, h2⟩, h3⟩, h4⟩ := h
      obtain ⟨ad, fd, ps, e1, e2, e3, e4⟩ := ok.kn.fn _ _ h2
      have hp := chkA_ok es h4
      have hK : X.K = P.K := ok.K
      refine PE_imp (pe_callS (F := hK ▸ e4) ok.room (ok.gl h1) e1 (by rw [hK]; exact e2) (by rw [hK]; exact e3) (fun σ => L2N.passAt ok.tk σ) (sA es ok h4) (nb h3) (star_ok (hp y List.mem_cons_self)) (plain_star fun z hz => hp z (List.mem_cons_of_mem _ hz))) fun σ H Q q => red_call q
    · cases h
  | .dct _ _ _, _, _, _, _, _, h => by simp [chkE] at h
  | .o3 _ _ _ _, _, _, _, _, _, h => by simp [chkE] at h
  | .slc a lo hi, sc, W, X, e, ok, h => by
    simp only [chkE] at h
    split at h
    · rename_i x l hh p1 pos
      simp only [Bool.and_eq_true, decide_eq_true_eq] at h
      obtain ⟨⟨⟨h1, h2⟩, h3⟩, h4⟩ := h
      have hl : PO X l (tO P W (isNonE lo) (evE G C lo)) := by
        split at h3
        · cases isNonE_eq h3; exact po_non
        · simp only [Bool.and_eq_true, decide_eq_true_eq, Bool.not_eq_true'] at h3
          have := sE lo ok h3.1.2
          rw [h3.2] at this
          rw [h3.1.1]
          exact po_int this
      have hu : PO X hh (tO P W (isNonE hi) (evE G C hi)) := by
        split at h4
        · cases isNonE_eq h4; exact po_non
        · simp only [Bool.and_eq_true, decide_eq_true_eq, Bool.not_eq_true'] at h4
          have := sE hi ok h4.1.2
          rw [h4.2] at this
          rw [h4.1.1]
          exact po_int this
      exact PE_imp (pe_slice (sl_all ok.K) (sE a ok h1) hl hu) fun σ H Q q => red_slc h2 q
    · cases h
  | .callv _ _, _, _, _, _, _, h => by simp [chkE] at h
  | .lc t it cond elt own, sc, W, X, e, ok, h => by
    simp only [chkE] at h
    split at h
    · rename_i x tg iter ifs z scope pos
      simp only [Bool.and_eq_true, decide_eq_true_eq, List.all_eq_true] at h
      obtain ⟨⟨⟨⟨⟨⟨⟨⟨hz, h1⟩, h2⟩, h3⟩, h4⟩, h5⟩, h6⟩, h7⟩, h8⟩ := h
      subst hz
      have hb := fun s H Cd cl fp => blk_ok ok scope (blk_kf h7) s H Cd cl fp
      have he := fun s H Cd cl fp => sE elt (hb s H Cd cl fp) h5
      rw [h6] at he
      have ht : ∀ (s : Shared) (H : Hp) (Cd : Addr) (cl : List (Str × Addr)) (fp : List Addr), PTs (X.blk s H scope (compEnvC scope cl Cd X.env) fp) ifs (tT P W0 (evT G C cond)) := fun s H Cd cl fp => by
        split at h4
        · cases cond <;> first | (exact PTs_imp pts_nil fun σ H Q q => red_yes q) | (simp at h4)
        · exact pts_one (sT cond (hb s H Cd cl fp) h4)
        · cases h4
      refine PE_imp (pe_lc ok.calm ok.nd (sI it ok h1) (blk_of ok h7) (fun s H Cd cl fp => sG t (hb s H Cd cl fp) h3) ht he (nofold h2)) fun σ H Q q => ?_
      rw [ownP_snd]
      exact red_lc h8 q
    · cases h
  | .fld _ _, _, _, _, _, _, h => by simp [chkE] at h
  | .rfld _ _, _, _, _, _, _, h => by simp [chkE] at h
  | .lam _ _, _, _, _, _, _, h => by simp [chkE] at h
  | .inR x a b, sc, W, X, e, ok, h => by
    simp only [chkE] at h
    split at h
    · rename_i u f p1 y z p2 p3
      simp only [Bool.and_eq_true, beq_iff_eq, decide_eq_true_eq] at h
      obtain ⟨⟨⟨⟨⟨⟨⟨⟨⟨rfl, h2⟩, h3⟩, h4⟩, h5⟩, h6⟩, h7⟩, h8⟩, h9⟩, h10⟩ := h
      have hx := sE x ok h5
      rw [h8] at hx
      have ha := sE a ok h6
      rw [h9] at ha
      have hb := sE b ok h7
      rw [h10] at hb
      have hr := pe_callTy (X := X) (x := ("range" : Str)) (p := p1) (pos := p2) cr_range2 (ok.gl h2) (ok.kn.blt _ (by decide)) boot_range (pa_cons ha (pa_cons hb pa_nil (star_ok h4)) (star_ok h3)) (by decide) (by decide) (star_ok h3) (by rw [star_ok h4]; rfl)
      exact PE_imp (pe_cmpR op_in_rng hx hr rfl) fun σ H Q q => red_inR q
    · cases h
  | .lrng1 a, sc, W, X, e, ok, h => by
    simp only [chkE] at h
    split at h
    · rename_i f p1 g p2 x p3 p4
      simp only [Bool.and_eq_true, beq_iff_eq, decide_eq_true_eq] at h
      obtain ⟨⟨⟨⟨⟨⟨rfl, h2⟩, rfl⟩, h4⟩, h5⟩, h6⟩, h7⟩ := h
      have ha := sE a ok h6
      rw [h7] at ha
      exact PE_imp (pe_listRg ok.calm (ok.gl h2) (ok.kn.blt _ (by decide)) (prg_1 (ok.gl h4) (ok.kn.blt _ (by decide)) ha (star_ok h5))) fun σ H Q q => red_lrng1 q
    · cases h
  | .lrng2 a b, sc, W, X, e, ok, h => by
    simp only [chkE] at h
    split at h
    · rename_i f p1 g p2 x y p3 p4
      simp only [Bool.and_eq_true, beq_iff_eq, decide_eq_true_eq] at h
      obtain ⟨⟨⟨⟨⟨⟨⟨⟨⟨rfl, h2⟩, rfl⟩, h4⟩, h5⟩, h5'⟩, h6⟩, h6'⟩, h7⟩, h7'⟩ := h
      have ha := sE a ok h6
      rw [h7] at ha
      have hb := sE b ok h6'
      rw [h7'] at hb
      exact PE_imp (pe_listRg ok.calm (ok.gl h2) (ok.kn.blt _ (by decide)) (prg_2 (ok.gl h4) (ok.kn.blt _ (by decide)) ha hb (star_ok h5) (star_ok h5') (by rw [star_ok h5']; rfl))) fun σ H Q q => red_lrng2 q
    · cases h
theorem sEs : ∀ (es : PEs) {sc : Sc} {W : WX} {X : Cx} {xs : List Expr}, XOk P G C T n sc W X → chkEs T es sc xs = true → L2.PA X xs (tEs P W (evEs G C es))
  | .nil, sc, W, X, xs, ok, h => by
    simp only [chkEs, List.isEmpty_iff] at h
    subst h
    exact PA_imp pa_nil fun σ H Q q => red_nil q
  | .cons a es, sc, W, X, xs, ok, h => by
    cases xs with
    | nil => simp [chkEs] at h
    | cons x xs =>
      simp only [chkEs, Bool.and_eq_true, decide_eq_true_eq] at h
      obtain ⟨⟨⟨h1, h2⟩, h3⟩, h4⟩ := h
      have ha := sE a ok h1
      rw [h2] at ha
      exact PA_imp (pa_cons ha (sEs es ok h4) (star_ok h3)) fun σ H Q q => red_cons q
theorem sA : ∀ (es : PAs) {sc : Sc} {W : WX} {X : Cx} {xs : List Expr}, XOk P G C T n sc W X → chkA T es sc xs = true → L2.PA X xs (tA P W (evA G C es))
  | .nil, sc, W, X, xs, ok, h => by
    simp only [chkA, List.isEmpty_iff] at h
    subst h
    exact PA_imp pa_nil fun σ H Q q => red_nilA q
  | .val a es, sc, W, X, xs, ok, h => by
    cases xs with
    | nil => simp [chkA] at h
    | cons x xs =>
      simp only [chkA, Bool.and_eq_true, decide_eq_true_eq] at h
      obtain ⟨⟨⟨h1, h2⟩, h3⟩, h4⟩ := h
      have ha := sE a ok h1
      rw [h2] at ha
      exact PA_imp (pa_cons ha (sA es ok h4) (star_ok h3)) fun σ H Q q => red_consA q
  | .ref r es, sc, W, X, xs, ok, h => by
    cases xs with
    | nil => simp [chkA] at h
    | cons x xs =>
      simp only [chkA, Bool.and_eq_true] at h
      obtain ⟨⟨h1, h2⟩, h3⟩ := h
      cases r with
      | rv i =>
        simp only [chkR] at h1
        split at h1
        · simp only [Bool.and_eq_true, decide_eq_true_eq] at h1
          obtain ⟨⟨⟨g1, g2⟩, g3⟩, g4⟩ := h1
          exact PA_imp (pa_cons (pe_var (by rw [ok.nm]; exact g1) (ok.vis g2) (nb g3) (nb g4)) (sA es ok h3) (star_ok h2)) fun σ H Q q => red_consR q
        · cases h1
      | rf r k => simp [chkR] at h1
theorem sT : ∀ (a : Nt.PT) {sc : Sc} {W : WX} {X : Cx} {e : Expr}, XOk P G C T n sc W X → chkT T a sc e = true → L2.PT X e (tT P W (evT G C a))
  | .and a b, sc, W, X, e, ok, h => by
    simp only [chkT] at h
    split at h
    · rename_i x y r pos
      simp only [Bool.and_eq_true] at h
      have hb : L2.PW X (.BoolOp .And (y :: r) pos) (tT P W (evT G C b)) := by
        cases r with
        | nil => exact pw_and1 (sT b ok h.2)
        | cons z r => exact sTW_and b ok h.2
      exact PT_imp (PW.pt (pw_and (sT a ok h.1) hb)) fun σ H Q q => red_andT q
    · cases h
  | .or a b, sc, W, X, e, ok, h => by
    simp only [chkT] at h
    split at h
    · rename_i x y r pos
      simp only [Bool.and_eq_true] at h
      have hb : L2.PW X (.BoolOp .Or (y :: r) pos) (tT P W (evT G C b)) := by
        cases r with
        | nil => exact pw_or1 (sT b ok h.2)
        | cons z r => exact sTW_or b ok h.2
      exact PT_imp (PW.pt (pw_or (sT a ok h.1) hb)) fun σ H Q q => red_orT q
    · cases h
  | .not a, sc, W, X, e, ok, h => by
    simp only [chkT] at h
    split at h
    · exact PT_imp (pt_not (sT a ok h)) fun σ H Q q => red_notT q
    · cases h
  | .v (.o1 o a), sc, W, X, e, ok, h => by
    simp only [chkT, Bool.and_eq_true] at h
    by_cases hc : ∃ a b c d, e = .Compare a b c d
    · obtain ⟨l, b, c, d, rfl⟩ := hc
      have h1 := h.1
      simp only [chkE] at h1
      split at h1
      · rename_i x hx
        exact PT_imp (s1T ok hx (sE a ok h1)) fun σ H Q q => red1T (o1_bl hx) q
      · cases h1
    · exact pt_tr ok.K (sE (.o1 o a) ok h.1) h.2 fun a b c d z => hc ⟨a, b, c, d, z⟩
  | .v (.o2 o a b), sc, W, X, e, ok, h => by
    simp only [chkT, Bool.and_eq_true] at h
    by_cases hc : ∃ a b c d, e = .Compare a b c d
    · obtain ⟨l, bb, c, d, rfl⟩ := hc
      have h1 := h.1
      simp only [chkE] at h1
      split at h1
      · rename_i x y hx
        simp only [Bool.and_eq_true, decide_eq_true_eq] at h1
        obtain ⟨op, hop, ht⟩ := s2T ok hx (sE a ok h1.1.1) (sE b ok h1.1.2)
        exact PT_imp ht fun σ H Q q => red2T (cmp_bl hop) h1.2 q
      · cases h1
    · exact pt_tr ok.K (sE (.o2 o a b) ok h.1) h.2 fun a b c d z => hc ⟨a, b, c, d, z⟩
  | .v (.chain o p a b c), sc, W, X, e, ok, h => by
    simp only [chkT, Bool.and_eq_true] at h
    have h1 := h.1
    simp only [chkE] at h1
    split at h1
    · simp only [Bool.and_eq_true, decide_eq_true_eq] at h1
      obtain ⟨⟨⟨⟨⟨⟨⟨⟨h1, h2⟩, h3⟩, h4⟩, h5⟩, h6⟩, h7⟩, h8⟩, h9⟩ := h1
      exact PT_imp (pt_chain (opC ok h1) (opC ok h2) (sE a ok h3) (sE b ok h4) (sE c ok h5) (nomarks h9)) fun σ H Q q => red_chainT (cmp_bl h2) h6 h7 q
    · cases h1
  | .v (.cst d), sc, W, X, e, ok, h => by
    simp only [chkT, Bool.and_eq_true] at h
    exact pt_tr ok.K (sE (.cst d) ok h.1) h.2 fun a b c d z => by subst z; simp [chkE] at h
  | .v (.gl k), sc, W, X, e, ok, h => by
    simp only [chkT, Bool.and_eq_true] at h
    exact pt_tr ok.K (sE (.gl k) ok h.1) h.2 fun a b c d z => by subst z; simp [chkE] at h
  | .v (.var k), sc, W, X, e, ok, h => by
    simp only [chkT, Bool.and_eq_true] at h
    exact pt_tr ok.K (sE (.var k) ok h.1) h.2 fun a b c d z => by subst z; simp [chkE] at h
  | .v (.peek k), sc, W, X, e, ok, h => by
    simp only [chkT, Bool.and_eq_true] at h
    exact pt_tr ok.K (sE (.peek k) ok h.1) h.2 fun a b c d z => by subst z; simp [chkE] at h
  | .v (.sn (.rv k)), sc, W, X, e, ok, h => by
    simp only [chkT, Bool.and_eq_true] at h
    exact pt_tr ok.K (sE (.sn (.rv k)) ok h.1) h.2 fun a b c d z => by subst z; simp [chkE, chkR] at h
  | .v (.sn (.rf r k)), sc, W, X, e, ok, h => by simp [chkT, chkE, chkR] at h
  | .v (.tup es), sc, W, X, e, ok, h => by
    simp only [chkT, Bool.and_eq_true] at h
    exact pt_tr ok.K (sE (.tup es) ok h.1) h.2 fun a b c d z => by subst z; simp [chkE] at h
  | .v (.lst es), sc, W, X, e, ok, h => by
    simp only [chkT, Bool.and_eq_true] at h
    exact pt_tr ok.K (sE (.lst es) ok h.1) h.2 fun a b c d z => by subst z; simp [chkE] at h
  | .v (.band a b), sc, W, X, e, ok, h => by
    simp only [chkT, chkE, Bool.and_eq_true] at h
    split at h
    · simp [tstOk] at h
    · simp at h
  | .v (.bor a b), sc, W, X, e, ok, h => by
    simp only [chkT, chkE, Bool.and_eq_true] at h
    split at h
    · simp [tstOk] at h
    · simp at h
  | .v (.bnot a), sc, W, X, e, ok, h => by
    exfalso
    simp only [chkT, Bool.and_eq_true] at h
    cases e <;> simp only [tstOk, Bool.false_eq_true, and_false] at h
    all_goals (cases a <;> simp [chkE] at h)
  | .v (.ifx c a b), sc, W, X, e, ok, h => by
    simp only [chkT, chkE, Bool.and_eq_true] at h
    split at h
    · simp [tstOk] at h
    · simp at h
  | .v (.call f es), sc, W, X, e, ok, h => by
    simp only [chkT, Bool.and_eq_true] at h
    exact pt_tr ok.K (sE (.call f es) ok h.1) h.2 fun a b c d z => by subst z; simp [chkE] at h
  | .v (.dct _ _ _), sc, W, X, e, ok, h => by simp [chkT, chkE] at h
  | .v (.o3 _ _ _ _), sc, W, X, e, ok, h => by simp [chkT, chkE] at h
  | .v (.slc p q r), sc, W, X, e, ok, h => by
    simp only [chkT, Bool.and_eq_true] at h
    exact pt_tr ok.K (sE (.slc p q r) ok h.1) h.2 fun a b c d z => by subst z; simp [chkE] at h
  | .v (.callv _ _), sc, W, X, e, ok, h => by simp [chkT, chkE] at h
  | .v (.lc t it cond elt own), sc, W, X, e, ok, h => by
    simp only [chkT, Bool.and_eq_true] at h
    exact pt_tr ok.K (sE (.lc t it cond elt own) ok h.1) h.2 fun a b c d z => by subst z; simp [chkE] at h
  | .v (.fld _ _), sc, W, X, e, ok, h => by simp [chkT, chkE] at h
  | .v (.rfld _ _), sc, W, X, e, ok, h => by simp [chkT, chkE] at h
  | .v (.lam _ _), sc, W, X, e, ok, h => by simp [chkT, chkE] at h
  | .v (.inR x a b), sc, W, X, e, ok, h => by
    simp only [chkT, Bool.and_eq_true] at h
    replace h := h.1
    simp only [chkE] at h
    split at h
    · rename_i u f p1 y z p2 p3
      simp only [Bool.and_eq_true, beq_iff_eq, decide_eq_true_eq] at h
      obtain ⟨⟨⟨⟨⟨⟨⟨⟨⟨rfl, h2⟩, h3⟩, h4⟩, h5⟩, h6⟩, h7⟩, h8⟩, h9⟩, h10⟩ := h
      have hx := sE x ok h5
      rw [h8] at hx
      have ha := sE a ok h6
      rw [h9] at ha
      have hb := sE b ok h7
      rw [h10] at hb
      have hr := pe_callTy (X := X) (x := ("range" : Str)) (p := p1) (pos := p2) cr_range2 (ok.gl h2) (ok.kn.blt _ (by decide)) boot_range (pa_cons ha (pa_cons hb pa_nil (star_ok h4)) (star_ok h3)) (by decide) (by decide) (star_ok h3) (by rw [star_ok h4]; rfl)
      exact PT_imp (pt_cmpR op_in_rng hx hr rfl) fun σ H Q q => red_inRT q
    · cases h
  | .v (.lrng1 k), sc, W, X, e, ok, h => by
    simp only [chkT, Bool.and_eq_true] at h
    exact pt_tr ok.K (sE (.lrng1 k) ok h.1) h.2 fun a b c d z => by subst z; simp [chkE] at h
  | .v (.lrng2 k l), sc, W, X, e, ok, h => by
    simp only [chkT, Bool.and_eq_true] at h
    exact pt_tr ok.K (sE (.lrng2 k l) ok h.1) h.2 fun a b c d z => by subst z; simp [chkE] at h
  | .yes, sc, W, X, e, ok, h => by simp [chkT] at h
theorem sI : ∀ (a : Nt.PI) {sc : Sc} {W : WX} {X : Cx} {tg e : Expr}, XOk P G C T n sc W X → chkI T a sc tg e = true → L2.PI X tg e (tI P W (kindI a) (evI G C a))
  | .of a, sc, W, X, tg, e, ok, h => by
    simp only [chkI, Bool.and_eq_true, decide_eq_true_eq] at h
    have ha := sE a ok h.1
    exact PI_imp (PI_or (pi_tup ha) (PI_or (pi_list ha) (pi_str ha))) fun σ H R q => red_of ok.K h.2 q
  | .rng1 a, sc, W, X, tg, e, ok, h => by
    simp only [chkI] at h
    split at h
    · rename_i f p x pos
      simp only [Bool.and_eq_true, beq_iff_eq, decide_eq_true_eq] at h
      obtain ⟨⟨⟨⟨rfl, h2⟩, h3⟩, h4⟩, h5⟩ := h
      have ha := sE a ok h4
      rw [h5] at ha
      exact PI_imp (pi_range1 (ok.gl h2) (ok.kn.blt _ (by decide)) (pa_cons ha pa_nil (star_ok h3)) (star_ok h3)) fun σ H R q => red_rng1 q
    · cases h
  | .rng2 a b, sc, W, X, tg, e, ok, h => by
    simp only [chkI] at h
    split at h
    · rename_i f p x y pos
      simp only [Bool.and_eq_true, beq_iff_eq, decide_eq_true_eq] at h
      obtain ⟨⟨⟨⟨⟨⟨⟨rfl, h2⟩, h3⟩, h3'⟩, h4⟩, h4'⟩, h5⟩, h5'⟩ := h
      have ha := sE a ok h4
      rw [h5] at ha
      have hb := sE b ok h4'
      rw [h5'] at hb
      exact PI_imp (pi_range2 (ok.gl h2) (ok.kn.blt _ (by decide)) (pa_cons ha (pa_cons hb pa_nil (star_ok h3')) (star_ok h3)) (by rw [star_ok h3, star_ok h3']; rfl) (by rw [star_ok h3']; rfl)) fun σ H R q => red_rng2 q
    · cases h
  | .rng3 _ _ _, _, _, _, _, _, _, h => by simp [chkI] at h
  | .enum a, sc, W, X, tg, e, ok, h => by
    simp only [chkI] at h
    split at h
    · rename_i f p x pos
      simp only [Bool.and_eq_true, beq_iff_eq, decide_eq_true_eq] at h
      obtain ⟨⟨⟨⟨⟨rfl, h2⟩, h3⟩, h4⟩, h5⟩, h6⟩ := h
      have ha := sE a ok h4
      rw [h5] at ha
      have ht : ∃ es k p, tg = .Tuple es k p := by
        cases tg <;> first | exact ⟨_, _, _, rfl⟩ | (cases h6)
      obtain ⟨es, k, tp, rfl⟩ := ht
      have hp := pa_cons ha pa_nil (star_ok h3)
      exact PI_imp (PI_or (pi_enumT (ok.gl h2) (ok.kn.blt _ (by decide)) hp (star_ok h3)) (pi_enum (ok.gl h2) (ok.kn.blt _ (by decide)) hp (star_ok h3))) fun σ H R q => red_enum ok.K q
    · cases h
  | .zip2 a b, sc, W, X, tg, e, ok, h => by
    simp only [chkI] at h
    split at h
    · rename_i f p x y pos
      simp only [Bool.and_eq_true, beq_iff_eq, decide_eq_true_eq] at h
      obtain ⟨⟨⟨⟨⟨⟨⟨⟨rfl, h2⟩, h3⟩, h3'⟩, h4⟩, h4'⟩, h5⟩, h5'⟩, h6⟩ := h
      have ha := sE a ok h4
      rw [h5] at ha
      have hb := sE b ok h4'
      rw [h5'] at hb
      have ht : ∃ es k p, tg = .Tuple es k p := by
        cases tg <;> first | exact ⟨_, _, _, rfl⟩ | (cases h6)
      obtain ⟨es, k, tp, rfl⟩ := ht
      exact PI_imp (RZ.pi_zipA (ok.gl h2) (ok.kn.blt _ (by decide)) (pa_cons ha (pa_cons hb pa_nil (star_ok h3')) (star_ok h3)) (by rw [star_ok h3]) (by rw [star_ok h3']; rfl)) fun σ H R q => red_zip ok.K q
    · cases h
  | .zip3 a b c, sc, W, X, tg, e, ok, h => by
    simp only [chkI] at h
    split at h
    · rename_i f p x y z pos
      simp only [Bool.and_eq_true, beq_iff_eq, decide_eq_true_eq] at h
      obtain ⟨⟨⟨⟨⟨⟨⟨⟨⟨⟨⟨rfl, h2⟩, h3⟩, h3'⟩, h3''⟩, h4⟩, h4'⟩, h4''⟩, h5⟩, h5'⟩, h5''⟩, h6⟩ := h
      have ha := sE a ok h4
      rw [h5] at ha
      have hb := sE b ok h4'
      rw [h5'] at hb
      have hc := sE c ok h4''
      rw [h5''] at hc
      have ht : ∃ es k p, tg = .Tuple es k p := by
        cases tg <;> first | exact ⟨_, _, _, rfl⟩ | (cases h6)
      obtain ⟨es, k, tp, rfl⟩ := ht
      exact PI_imp (pi_zip3 (ok.gl h2) (ok.kn.blt _ (by decide)) (pa_cons ha (pa_cons hb (pa_cons hc pa_nil (star_ok h3'')) (star_ok h3')) (star_ok h3)) (by rw [star_ok h3]) (by rw [star_ok h3', star_ok h3'']; rfl)) fun σ H R q => red_zip3 ok.K q
    · cases h
/-- a row of tests, whatever stands around -/
theorem sTW_and : ∀ (a : Nt.PT) {sc : Sc} {W : WX} {X : Cx} {x y : Expr} {r : List Expr} {pos : Pos}, XOk P G C T n sc W X → chkT T a sc (.BoolOp .And (x :: y :: r) pos) = true → L2.PW X (.BoolOp .And (x :: y :: r) pos) (tT P W (evT G C a))
  | .and a b, sc, W, X, x, y, r, pos, ok, h => by
    simp only [chkT, Bool.and_eq_true] at h
    have hb : L2.PW X (.BoolOp .And (y :: r) pos) (tT P W (evT G C b)) := by
      cases r with
      | nil => exact pw_and1 (sT b ok h.2)
      | cons z r => exact sTW_and b ok h.2
    exact PW_imp (pw_and (sT a ok h.1) hb) fun σ H Q q => red_andT q
  | .or a b, sc, W, X, x, y, r, pos, ok, h => by simp [chkT] at h
  | .not a, sc, W, X, x, y, r, pos, ok, h => by simp [chkT] at h
  | .v a, sc, W, X, x, y, r, pos, ok, h => by simp [chkT, tstOk] at h
  | .yes, sc, W, X, x, y, r, pos, ok, h => by simp [chkT] at h
theorem sTW_or : ∀ (a : Nt.PT) {sc : Sc} {W : WX} {X : Cx} {x y : Expr} {r : List Expr} {pos : Pos}, XOk P G C T n sc W X → chkT T a sc (.BoolOp .Or (x :: y :: r) pos) = true → L2.PW X (.BoolOp .Or (x :: y :: r) pos) (tT P W (evT G C a))
  | .or a b, sc, W, X, x, y, r, pos, ok, h => by
    simp only [chkT, Bool.and_eq_true] at h
    have hb : L2.PW X (.BoolOp .Or (y :: r) pos) (tT P W (evT G C b)) := by
      cases r with
      | nil => exact pw_or1 (sT b ok h.2)
      | cons z r => exact sTW_or b ok h.2
    exact PW_imp (pw_or (sT a ok h.1) hb) fun σ H Q q => red_orT q
  | .and a b, sc, W, X, x, y, r, pos, ok, h => by simp [chkT] at h
  | .not a, sc, W, X, x, y, r, pos, ok, h => by simp [chkT] at h
  | .v a, sc, W, X, x, y, r, pos, ok, h => by simp [chkT, tstOk] at h
  | .yes, sc, W, X, x, y, r, pos, ok, h => by simp [chkT] at h
end
end
end Nt
set_option Elab.async false
set_option linter.all false
set_option maxRecDepth 100000
set_option maxHeartbeats 4000000
set_option autoImplicit false
/-! E2l: the evaluator of statements is right -/
namespace Nt
open PySem PySem.Spec PyProof.Rows L2
/-- steps that the text does not have -/
def isHint : Nt.PS → Bool
  | .kill _ => true
  | .freeze _ => true
  | _ => false
def notLc : Expr → Bool
  | .ListComp .. => false
  | _ => true
def notTup : Expr → Bool
  | .Tuple .. => false
  | _ => true
def locO (sc : Sc) (x : Str) : Bool :=
  match sc.lookup x with
  | some .local => true
  | _ => false
def cellO (sc : Sc) (x : Str) : Bool :=
  match sc.lookup x with
  | some .cell => true
  | _ => false
/-- a comprehension's value is stored by itself -/
def lcSw (sc : Sc) (x : Str) (py : Pos) : Expr → Bool
  | .ListComp _ _ scope pos => (locO sc x && py.line == pos.line && !(scope.names.any fun (n, k) => n == x && (k == .local || k == .cell))) || cellO sc x
  | _ => true
section
variable (T : Tx)
def chkN (i : Nat) (sc : Sc) (x : Str) : Bool := decide (T.names[i]? = some x) && visC sc x && x != ("__debug__" : Str) && x != ("__classdict__" : Str)
def chkPs : List (Nat × Md) → PEs → Sc → List Expr → Bool
  | [], .nil, _, [] => true
  | (_, .val) :: r, .cons a es, sc, x :: xs => chkE T a sc x && decide (kind a = 0) && okE x && chkPs r es sc xs
  | (_, .own) :: r, .cons (.lst .nil) es, sc, .List [] _ :: xs => chkPs r es sc xs
  | (_, .own) :: r, .cons (.dct _ .nil .nil) es, sc, .Dict [] [] _ :: xs => chkPs r es sc xs
  | _, _, _, _ => false
/-- two, three local names on one line -/
def chkPar : List (Nat × Md) → Sc → List Expr → Bool
  | [(i, _), (j, _)], sc, [.Name x px, .Name y py] => decide (T.names[i]? = some x) && decide (T.names[j]? = some y) && decide (i ≠ j) && locO sc x && locO sc y && py.line == px.line
  | [(i, _), (j, _), (l, _)], sc, [.Name x px, .Name y py, .Name z pz] => decide (T.names[i]? = some x) && decide (T.names[j]? = some y) && decide (T.names[l]? = some z) && decide (i ≠ j) && decide (i ≠ l) && decide (j ≠ l) && locO sc x && locO sc y && locO sc z && py.line == px.line && pz.line == px.line
  | _, _, _ => false
mutual
def chkS : Nt.PS → Sc → Stmt → Bool
  | .asg t a, sc, st => match st with
    | .Assign [tg] v _ => chkG T t sc tg && chkE T a sc v && decide (kind a = 0) && okE v && (match tg with
      | .Name x py => lcSw sc x py v
      | .Tuple .. => notLc v && notTup v
      | _ => false)
    | _ => false
  | .par is es, sc, st => match st with
    | .Assign [.Tuple ts _ _] (.Tuple vs _ _) _ => chkPs T is es sc vs && chkPar T is sc ts && !(vs.all (foldedForSure 8)) && !(vs.all (constantsAlone 8))
    | _ => false
  | .own i a, sc, st => match st with
    | .Assign [.Name x _] v _ => decide (T.names[i]? = some x) && locC sc x && (match a, v with
      | .lst es, .List xs _ => chkEs T es sc xs && decide (xs.length ≤ 1000)
      | .dct _ .nil .nil, .Dict [] [] _ => true
      | _, _ => false)
    | _ => false
  | .app i a, sc, st => match st with
    | .Expr (.Call (.Attribute (.Name x _) m apos) [e] [] cpos) _ => m == ("append" : Str) && chkN T i sc x && okE e && chkE T a sc e && decide (kind a = 0) && apos.endLine == cpos.line
    | _ => false
  | .ext i a, sc, st => match st with
    | .Expr (.Call (.Attribute (.Name x _) m apos) [e] [] cpos) _ => m == ("extend" : Str) && chkN T i sc x && okE e && chkE T a sc e && decide (kind a = 0) && apos.endLine == cpos.line
    | _ => false
  | .seti i k a, sc, st => match st with
    | .Assign [.Subscript (.Name x _) y _] v _ => chkN T i sc x && chkE T k sc y && chkE T a sc v && decide (kind k = 0) && decide (kind a = 0) && okE y && okE v && notLc v
    | _ => false
  | .ifs c a b, sc, st => match st with
    | .If t p q _ => chkT T c sc t && chkSs a sc p && chkSs b sc q
    | _ => false
  | .for_ t it body, sc, st => match st with
    | .For tg iter p [] _ => chkG T t sc tg && chkI T it sc tg iter && decide (kindI it = 0) && okE iter && chkSs body sc p
    | _ => false
  | .whl c body, sc, st => match st with
    | .While t p [] _ => chkT T c sc t && chkSs body sc p
    | _ => false
  | .try_ body i, sc, st => match st with
    | .Try bs [.ExceptHandler (some (.Name x _)) (some m) [.Return (some (.Call (.Name f _) [.Name m' _] [] _)) _] _] [] [] _ =>
      x == ("NoteError" : Str) && gname sc x && decide (T.cls.lookup x = some 0) && decide (T.names[i]? = some m) && locO sc m && m' == m && m != ("__debug__" : Str) && m != ("__classdict__" : Str) && gname sc f && decide (T.wd = some f) && f != ("__debug__" : Str) && chkSs body sc bs
    | _ => false
  | .ret a, sc, st => match st with
    | .Return (some e) _ => chkE T a sc e && decide (kind a = 0)
    | _ => false
  | .retN, _, st => match st with
    | .Return none _ => true
    | _ => false
  | .ex a, sc, st => match st with
    | .Expr e _ => chkE T a sc e && decide (kind a = 0) && okE e && notLc e
    | _ => false
  | .raise c, sc, st => match st with
    | .Raise (some (.Call (.Name x _) [.Constant (.str _) _ _] [] _)) none _ => gname sc x && decide (T.cls.lookup x = some c) && x != ("__debug__" : Str)
    | _ => false
  | .pass, _, st => match st with
    | .Pass _ => true
    | .Expr (.Constant (.str _) _ _) _ => true
    | _ => false
  | _, _, _ => false
def chkSs : PSs → Sc → List Stmt → Bool
  | .nil, _, sts => sts.isEmpty
  | .cons p ps, sc, sts => if isHint p then chkSs ps sc sts else match sts with
    | st :: sts => chkS p sc st && chkSs ps sc sts
    | [] => false
end
end
theorem PS_imp {X : Cx} {e : Stmt} {t t' : TS} (h : L2.PS X e t) (f : ∀ D σ H, t' D σ H → t D σ H) : L2.PS X e t' := ⟨fun pins s σ H D I q => h.run pins s σ H D I (f D σ H q)⟩
theorem PSs_imp {X : Cx} {e : List Stmt} {t t' : TS} (h : L2.PSs X e t) (f : ∀ D σ H, t' D σ H → t D σ H) : L2.PSs X e t' := ⟨fun pins s σ H D I q => h.run pins s σ H D I (f D σ H q)⟩
theorem PSet.or {X : Cx} {t t' : TSet} (h : PSet X t) (h' : PSet X t') : PSet X (fun o i v H Q => t o i v H Q ∨ t' o i v H Q) := fun pins s σ H o i v ov iv u Q I ro ri rv q => by
  rcases q with q | q
  · exact h pins s σ H o i v ov iv u Q I ro ri rv q
  · exact h' pins s σ H o i v ov iv u Q I ro ri rv q
section
variable {P : Pm} {G : Glob} {C : Calls} {T : Tx} {n : Nat} {W : WX} {De : Ends} {σ : L2.St} {H : Hp}
theorem red_asg {t : Tg} {ev : Env → Store → Res D} (h : tS P W (fun e s => (ev e s).out fun d s => .ofE (bindT t d e) s) De σ H) : tAsg (tE P W 0 ev) (tG P (tgVars t) (bindT t)) De σ H := by
  obtain ⟨Z, ρ, e, s, R, h⟩ := h
  refine ⟨Z, ρ, e, s, R, h.out.imp fun d s1 ρ1 H1 X1 R1 h v hv => ?_⟩
  cases hb : bindT t d e with
  | none => rw [hb] at h; exact h.elim
  | some e' =>
    rw [hb] at h
    exact ⟨Z, ρ1, e, s1, d, e', R1, hv, hb, fun σ' sm em R' => h ρ1 H1 σ' em R'⟩
theorem red_ret {ev : Env → Store → Res D} (h : tS P W (fun e s => (ev e s).out fun d s => .rt d s) De σ H) : tRet (tE P W 0 ev) De σ H := by
  obtain ⟨Z, ρ, e, s, R, h⟩ := h
  refine ⟨Z, ρ, e, s, R, h.out.imp fun d s1 ρ1 H1 X1 R1 h v hv => ?_⟩
  exact h ρ1 H1 v (Em.refl.less fun _ m => .inl m) R1.rsR (RV.less (fun a m => by
    rcases m with m | m
    · exact .inl m
    · exact .inr (.inl m)) hv)
theorem red_retN (h : tS P W (fun _ s => .rt .non s) De σ H) : tRetN De σ H := by
  obtain ⟨Z, ρ, e, s, R, h⟩ := h
  exact h ρ H .non (Em.refl.less fun _ m => .inl m) R.rsR .non
theorem red_ex {ev : Env → Store → Res D} (h : tS P W (fun e s => (ev e s).out fun _ s => .nx e s) De σ H) : tDrop (tE P W 0 ev) De σ H := by
  obtain ⟨Z, ρ, e, s, R, h⟩ := h
  exact ⟨Z, ρ, e, s, R, h.out.imp fun d s1 ρ1 H1 X1 R1 h v hv => h ρ1 H1 σ Em.refl R1⟩
theorem red_next (h : tS P W (fun e s => .nx e s) De σ H) : tNext De σ H := by
  obtain ⟨Z, ρ, e, s, R, h⟩ := h
  exact h ρ H σ Em.refl R
theorem red_ifs {t : Env → Store → Res Bool} {a b : Env → Store → Out} (h : tS P W (fun e s => (t e s).out fun t s => if t then a e s else b e s) De σ H) : tIfS (tT P W t) (tS P W a) (tS P W b) De σ H := by
  obtain ⟨Z, ρ, e, s, R, h⟩ := h
  refine ⟨Z, ρ, e, s, R, h.out.imp fun c s1 ρ1 H1 X1 R1 h => ?_⟩
  cases c with
  | true => exact ⟨Z, ρ1, e, s1, R1, h⟩
  | false => exact ⟨Z, ρ1, e, s1, R1, h⟩
/-- a body, then f: told by N -/
theorem PostS.thenN {Z : Addr → Prop} {ρ : List (List Addr)} {e : Env} {o : Out} {f : Env → Store → Out} {N : L2.St → Hp → Prop} (h : PostS P Z ρ H σ e W (o.then f) De)
    (k : ∀ e' s' ρ' H' σ', Em ρ H σ e (Mo ρ' σ' e') ρ' H' → Rp P Z ρ' H' σ' e' s' → PostS P Z ρ' H' σ' e' W (f e' s') De → N σ' H') : PostS P Z ρ H σ e W o { De with nx := N, ct := N, bk := De.nx } := by
  cases o with
  | nx e' s' => exact fun ρ' H' σ' x R => k e' s' ρ' H' σ' x R (h.base x)
  | rt d s' => exact h
  | exc c s' => exact h
  | stuck => exact h
theorem red_for {t : Tg} {ev : Env → Store → Res (List D)} {body : Env → Store → Out} (h : tS P W (fun e s => (ev e s).out fun xs s => forL (fun x e s => match bindT t x e with
    | some e => body e s
    | none => .stuck) xs e s) De σ H) : tFor (tI P W 0 ev) (tG P (tgVars t) (bindT t)) (tS P W body) De σ H := by
  obtain ⟨Z, ρ, e, s, R, h⟩ := h
  refine ⟨Z, ρ, e, s, R, h.out.imp fun xs s1 ρ1 H1 X1 R1 h J wk => ?_⟩
  generalize hf : (fun x e s => match bindT t x e with
    | some e => body e s
    | none => Out.stuck) = f at h
  refine ⟨fun i m σ' H' => m = xs.length - i ∧ i ≤ xs.length ∧ ∃ ρ' e' s', Em ρ1 H1 σ e (Mo ρ' σ' e') ρ' H' ∧ Rp P Z ρ' H' σ' e' s' ∧ PostS P Z ρ' H' σ' e' W (forL f (xs.drop i) e' s') De, ⟨_, rfl, Nat.zero_le _, ρ1, e, s1, Em.refl, R1, h⟩, fun i m σ' H' w => ?_⟩
  obtain ⟨hm, hi, ρ', e', s', em, R', post⟩ := w
  have lt : Lt 0 ρ1 (Mu Z ρ1 σ e) H1 (Mu Z ρ' σ' e') H' := ⟨em.mu, fun z => by cases z⟩
  by_cases hlt : i < xs.length
  · right
    refine ⟨wk.goes i _ _ lt hlt, fun σ2 H2 => ∃ m', m' < m ∧ (m' = xs.length - (i + 1) ∧ i + 1 ≤ xs.length ∧ ∃ ρ' e' s', Em ρ1 H1 σ e (Mo ρ' σ2 e') ρ' H2 ∧ Rp P Z ρ' H2 σ2 e' s' ∧ PostS P Z ρ' H2 σ2 e' W (forL f (xs.drop (i + 1)) e' s') De), fun σ2 H2 hn => hn, fun x H2 hy => ?_⟩
    obtain ⟨sm, d, hd, rd⟩ := wk.yields i _ _ x H2 lt R'.rs.here hlt hy
    have hdrop : xs.drop i = d :: xs.drop (i + 1) := by
      rw [List.drop_eq_getElem_cons hlt]
      congr 1
      rw [List.getElem?_eq_getElem hlt] at hd
      cases hd
      rfl
    rw [hdrop] at post
    simp only [forL] at post
    have post := post.base (Em.ex (Ex.sm sm))
    cases hb : bindT t d e' with
    | none =>
      have : f d e' s' = .stuck := by rw [← hf]; simp only [hb]
      rw [this] at post
      exact post.elim
    | some e2 =>
      have hfd : f d e' s' = body e2 s' := by rw [← hf]; simp only [hb]
      rw [hfd] at post
      refine ⟨Z, ρ', e', s', d, e2, R'.sm sm, rd, hb, fun σ2 sm2 em2 R2 => ⟨Z, ρ', e2, s', R2, ?_⟩⟩
      refine (post.base em2).thenN fun e3 s3 ρ3 H3 σ3 em3 R3 post => ?_
      exact ⟨_, by omega, rfl, by omega, ρ3, e3, s3, (em.trans ((Em.ex (Ex.sm sm)).trans (em2.trans em3))), R3, post⟩
  · have hil : i = xs.length := by omega
    left
    refine ⟨by rw [hil]; exact wk.stops _ _ lt, ?_⟩
    have hdrop : xs.drop i = [] := by rw [hil]; exact List.drop_length
    rw [hdrop] at post
    simp only [forL] at post
    exact post ρ' H' σ' Em.refl R'
theorem red_whl {t : Env → Store → Res Bool} {body : Env → Store → Out} {m : Nat} (h : tS P W (fun e s => whlL t body m e s) De σ H) : tWhile (tT P W t) (tS P W body) De σ H := by
  obtain ⟨Z, ρ, e, s, R, h⟩ := h
  refine ⟨fun m σ' H' => ∃ ρ' e' s', Rp P Z ρ' H' σ' e' s' ∧ PostS P Z ρ' H' σ' e' W (whlL t body m e' s') De, ⟨m, ρ, e, s, R, h⟩, fun m σ' H' w => ?_⟩
  obtain ⟨ρ', e', s', R', post⟩ := w
  cases m with
  | zero => exact post.elim
  | succ m =>
    simp only [whlL] at post
    refine ⟨Z, ρ', e', s', R', post.out.imp fun c s1 ρ1 H1 X1 R1 h => ?_⟩
    cases c with
    | true =>
      rw [if_pos rfl] at h
      rw [if_pos rfl]
      refine ⟨fun σ2 H2 => ∃ m', m' < m + 1 ∧ ∃ ρ' e' s', Rp P Z ρ' H2 σ2 e' s' ∧ PostS P Z ρ' H2 σ2 e' W (whlL t body m' e' s') De, fun σ2 H2 hn => hn, Z, ρ1, e', s1, R1, ?_⟩
      exact h.thenN fun e3 s3 ρ3 H3 σ3 em3 R3 post => ⟨m, Nat.lt_succ_self m, ρ3, e3, s3, R3, post⟩
    | false =>
      rw [if_neg Bool.false_ne_true] at h
      rw [if_neg Bool.false_ne_true]
      exact h ρ1 H1 σ' Em.refl R1
/-- a new list in a slot -/
theorem red_ownL {i m : Nat} {ev : Env → Store → Res (List D)} (hm : m ≤ 1000) (hl : ∀ e s ds s', ev e s = .ok ds s' → ds.length = m)
    (h : tS P W (fun e s => ((ev e s).bind fun ds s => .ok (.lst ds) s).out fun d s => .ofE ((thaw d).bind fun o => setE e i (.own o)) s) De σ H) : tAsg (tLst (tEs P W ev)) (gName i) De σ H := by
  obtain ⟨Z, ρ, e, s, R, h⟩ := h
  refine ⟨Z, ρ, e, s, R, ?_⟩
  have h := Post.bind h.out
  cases he : ev e s with
  | ok ds s' =>
    rw [he] at h
    intro ρ1 H1 X1 R1 vs hv
    have hn := hl _ _ _ _ he
    refine ⟨?_, fun p hp => ?_⟩
    · rw [← hv.length, hn]; exact Nat.le_trans hm (Nat.le_trans (by decide) lim_line)
    · have h := h ρ1 H1 X1 R1 ρ1 H1 Ex.refl R1
      simp only [thaw, Option.bind_some] at h
      unfold setE at h
      split at h
      · obtain ⟨R2, em⟩ := R1.own (i := i) (u := .lst vs) (so := .lst ds) hp trivial fun M' H' st q => .lst q (hv.mono st R1.rs.out)
        exact h ρ1 _ _ em R2
      · exact h.elim
  | exc c s' => rw [he] at h; exact h
  | stuck => rw [he] at h; exact h
theorem red_ownD {i : Nat} {t : Bool} (h : tS P W (fun e s => ((Res.ok ([] : List D) s).bind fun ks s => (Res.ok ([] : List D) s).bind fun vs s => match dispPut t ([], []) ks vs with
    | some q => Res.ok (.dct t q.1 q.2) s
    | none => .stuck).out fun d s => .ofE ((thaw d).bind fun o => setE e i (.own o)) s) De σ H) : tAsg (if t = true then tDNewT else tDNewK) (gName i) De σ H := by
  obtain ⟨Z, ρ, e, s, R, h⟩ := h
  simp only [bind_ok, dispPut, out_ok, thaw, Option.bind_some] at h
  unfold setE at h
  split at h
  · cases t with
    | true =>
      intro p hp
      obtain ⟨R2, em⟩ := R.own (i := i) (u := .dT []) (so := .dct true [] []) hp trivial fun M' H' st q => CellOk.dT (kvs := []) q .nil
      exact h ρ _ _ em R2
    | false =>
      intro p hp
      obtain ⟨R2, em⟩ := R.own (i := i) (u := .dK []) (so := .dct false [] []) hp trivial fun M' H' st q => CellOk.dK (kvs := []) q .nil
      exact h ρ _ _ em R2
  · exact h.elim
theorem own_at {Z : Addr → Prop} {ρ : List (List Addr)} {e : Env} {s : Store} {i : Nat} {o : SO} (R : Rp P Z ρ H σ e s) (he : e[i]? = some (some (.own o))) : ∃ a, σ[i]? = some (some (.ref a)) ∧ CellOk P (Mu Z ρ σ e) H ρ o [a] := by
  obtain ⟨v, h1, h2⟩ := R.slot i _ he
  cases h2 with
  | own c n => exact ⟨_, h1, c⟩
theorem red_app {K : Frag} {i : Nat} {ev : Env → Store → Res D} (h : tS P W (fun e s => match e[i]? with
    | some (some (.own (.lst xs))) => (ev e s).out fun d s => if xs.length < LIM then .nx (e.set i (some (.own (.lst (xs ++ [d]))))) s else .stuck
    | _ => .stuck) De σ H) : tDrop (tBM K "list" rAppend (tVar i) (tCons (tE P W 0 ev) tNil)) De σ H := by
  obtain ⟨Z, ρ, e, s, R, h⟩ := h
  dsimp only at h
  split at h
  · rename_i xs he
    obtain ⟨a, hs, c⟩ := own_at R he
    cases c with
    | lst c t =>
      refine ⟨_, hs, .inl ⟨rfl, _, SqL.of c⟩, Z, ρ, e, s, R, h.out.imp fun d s1 ρ1 H1 X1 R1 h v hv => ?_⟩
      split at h
      · rename_i hl
        obtain ⟨a', hs', c'⟩ := own_at R1 he
        rw [hs] at hs'
        cases hs'
        cases c' with
        | lst c' t' =>
          obtain ⟨R2, em⟩ := R1.write (u := .lst (_ ++ [v])) (so' := .lst (xs ++ [d])) he hs trivial fun M' H' st q _ => .lst q ((t'.append (.cons hv .nil)).mono st R1.rs.out)
          exact ⟨a, _, v, rfl, rfl, c', by rw [← t'.length]; exact Nat.lt_of_lt_of_le hl lim_line, h ρ1 _ σ em R2⟩
      · exact h.elim
  · exact h.elim
theorem red_ext {K : Frag} {i : Nat} {ev : Env → Store → Res D} (h : tS P W (fun e s => match e[i]? with
    | some (some (.own (.lst xs))) => (ev e s).out fun d s => match d with
      | .lst ys => if xs.length + ys.length ≤ LIM then .nx (e.set i (some (.own (.lst (xs ++ ys))))) s else .stuck
      | _ => .stuck
    | _ => .stuck) De σ H) : tDrop (tBM K "list" rExtend (tVar i) (tCons (tE P W 0 ev) tNil)) De σ H := by
  obtain ⟨Z, ρ, e, s, R, h⟩ := h
  dsimp only at h
  split at h
  · rename_i xs he
    obtain ⟨a, hs, c⟩ := own_at R he
    cases c with
    | lst c t =>
      refine ⟨_, hs, .inl ⟨rfl, _, SqL.of c⟩, Z, ρ, e, s, R, h.out.imp fun d s1 ρ1 H1 X1 R1 h v hv => ?_⟩
      split at h
      · rename_i ys
        split at h
        · rename_i hl
          obtain ⟨a', hs', c'⟩ := own_at R1 he
          rw [hs] at hs'
          cases hs'
          cases hv with
          | lst f t2 =>
            cases c' with
            | lst c' t' =>
              obtain ⟨R2, em⟩ := R1.write (u := .lst (_ ++ _)) (so' := .lst (xs ++ ys)) he hs trivial fun M' H' st q _ => .lst q ((t'.append t2).mono st R1.rs.out)
              exact ⟨a, _, _, _, rfl, rfl, c', f.1, by rw [← t'.length, ← t2.length]; exact Nat.le_trans hl lim_line, h ρ1 _ σ em R2⟩
        · exact h.elim
      · exact h.elim
  · exact h.elim
theorem put_rel {κ : Type} [DecidableEq κ] {M : Addr → Prop} {H : Hp} {enc : κ → D} (he : ∀ a b, keyEq (enc a) (enc b) = decide (a = b)) (k : κ) {d : D} {v : V} (rv : RV P M H d v) {kvs : List (κ × V)} {ds : List D} (t : RVs P M H ds (kvs.map (·.2))) :
    putKs (enc k) (kvs.map fun p => enc p.1) = (putK kvs k v).map (fun p => enc p.1) ∧ RVs P M H (putV (enc k) d (kvs.map fun p => enc p.1) ds) ((putK kvs k v).map (·.2)) := by
  have ha : hasK (enc k) (kvs.map fun p => enc p.1) = kvs.any fun kv => decide (kv.1 = k) := by
    unfold hasK
    rw [List.any_map]
    congr 1
    funext p
    exact he p.1 k
  unfold putKs putV putK
  rw [ha]
  cases hk : kvs.any fun kv => decide (kv.1 = k) with
  | true =>
    simp only [if_true]
    constructor
    · rw [List.map_map]
      apply List.map_congr_left
      intro p _
      simp only [Function.comp]
      split <;> rfl
    · clear ha hk
      induction kvs generalizing ds with
      | nil => cases t; exact .nil
      | cons p r ih =>
        cases t with
        | cons h t =>
          simp only [List.map_cons, repV, he]
          refine .cons ?_ (ih t)
          by_cases e : p.1 = k
          · simp only [e, decide_true, if_true]; exact rv
          · simp only [e, decide_false, if_false, Bool.false_eq_true]; exact h
  | false =>
    simp only [Bool.false_eq_true, if_false, List.map_append, List.map_cons, List.map_nil]
    exact ⟨trivial, t.append (.cons rv .nil)⟩
theorem red_seti {i : Nat} {ea ek : Env → Store → Res D} (h : tS P W (fun e s => match e[i]? with
    | some (some (.own o)) => (ea e s).out fun d s => (ek e s).out fun k s => match putO o k d with
      | some o => .nx (e.set i (some (.own o))) s
      | none => .stuck
    | _ => .stuck) De σ H) : tAsg (tE P W 0 ea) (gSub (tVar i) (tE P W 0 ek) (fun o i v H Q => rSetL o i v H Q ∨ rSetD o i v H Q)) De σ H := by
  obtain ⟨Z, ρ, e, s, R, h⟩ := h
  dsimp only at h
  split at h
  · rename_i o he
    refine ⟨Z, ρ, e, s, R, h.out.imp fun d s1 ρ1 H1 X1 R1 h v hv => ?_⟩
    obtain ⟨a, hs, c⟩ := own_at R1 he
    refine ⟨_, hs, Z, ρ1, e, s1, R1, h.out.imp fun kd s2 ρ2 H2 X2 R2 h u hu => ?_⟩
    have hv := RV.mono X2.mu R1.rs.out hv
    split at h
    · rename_i o' ho
      obtain ⟨a', hs', c'⟩ := own_at R2 he
      rw [hs] at hs'
      cases hs'
      cases c' with
      | lst c' t' =>
        left
        unfold putO at ho
        dsimp only at ho
        split at ho
        · rename_i ii
          cases hu
          rw [Option.map_eq_some_iff] at ho
          obtain ⟨j, hj, rfl⟩ := ho
          obtain ⟨R3, em⟩ := R2.write (u := .lst (_ : List V)) (so' := .lst _) he hs trivial fun M' H' st q _ => .lst q ((t'.set j hv).mono st R2.rs.out)
          exact ⟨a, _, ii, j, rfl, rfl, c', by rw [← t'.length]; exact hj, h ρ2 _ σ em R3⟩
        · cases ho
      | dK c' t' =>
        right
        unfold putO at ho
        dsimp only at ho
        split at ho
        · rename_i hc
          simp only [Bool.and_eq_true, decide_eq_true_eq, keyFits, List.length_map] at hc
          obtain ⟨⟨hk, ht⟩, hl⟩ := hc
          cases ho
          have hk1 : isKey1 kd = true := by
            cases kd <;> first | exact hk | (simp [isTup] at ht)
          obtain ⟨κ, rfl, rfl⟩ := key1_rv hk1 (.of hu)
          obtain ⟨e1, t2⟩ := put_rel keyEq_kD κ hv t'
          obtain ⟨R3, em⟩ := R2.write (u := .dK (putK _ κ v)) (so' := .dct false _ _) he hs trivial fun M' H' st q _ => CellOk.dK q (t2.mono st R2.rs.out)
          rw [e1] at h
          exact ⟨a, _, rfl, DPut.k c' (Nat.lt_of_lt_of_le hl lim_line), h ρ2 _ σ em R3⟩
        · cases ho
      | dT c' t' =>
        right
        unfold putO at ho
        dsimp only at ho
        split at ho
        · rename_i hc
          simp only [Bool.and_eq_true, decide_eq_true_eq, keyFits, List.length_map] at hc
          obtain ⟨⟨hk, ht⟩, hl⟩ := hc
          cases ho
          cases kd with
          | tup kt =>
            obtain ⟨b, vs, rfl, e2, _, t3⟩ := w_key (.of hu) hk
            obtain ⟨κs, rfl, rfl⟩ := keys1_rv (isKeyT_all hk) t3
            obtain ⟨e1, t2⟩ := put_rel keyEq_ktD κs hv t'
            obtain ⟨R3, em⟩ := R2.write (u := .dT (putK _ κs v)) (so' := .dct true _ _) he hs trivial fun M' H' st q _ => CellOk.dT q (t2.mono st R2.rs.out)
            have e1 : putKs (D.tup (κs.map kD)) _ = _ := e1
            rw [e1] at h
            exact ⟨a, _, rfl, DPut.t c' e2 (Nat.lt_of_lt_of_le hl lim_line), h ρ2 _ σ em R3⟩
          | _ => simp [isTup] at ht
        · cases ho
      | ins => unfold putO at ho; cases ho
    · exact h.elim
  · exact h.elim
end
end Nt
set_option Elab.async false
set_option linter.all false
set_option maxRecDepth 100000
set_option maxHeartbeats 4000000
set_option autoImplicit false
/-! E2p: a, b = x, y -/
namespace Nt
open PySem PySem.Spec PyProof.Rows L2
section
variable {P : Pm} {Z Z' M : Addr → Prop} {ρ ρ' : List (List Addr)} {H H' : Hp} {σ : L2.St} {e : Env} {s : Store} {W : WX}
theorem Rp.lessZ (h : Rp P Z' ρ H σ e s) (k : ∀ a, Z a → Z' a) : Rp P Z ρ H σ e s := by
  have k' : ∀ a, Mu Z ρ σ e a → Mu Z' ρ σ e a := fun a m => by
    rcases m with m | m | m
    · exact .inl (k a m)
    · exact .inr (.inl m)
    · exact .inr (.inr m)
  exact ⟨h.rs.less k' fun a m => .inr (.inl m), h.len, fun i x q => by
    obtain ⟨v, h1, h2⟩ := h.slot i x q
    exact ⟨v, h1, h2.less k'⟩, h.apart, fun a m z => h.oz a m (k a z)⟩
theorem Post.lessZ {α : Type} {r : Res α} {good good' : α → Store → List (List Addr) → Hp → Prop} (k : ∀ a, Z a → Z' a) (h : Post P Z ρ H σ e W r good) (f : ∀ a s ρ' H', Ex ρ H ρ' H' → Rp P Z' ρ' H' σ e s → good a s ρ' H' → good' a s ρ' H') : Post P Z' ρ H σ e W r good' := by
  cases r with
  | ok a s => exact fun ρ' H' x R => f a s ρ' H' x R (h ρ' H' x (R.lessZ k))
  | exc c s => exact fun ρ' H' x R => h ρ' H' x (R.lessZ k)
  | stuck => exact h
/-- a thing was made that has no place yet -/
theorem Rp.pend {p : Addr} {u : HO} (h : Rp P Z ρ H σ e s) (hp : H p = none) (mu : Mut (some u)) : Rp P (fun a => Z a ∨ a = p) ρ (upd H p u) σ e s := by
  have hn : ¬ Mu Z ρ σ e p := Hr.out h.rs.here hp
  have sm : Sm H (upd H p u) := Sm.new hp
  have mo : ∀ a, Mu (fun a => Z a ∨ a = p) ρ σ e a → Mu Z ρ σ e a ∨ a = p := fun a m => by
    rcases m with (m | m) | m | m
    · exact .inl (.inl m)
    · exact .inr m
    · exact .inl (.inr (.inl m))
    · exact .inl (.inr (.inr m))
  have st : Stp (Mu Z ρ σ e) H (Mu (fun a => Z a ∨ a = p) ρ σ e) (upd H p u) := ⟨fun a o q _ => sm a o q, fun a m => by
    rcases mo a m with q | rfl
    · exact .inl q
    · exact .inr hp⟩
  have rs : Rs P (Mu (fun a => Z a ∨ a = p) ρ σ e) ρ (upd H p u) s := by
    refine ⟨h.rs.cells.map fun c => c.keep st h.rs.out (fun _ _ r => r) (fun a _ v q => sm a v q) fun a x q => sm a _ q, h.rs.nd, fun a m => ?_, fun a m => .inr (.inl m)⟩
    rcases mo a m with q | rfl
    · obtain ⟨o, e1, e2⟩ := Hr.some h.rs.here q
      rw [sm a o e1]
      exact e2
    · rw [upd_same]; exact mu
  refine h.exZ (Ex.sm sm) rs (fun a m => m) (fun a z => ?_) fun a m z => ?_
  · rcases z with z | rfl
    · exact .inl (.inl z)
    · exact .inr hp
  · rcases z with z | rfl
    · exact h.oz a m z
    · exact hn (.inr (.inr m))
/-- .. it is put into a slot -/
theorem Rp.ownZ {i : Nat} {p : Addr} {so : SO} {ps : List Addr} (h : Rp P (fun a => Z a ∨ a ∈ p :: ps) ρ H σ e s) (c : ∀ M, CellOk P M H ρ so [p]) (hZ : ¬ Z p) (hps : p ∉ ps) (hR : ¬ inR ρ p) :
    Rp P (fun a => Z a ∨ a ∈ ps) ρ H (σ.set i (some (.ref p))) (e.set i (some (.own so))) s ∧ ∀ a, Ow (σ.set i (some (.ref p))) (e.set i (some (.own so))) a → Ow σ e a ∨ a = p := by
  have noOw : ¬ Ow σ e p := fun m => h.oz p m (.inr List.mem_cons_self)
  have ow : ∀ a, Ow (σ.set i (some (.ref p))) (e.set i (some (.own so))) a → Ow σ e a ∨ a = p := fun a m => by
    obtain ⟨j, o, h1, h2⟩ := m
    rcases get_set h1 with ⟨rfl, e1, hl⟩ | ⟨hj, q⟩
    · rw [List.getElem?_set_self (by rw [← h.len]; exact hl)] at h2
      cases h2
      exact .inr rfl
    · rw [List.getElem?_set_ne hj] at h2
      exact .inl ⟨j, o, q, h2⟩
  have k : ∀ a, Mu (fun a => Z a ∨ a ∈ ps) ρ (σ.set i (some (.ref p))) (e.set i (some (.own so))) a → Mu (fun a => Z a ∨ a ∈ p :: ps) ρ σ e a := fun a m => by
    rcases m with (m | m) | m | m
    · exact .inl (.inl m)
    · exact .inl (.inr (List.mem_cons_of_mem _ m))
    · exact .inr (.inl m)
    · rcases ow a m with m | rfl
      · exact .inr (.inr m)
      · exact .inl (.inr List.mem_cons_self)
  refine ⟨⟨h.rs.less k fun a m => .inr (.inl m), by simp [h.len], fun j y q => ?_, fun j l o o' a q1 q2 q3 q4 => ?_, fun a m z => ?_⟩, ow⟩
  · rcases get_set q with ⟨rfl, e1, hl⟩ | ⟨hj, q⟩
    · cases e1
      exact ⟨_, List.getElem?_set_self (by rw [← h.len]; exact hl), .own (c _) hR⟩
    · obtain ⟨v, h1, h2⟩ := h.slot j y q
      exact ⟨v, by rw [List.getElem?_set_ne hj]; exact h1, h2.less k⟩
  · rcases get_set q1 with ⟨rfl, e1, hl⟩ | ⟨hj, q1'⟩
    · rw [List.getElem?_set_self (by rw [← h.len]; exact hl)] at q3
      cases q3
      rcases get_set q2 with ⟨rfl, e2, hl2⟩ | ⟨hj2, q2'⟩
      · rfl
      · rw [List.getElem?_set_ne hj2] at q4
        exact (noOw ⟨_, _, q2', q4⟩).elim
    · rw [List.getElem?_set_ne hj] at q3
      rcases get_set q2 with ⟨rfl, e2, hl2⟩ | ⟨hj2, q2'⟩
      · rw [List.getElem?_set_self (by rw [← h.len]; exact hl2)] at q4
        cases q4
        exact (noOw ⟨_, _, q1', q3⟩).elim
      · rw [List.getElem?_set_ne hj2] at q4
        exact h.apart j l o o' a q1' q2' q3 q4
  · rcases ow a m with m | rfl
    · refine h.oz a m ?_
      rcases z with z | z
      · exact .inl z
      · exact .inr (List.mem_cons_of_mem _ z)
    · rcases z with z | z
      · exact hZ z
      · exact hps z
/-- the values that are to be stored; ps: those without a place yet -/
inductive PvOk (P : Pm) (M : Addr → Prop) (Z : Addr → Prop) (ρ : List (List Addr)) (H : Hp) : List (Nat × Md) → List D → List V → List Addr → Prop
  | nil : PvOk P M Z ρ H [] [] [] []
  | val {i : Nat} {r : List (Nat × Md)} {d : D} {ds : List D} {v : V} {vs : List V} {ps : List Addr} : RV P M H d v → PvOk P M Z ρ H r ds vs ps → PvOk P M Z ρ H ((i, .val) :: r) (d :: ds) (v :: vs) ps
  | own {i : Nat} {r : List (Nat × Md)} {d : D} {ds : List D} {vs : List V} {ps : List Addr} {p : Addr} {so : SO} : thaw d = some so → (∀ M, CellOk P M H ρ so [p]) → ¬ Z p → p ∉ ps → ¬ inR ρ p → PvOk P M Z ρ H r ds vs ps → PvOk P M Z ρ H ((i, .own) :: r) (d :: ds) (.ref p :: vs) (p :: ps)
def setV (σ : L2.St) : List (Nat × Md) → List V → L2.St
  | (i, _) :: r, v :: vs => setV (σ.set i (some v)) r vs
  | _, _ => σ
theorem store_pv {is : List (Nat × Md)} {ds : List D} {vs : List V} {ps : List Addr} (h : PvOk P M Z ρ H is ds vs ps) : ∀ {σ : L2.St} {e e2 : Env} {s2 : Store}, (∀ a, Mu (fun a => Z a ∨ a ∈ ps) ρ σ e a → M a) → Rp P (fun a => Z a ∨ a ∈ ps) ρ H σ e s → storeP is ds e s = some (e2, s2) →
    s2 = s ∧ Rp P Z ρ H (setV σ is vs) e2 s ∧ ∀ a, Ow (setV σ is vs) e2 a → Ow σ e a ∨ a ∈ ps := by
  induction h with
  | nil =>
    intro σ e e2 s2 hM R hst
    simp only [storeP, Option.some.injEq, Prod.mk.injEq] at hst
    obtain ⟨rfl, rfl⟩ := hst
    exact ⟨rfl, R.lessZ fun a z => .inl z, fun a m => .inl m⟩
  | @val i r d ds v vs ps hv t ih =>
    intro σ e e2 s2 hM R hst
    simp only [storeP, Option.bind_eq_some_iff, setE] at hst
    obtain ⟨e1, h1, hst⟩ := hst
    split at h1
    · cases h1
      have hx : ∀ o, (Slot.val d) ≠ .own o := fun o z => by cases z
      have R1 := R.put (i := i) hx (.val (hv.less hM))
      have hM1 : ∀ a, Mu (fun a => Z a ∨ a ∈ ps) ρ (σ.set i (some v)) (e.set i (some (.val d))) a → M a := fun a m => hM a (mu_set (fun o z => by cases z) a m)
      obtain ⟨g1, g2, g3⟩ := ih hM1 R1 hst
      refine ⟨g1, g2, fun a m => ?_⟩
      rcases g3 a m with m | m
      · exact .inl (ow_set (fun o z => by cases z) m)
      · exact .inr m
    · cases h1
  | @own i r d ds vs ps p so ht c hZ hps hR t ih =>
    intro σ e e2 s2 hM R hst
    simp only [storeP, ht, Option.bind_some, Option.bind_eq_some_iff, setE] at hst
    obtain ⟨e1, h1, hst⟩ := hst
    split at h1
    · cases h1
      obtain ⟨R1, ow⟩ := R.ownZ (i := i) c hZ hps hR
      have hM1 : ∀ a, Mu (fun a => Z a ∨ a ∈ ps) ρ (σ.set i (some (.ref p))) (e.set i (some (.own so))) a → M a := fun a m => hM a (by
        rcases m with (m | m) | m | m
        · exact .inl (.inl m)
        · exact .inl (.inr (List.mem_cons_of_mem _ m))
        · exact .inr (.inl m)
        · rcases ow a m with m | rfl
          · exact .inr (.inr m)
          · exact .inl (.inr List.mem_cons_self))
      obtain ⟨g1, g2, g3⟩ := ih hM1 R1 hst
      refine ⟨g1, g2, fun a m => ?_⟩
      rcases g3 a m with m | m
      · rcases ow a m with m | rfl
        · exact .inl m
        · exact .inr List.mem_cons_self
      · exact .inr (List.mem_cons_of_mem _ m)
    · cases h1
end
section
variable {P : Pm} {G : Glob} {C : Calls} {T : Tx} {n : Nat} {W : WX}
variable (P G C W) in
def tPv : List (Nat × Md) → PEs → TA
  | (_, .val) :: r, .cons a es => tCons (tE P W 0 (evE G C a)) (tPv r es)
  | (_, .own) :: r, .cons (.dct t _ _) es => tCons (if t = true then tDNewT else tDNewK) (tPv r es)
  | (_, .own) :: r, .cons _ es => tCons (tLst tNil) (tPv r es)
  | _, _ => tNil
theorem sPv {sc : Sc} {X : Cx} (ok : XOk P G C T n sc W X) : ∀ (is : List (Nat × Md)) (es : PEs) (xs : List Expr), chkPs T is es sc xs = true → L2.PA X xs (tPv P G C W is es) ∧ ∀ x ∈ xs, okE x = true := by
  intro is es xs h
  fun_induction chkPs T is es sc xs with
  | case1 => exact ⟨pa_nil, by simp⟩
  | case2 =>
    rename_i ih
    simp only [Bool.and_eq_true, decide_eq_true_eq] at h
    obtain ⟨⟨⟨h1, h2⟩, h3⟩, h4⟩ := h
    obtain ⟨ih1, ih2⟩ := ih ok h4
    have ha := sE _ ok h1
    rw [h2] at ha
    refine ⟨pa_cons ha ih1 (star_ok h3), fun y hy => ?_⟩
    rcases List.mem_cons.mp hy with rfl | hy
    · exact h3
    · exact ih2 y hy
  | case3 =>
    rename_i ih
    obtain ⟨ih1, ih2⟩ := ih ok h
    refine ⟨pa_cons (pe_lst pa_nil) ih1 rfl, fun y hy => ?_⟩
    rcases List.mem_cons.mp hy with rfl | hy
    · rfl
    · exact ih2 y hy
  | case4 =>
    rename_i ih
    obtain ⟨ih1, ih2⟩ := ih ok h
    refine ⟨?_, fun y hy => ?_⟩
    · simp only [tPv]
      split
      · exact pa_cons pe_dnewT ih1 rfl
      · exact pa_cons pe_dnewK ih1 rfl
    · rcases List.mem_cons.mp hy with rfl | hy
      · rfl
      · exact ih2 y hy
  | case5 => cases h
/-- a new empty thing ahead of the rest -/
theorem pv_new {σ : L2.St} {e : Env} {Z : Addr → Prop} {ρ : List (List Addr)} {H : Hp} {s : Store} {i : Nat} {r : List (Nat × Md)} {es : PEs} {d : D} {so : SO} {u : HO} {p : Addr} {good : List D → Store → List (List Addr) → Hp → Prop} {Q : List V → Hp → Prop}
    (R : Rp P Z ρ H σ e s) (hp : H p = none) (mu : Mut (some u)) (ht : thaw d = some so) (hc : ∀ M H' ρ', H' p = some u → CellOk P M H' ρ' so [p])
    (ih : ∀ {Z : Addr → Prop} {ρ : List (List Addr)} {H : Hp} {s : Store} {good : List D → Store → List (List Addr) → Hp → Prop} {Q : List V → Hp → Prop}, Rp P Z ρ H σ e s → Post P Z ρ H σ e W (evEs G C es e s) good →
      (∀ ds s' ρ' H' vs ps, good ds s' ρ' H' → Ex ρ H ρ' H' → Rp P (fun a => Z a ∨ a ∈ ps) ρ' H' σ e s' → PvOk P (Mu (fun a => Z a ∨ a ∈ ps) ρ' σ e) Z ρ' H' r ds vs ps → (∀ p ∈ ps, H p = none ∨ inR ρ p) → Q vs H') → tPv P G C W r es σ H Q)
    (h : Post P Z ρ H σ e W ((evEs G C es e s).bind fun xs s => .ok (d :: xs) s) good)
    (hQ : ∀ ds s' ρ' H' vs ps, good ds s' ρ' H' → Ex ρ H ρ' H' → Rp P (fun a => Z a ∨ a ∈ ps) ρ' H' σ e s' → PvOk P (Mu (fun a => Z a ∨ a ∈ ps) ρ' σ e) Z ρ' H' ((i, .own) :: r) ds vs ps → (∀ p ∈ ps, H p = none ∨ inR ρ p) → Q vs H') :
    tPv P G C W r es σ (upd H p u) fun vs H' => Q (.ref p :: vs) H' := by
  have hn : ¬ Mu Z ρ σ e p := Hr.out R.rs.here hp
  have sm : Sm H (upd H p u) := Sm.new hp
  have hpp : upd H p u p = some u := upd_same
  have hnR : ¬ inR ρ p := fun m => hn (.inr (.inl m))
  refine ih (R.pend hp mu) (Post.lessZ (fun a z => .inl z) (Post.sm sm (Post.bind h)) fun ds s1 ρ1 H1 X1 R1 g => g) fun ds s2 ρ2 H2 vs ps g X2 R2 pv hps => ?_
  have hpin : p ∉ ps := fun m => by
    rcases hps p m with q | q
    · rw [hpp] at q; cases q
    · exact hnR q
  have eZ : (fun a => (Z a ∨ a = p) ∨ a ∈ ps) = fun a => Z a ∨ a ∈ p :: ps := by
    funext a
    simp only [List.mem_cons]
    apply propext
    constructor
    · rintro ((z | z) | z)
      · exact .inl z
      · exact .inr (.inl z)
      · exact .inr (.inr z)
    · rintro (z | z | z)
      · exact .inl (.inl z)
      · exact .inl (.inr z)
      · exact .inr z
  rw [eZ] at R2 pv
  have h2 : H2 p = some u := X2.keep p u hpp hnR
  have n2 : ¬ inR ρ2 p := fun m => by
    rcases X2.new p m with q | q
    · exact hnR q
    · rw [hpp] at q; cases q
  have wk : ∀ {M : Addr → Prop} {r : List (Nat × Md)} {ds : List D} {vs : List V} {ps : List Addr}, PvOk P M (fun a => Z a ∨ a = p) ρ2 H2 r ds vs ps → PvOk P M Z ρ2 H2 r ds vs ps := by
    intro M r ds vs ps h
    induction h with
    | nil => exact .nil
    | val a _ ih => exact .val a ih
    | own a b c d e _ ih => exact .own a b (fun z => c (.inl z)) d e ih
  refine hQ _ s2 ρ2 H2 _ (p :: ps) (g ρ2 H2 Ex.refl (R2.lessZ fun a z => .inl z)) ((Ex.sm sm).trans X2) R2 (.own ht (fun M => hc M H2 ρ2 h2) (fun z => hn (.inl z)) hpin n2 (wk pv)) fun q hq => ?_
  rcases List.mem_cons.mp hq with rfl | hq
  · exact .inl hp
  · rcases hps q hq with z | z
    · left
      cases e1 : H q with
      | none => rfl
      | some o => rw [sm q o e1] at z; cases z
    · exact .inr z
/-- the values, from the left -/
theorem red_pv {σ : L2.St} {e : Env} : ∀ (is : List (Nat × Md)) (es : PEs) {Z : Addr → Prop} {ρ : List (List Addr)} {H : Hp} {s : Store} {sc : Sc} {xs : List Expr} {good : List D → Store → List (List Addr) → Hp → Prop} {Q : List V → Hp → Prop}, chkPs T is es sc xs = true → Rp P Z ρ H σ e s →
    Post P Z ρ H σ e W (evEs G C es e s) good → (∀ ds s' ρ' H' vs ps, good ds s' ρ' H' → Ex ρ H ρ' H' → Rp P (fun a => Z a ∨ a ∈ ps) ρ' H' σ e s' → PvOk P (Mu (fun a => Z a ∨ a ∈ ps) ρ' σ e) Z ρ' H' is ds vs ps → (∀ p ∈ ps, H p = none ∨ inR ρ p) → Q vs H') → tPv P G C W is es σ H Q := by
  intro is es Z ρ H s sc xs good Q hc
  fun_induction chkPs T is es sc xs generalizing Z ρ H s good Q with
  | case1 =>
    intro R h hQ
    simp only [evEs] at h
    have h1 := h ρ H Ex.refl R
    have eZ : (fun a => Z a ∨ a ∈ ([] : List Addr)) = Z := by funext a; simp
    exact hQ [] s ρ H [] [] h1 Ex.refl (by rw [eZ]; exact R) .nil (by simp)
  | case2 =>
    rename_i ih
    intro R h hQ
    simp only [Bool.and_eq_true, decide_eq_true_eq] at hc
    obtain ⟨⟨⟨h1, h2⟩, h3⟩, h4⟩ := hc
    simp only [evEs] at h
    simp only [tPv]
    refine ⟨Z, ρ, e, s, R, (Post.bind h).imp fun d s1 ρ1 H1 X1 R1 h v hv => ?_⟩
    refine ih h4 R1 (Post.bind h) fun ds s2 ρ2 H2 vs ps g X2 R2 pv hps => ?_
    have st : Stp (Mu Z ρ1 σ e) H1 (Mu (fun a => Z a ∨ a ∈ ps) ρ2 σ e) H2 := ⟨fun a o q n => X2.keep a o q fun m => n (.inr (.inl m)), fun a m => by
      rcases m with (m | m) | m | m
      · exact .inl (.inl m)
      · rcases hps a m with q | q
        · exact .inr q
        · exact .inl (.inr (.inl q))
      · rcases X2.new a m with q | q
        · exact .inl (.inr (.inl q))
        · exact .inr q
      · exact .inl (.inr (.inr m))⟩
    have hv : RV P (Mu Z ρ1 σ e) H1 d v := hv
    refine hQ _ s2 ρ2 H2 _ ps (g ρ2 H2 Ex.refl (R2.lessZ fun a z => .inl z)) (X1.trans X2) R2 (.val (hv.mono st R1.rs.out) pv) fun p hp => ?_
    cases e1 : H p with
    | none => exact .inl rfl
    | some o =>
      right
      by_cases m : inR ρ p
      · exact m
      · exfalso
        rcases hps p hp with q | q
        · rw [X1.keep p o e1 m] at q; cases q
        · rcases X1.new p q with q | q
          · exact m q
          · rw [e1] at q; cases q
  | case3 =>
    rename_i ih
    intro R h hQ
    simp only [evEs, evE, bind_ok] at h
    simp only [tPv]
    exact ⟨Nat.zero_le _, fun p hp => pv_new (so := .lst []) R hp trivial rfl (fun M H' ρ' q => .lst q .nil) (ih hc) h hQ⟩
  | case4 =>
    rename_i ih
    intro R h hQ
    simp only [evEs, evE, bind_ok, dispPut] at h
    simp only [tPv]
    split
    · rename_i ht
      subst ht
      exact fun p hp => pv_new (so := .dct true [] []) R hp trivial rfl (fun M H' ρ' q => CellOk.dT (kvs := []) q .nil) (ih hc) h hQ
    · rename_i ht
      rw [Bool.not_eq_true] at ht
      subst ht
      exact fun p hp => pv_new (so := .dct false [] []) R hp trivial rfl (fun M H' ρ' q => CellOk.dK (kvs := []) q .nil) (ih hc) h hQ
  | case5 => cases hc
end
section
variable {P : Pm} {G : Glob} {C : Calls} {T : Tx} {n : Nat} {W : WX} {De : Ends} {σ : L2.St} {H : Hp}
theorem PvOk.len {M Z : Addr → Prop} {ρ : List (List Addr)} : ∀ {is : List (Nat × Md)} {ds : List D} {vs : List V} {ps : List Addr}, PvOk P M Z ρ H is ds vs ps → vs.length = is.length
  | _, _, _, _, .nil => rfl
  | _, _, _, _, .val _ t => by rw [List.length_cons, List.length_cons, t.len]
  | _, _, _, _, .own _ _ _ _ _ t => by rw [List.length_cons, List.length_cons, t.len]
theorem PostS.out0 {Z : Addr → Prop} {ρ : List (List Addr)} {e : Env} {α : Type} {r : Res α} {f : α → Store → Out} (h : PostS P Z ρ H σ e W (r.out f) De) : Post P Z ρ H σ e W r fun a s ρ1 H1 => PostS P Z ρ H σ e W (f a s) De := by
  cases r with
  | ok a s1 => exact fun ρ1 H1 x R => h
  | exc c s1 => exact fun ρ1 H1 x R => h ρ1 H1 σ (Em.exR x) R.rsR
  | stuck => exact h
theorem chkPs_len {sc : Sc} : ∀ (is : List (Nat × Md)) (es : PEs) (xs : List Expr), chkPs T is es sc xs = true → xs.length = is.length := by
  intro is es xs h
  fun_induction chkPs T is es sc xs with
  | case1 => rfl
  | case2 => rename_i ih; simp only [Bool.and_eq_true] at h; simp [ih h.2]
  | case3 => rename_i ih; simp [ih h]
  | case4 => rename_i ih; simp [ih h]
  | case5 => cases h
theorem tPv_mono : ∀ {is : List (Nat × Md)} {es : PEs} {σ : L2.St} {H : Hp} {Q Q' : List V → Hp → Prop}, (∀ vs H', Q vs H' → Q' vs H') → tPv P G C W is es σ H Q → tPv P G C W is es σ H Q' := by
  intro is es
  fun_induction tPv P G C W is es with
  | case1 =>
    rename_i ih
    intro σ H Q Q' f h
    exact tE_mono (fun v H' h => ih (fun vs H'' q => f _ _ q) h) h
  | case2 =>
    rename_i t _ _ es ih
    intro σ H Q Q' f h
    cases t with
    | true => exact fun p hp => ih (fun vs H'' q => f _ _ q) (h p hp)
    | false => exact fun p hp => ih (fun vs H'' q => f _ _ q) (h p hp)
  | case3 =>
    rename_i ih
    intro σ H Q Q' f h
    exact ⟨h.1, fun p hp => ih (fun vs H'' q => f _ _ q) (h.2 p hp)⟩
  | case4 => exact fun f h => f _ _ h
/-- the values told, then stored -/
theorem red_par {is : List (Nat × Md)} {es : PEs} {sc : Sc} {xs : List Expr} (hc : chkPs T is es sc xs = true)
    (h : tS P W (fun e s => (evEs G C es e s).out fun ds s => match storeP is ds e s with
    | some (e, s) => .nx e s
    | none => .stuck) De σ H) : tPv P G C W is es σ H fun vs H1 => vs.length = is.length ∧ De.nx (setV σ is vs) H1 := by
  obtain ⟨Z, ρ, e, s, R, h⟩ := h
  refine red_pv is es hc R h.out0 fun ds s' ρ' H' vs ps g X2 R2 pv hps => ⟨pv.len, ?_⟩
  split at g
  · rename_i e2 s2 hst
    obtain ⟨rfl, R3, how⟩ := store_pv pv (fun a m => m) R2 hst
    refine g ρ' H' _ ⟨⟨fun a o q n => X2.keep a o q fun m => n (.inl m), fun a m => ?_⟩, X2.roots⟩ R3
    rcases m with m | m
    · rcases X2.new a m with q | q
      · exact .inl (.inl q)
      · exact .inr q
    · rcases how a m with m | m
      · exact .inl (.inr m)
      · rcases hps a m with q | q
        · exact .inr q
        · exact .inl (.inl q)
  · exact g.elim
end
theorem nostar {es : List Expr} (h : ∀ e ∈ es, okE e = true) (f : Expr → Bool) (hf : ∀ e, okE e = true → f e = false) : es.any f = false := by
  rw [List.any_eq_false]
  intro e he
  rw [hf e (h e he)]
  exact Bool.false_ne_true
theorem swapped2 {env : PySem.Env} {x y : Str} {a b : Expr} {px py pt pt2 : Pos} {kt k2} (kf : env.scope.kind = .function) (hx : env.scope.names.lookup x = some .local) (hy : env.scope.names.lookup y = some .local) (hl : (py.line == px.line) = true) (hne : x ≠ y)
    (h : ∀ e ∈ [a, b], okE e = true) (hf : [a, b].all (foldedForSure 8) = false) (hc : [a, b].all (constantsAlone 8) = false) :
    swappedStores [.Tuple [.Name x px, .Name y py] kt pt] (.Tuple [a, b] k2 pt2) env = pure (some [x, y]) := by
  have hbk : env.blockKind = .function := by unfold Env.blockKind; rw [kf]; rfl
  have kx : env.kindOf x = some .local := hx
  have ky : env.kindOf y = some .local := hy
  have hxy : (y == x) = false := by simpa using fun z => hne z.symm
  unfold swappedStores
  simp only [hf, hc, hbk, kx, ky, hl, List.filterMap, List.length_cons, List.length_nil, List.head?, Option.map, Expr.pos, Option.getD, beq_self_eq_true, Bool.and_self]
  rw [if_neg (by decide), if_neg (by
    rw [nostar h _ (fun e he => by cases e <;> first | rfl | (simp [okE] at he))]
    exact Bool.false_ne_true)]
  simp [List.eraseDups_cons, hne, hxy, Ne.symm hne]
theorem swapped3 {env : PySem.Env} {x y z : Str} {a b c : Expr} {px py pz pt pt2 : Pos} {kt k2} (kf : env.scope.kind = .function) (hx : env.scope.names.lookup x = some .local) (hy : env.scope.names.lookup y = some .local) (hz : env.scope.names.lookup z = some .local) (hl : (py.line == px.line) = true) (hl2 : (pz.line == px.line) = true) (hne : x ≠ y) (hxz : x ≠ z) (hyz : y ≠ z)
    (h : ∀ e ∈ [a, b, c], okE e = true) (hf : [a, b, c].all (foldedForSure 8) = false) (hc : [a, b, c].all (constantsAlone 8) = false) :
    swappedStores [.Tuple [.Name x px, .Name y py, .Name z pz] kt pt] (.Tuple [a, b, c] k2 pt2) env = pure (some [x, y, z]) := by
  have hbk : env.blockKind = .function := by unfold Env.blockKind; rw [kf]; rfl
  have kx : env.kindOf x = some .local := hx
  have ky : env.kindOf y = some .local := hy
  have kz : env.kindOf z = some .local := hz
  unfold swappedStores
  simp only [hf, hc, hbk, kx, ky, kz, hl, hl2, List.filterMap, List.length_cons, List.length_nil, List.head?, Option.map, Expr.pos, Option.getD, beq_self_eq_true, Bool.and_self]
  rw [if_neg (by decide), if_neg (by
    rw [nostar h _ (fun e he => by cases e <;> first | rfl | (simp [okE] at he))]
    exact Bool.false_ne_true)]
  simp [List.eraseDups_cons, hne, hxz, hyz, Ne.symm hne, Ne.symm hxz, Ne.symm hyz]
end Nt
set_option Elab.async false
set_option linter.all false
set_option maxRecDepth 100000
set_option maxHeartbeats 4000000
set_option autoImplicit false
/-! E2m: the evaluator of statements is right: all together -/
namespace Nt
open PySem PySem.Spec PyProof.Rows L2
section
variable {P : Pm} {G : Glob} {C : Calls} {T : Tx} {n : Nat}
theorem red_kill {W : WX} {De : Ends} {σ : L2.St} {H : Hp} {is : List Nat} {f : Env → Store → Out} (h : tS P W (fun e s => (Out.nx (wipeE e is) s).then f) De σ H) : tS P W f De σ H := by
  obtain ⟨Z, ρ, e, s, R, h⟩ := h
  exact ⟨Z, ρ, _, s, (R.wipe is).1, h.base (R.wipe is).2⟩
theorem red_freeze {W : WX} {De : Ends} {σ : L2.St} {H : Hp} {i : Nat} {f : Env → Store → Out} (h : tS P W (fun e s => (exec G C (.freeze i) e s).then f) De σ H) : tS P W f De σ H := by
  obtain ⟨Z, ρ, e, s, R, h⟩ := h
  simp only [exec] at h
  split at h
  · rename_i o he
    split at h
    · rename_i d hd
      obtain ⟨R', em⟩ := R.freeze he hd
      exact ⟨Z, ρ, _, s, R', h.base em⟩
    · exact h.elim
  · exact h.elim
theorem par_plain {X : Cx} {cpos : Pos} {e : Expr} (h : okE e = true) : ((backTo cpos (starEach [e] X.env)).all (fun x => !x.1) && (backToKw cpos (keywordEach [] X.env)).all (fun x => x.1.isSome) && decide ([e].length + ([] : List Keyword).length + (if ([] : List Keyword).isEmpty then 0 else 1) < 30)) = true := by
  rw [star_ok h]
  rfl
theorem swap_no {X : Cx} {v : Expr} {y : Str} {py : Pos} {l : Nat} (hv : okE v = true) (hs : notLc v = true ∨ X.env.scope.names.lookup y = some .cell) : swapsWith v (some (.Name y py)) l X.env = pure false := by
  by_cases hl : ∃ a b c d, v = .ListComp a b c d
  · obtain ⟨a, b, c, d, rfl⟩ := hl
    rcases hs with hs | hs
    · cases hs
    · unfold swapsWith
      have : (X.env.kindOf y == some NameKind.local) = false := by
        show (X.env.scope.names.lookup y == some NameKind.local) = false
        rw [hs]
        rfl
      simp only [this, Bool.and_false, Bool.false_and]
  · exact noswap hv fun a b c d z => hl ⟨a, b, c, d, z⟩
theorem sole (t v : Expr) (l : Nat) (e : PySem.Env) : swapsWithSole [t] v l e = swapsWith v (some t) l e := rfl
theorem locO_ok {sc : Sc} {W : WX} {X : Cx} {x : Str} (ok : XOk P G C T n sc W X) (h : locO sc x = true) : X.env.scope.names.lookup x = some .local := by
  unfold locO at h
  split at h
  · rename_i e
    obtain ⟨k', h1, h2⟩ := ok.sc _ _ e
    rcases h2 with rfl | ⟨h2, _⟩
    · exact h1
    · cases h2
  · cases h
theorem cellO_ok {sc : Sc} {W : WX} {X : Cx} {x : Str} (ok : XOk P G C T n sc W X) (h : cellO sc x = true) : X.env.scope.names.lookup x = some .cell := by
  unfold cellO at h
  split at h
  · rename_i e
    obtain ⟨k', h1, h2⟩ := ok.sc _ _ e
    rcases h2 with rfl | ⟨h2, _⟩
    · exact h1
    · cases h2
  · cases h
/-- name = [.. for ..] -/
theorem ps_lc {sc : Sc} {W : WX} {X : Cx} {x : Str} {i : Nat} {t : Tg} {it : Nt.PI} {cond : Nt.PT} {elt : Nt.PE} {own : List Nat} {v : Expr} {py pos : Pos} (ok : XOk P G C T n sc W X) (hi : X.N[i]? = some x) (hx : X.env.scope.names.lookup x = some .local) (h : chkE T (.lc t it cond elt own) sc v = true) (hs : swapsWith v (some (.Name x py)) pos.line X.env = pure true) :
    L2.PS X (.Assign [.Name x py] v pos) (tAsg (tE P W 0 (evE G C (.lc t it cond elt own))) (gName i)) := by
  simp only [chkE] at h
  split at h
  · rename_i x tg iter ifs z scope pos
    simp only [Bool.and_eq_true, decide_eq_true_eq, List.all_eq_true] at h
    obtain ⟨⟨⟨⟨⟨⟨⟨⟨hz, h1⟩, h2⟩, h3⟩, h4⟩, h5⟩, h6⟩, h7⟩, h8⟩ := h
    subst hz
    have hb := fun s H Cd cl fp => blk_ok ok scope (blk_kf h7) s H Cd cl fp
    have he := fun s H Cd cl fp => sE elt (hb s H Cd cl fp) h5
    rw [h6] at he
    have ht : ∀ (s : Shared) (H : Hp) (Cd : Addr) (cl : List (Str × Addr)) (fp : List Addr), PTs (X.blk s H scope (compEnvC scope cl Cd X.env) fp) ifs (tT P W0 (evT G C cond)) := fun s H Cd cl fp => by
      split at h4
      · cases cond <;> first | (exact PTs_imp pts_nil fun σ H Q q => red_yes q) | (simp at h4)
      · exact pts_one (sT cond (hb s H Cd cl fp) h4)
      · cases h4
    refine PS_imp (ps_setLc ok.calm ok.nd hi hx hs (sI it ok h1) (blk_of ok h7) (fun s H Cd cl fp => sG t (hb s H Cd cl fp) h3) ht he (nofold h2)) fun D σ H q => ?_
    rw [ownP_snd]
    exact red_lc h8 q
  · cases h
theorem assign_h1 {env : PySem.Env} {tg : Expr} {t : Tg} {sc : Sc} (h : chkG T t sc tg = true) : (assignEach [tg] env).map (·.2) = [assign tg env] := by
  rw [chkG_plain t h]
  rfl
theorem own_no {i : Nat} {a : Nt.PE} {sc : Sc} {st : Stmt} (h1 : ∀ es, a ≠ .lst es) (h2 : ∀ t, a ≠ .dct t .nil .nil) : ¬ chkS T (.own i a) sc st = true := fun h => by
  simp only [chkS] at h
  split at h
  · simp only [Bool.and_eq_true] at h
    have h := h.2
    split at h
    · exact h1 _ rfl
    · exact h2 _ rfl
    · cases h
  · cases h
/-- a def's own frame -/
def Fr (X : Cx) : Prop := X.stack = X.env :: X.outer ∧ X.env.frame = some X.env.locals
theorem XOk.tr {sc : Sc} {W W' : WX} {X : Cx} {pn : List (Addr × Obj)} {xe : Value → Shared → Prop} (ok : XOk P G C T n sc W X) (tk : L2N.Takes (X.tr pn xe) W') (pass : PassesOwn (model X.prog X.w) X.A X.env xe) : XOk P G C T n sc W' (X.tr pn xe) :=
  ⟨ok.K, ok.calm, ok.kf, ok.room, ok.nd, ok.nm, ok.fnc, ok.sc, tk, pass, ok.kn⟩
/-- the suite's wish: the error stands in slot i -/
def tsW (P : Pm) (i : Nat) : Addr → Value → Option Addr → TS := fun a cls d D σ H => ∃ (c : Nat) (z : List Nat) (σ' : L2.St), excWord c = some z ∧ cls = .ref (P.cls c) ∧ d = none ∧ σ = σ'.set i (some (.ref a)) ∧ ∀ H', Sm H H' → D.rt (.str (sV z)) H'
theorem hot_of {cls : Value} {d : Option Addr} {oe : Obj} (h : L2N.Zn cls d oe) (hf : ∃ vs, oe.data = .fields vs) : ∃ vs : Array Value, oe.data = .fields vs ∧ vs[2]? = some .none := by
  obtain ⟨vs, e⟩ := hf
  exact ⟨vs, e, h.2.2 vs e⟩
theorem no_passes {X : Cx} : Passes (L2N.CX X.prog X.w) X fun _ _ _ => False := by
  intro pins σ H s e s' I h
  obtain ⟨_, _, _, _, _, _, _, _, _, _, _, _, z⟩ := h
  exact z.elim
mutual
theorem sS : ∀ (p : Nt.PS) {sc : Sc} {W : WX} {X : Cx} {st : Stmt}, XOk P G C T n sc W X → Fr X → chkS T p sc st = true → L2.PS X st (tS P W (exec G C p))
  | .asg t a, sc, W, X, st, ok, fr, h => by
    simp only [chkS] at h
    split at h
    · rename_i tg v pos
      simp only [Bool.and_eq_true, decide_eq_true_eq] at h
      obtain ⟨⟨⟨⟨h1, h2⟩, h3⟩, h4⟩, h5⟩ := h
      have he := sE a ok h2
      rw [h3] at he
      split at h5
      · rename_i x py
        cases t with
        | t ts => simp [chkG] at h1
        | v i =>
          have hg := sG (.v i) ok h1
          simp only [chkG, Bool.and_eq_true, decide_eq_true_eq] at h1
          have hi : X.N[i]? = some x := by rw [ok.nm]; exact h1.1
          obtain ⟨g1, g2⟩ := loc_ok ok h1.2
          have fin : ∀ D σ H, tS P W (exec G C (.asg (.v i) a)) D σ H → tAsg (tE P W 0 (evE G C a)) (gName i) D σ H := fun D σ H q => by
            have q := red_asg (t := .v i) q
            refine (?_ : tAsg _ _ D σ H)
            unfold tAsg at q ⊢
            obtain ⟨Z, ρ, e, s, R, q⟩ := q
            refine ⟨Z, ρ, e, s, R, q.imp fun d s1 ρ1 H1 X1 R1 q v hv => ?_⟩
            obtain ⟨Z, ρ, e, s, d, e', R, rv, hb, q⟩ := q v hv
            simp only [bindT] at hb
            split at hb
            · cases hb
              refine q _ ⟨by rw [List.length_set], fun j hj => ?_⟩ (Em.put fun o z => by cases z) (R.put (fun o z => by cases z) (.val rv))
              have hj : i ≠ j := fun z => hj (by rw [z]; exact List.mem_cons_self)
              exact ⟨List.getElem?_set_ne hj, List.getElem?_set_ne hj⟩
            · cases hb
          by_cases hl : notLc v = true
          · exact PS_imp (ps_set ok.nd hi g1 he (swap_no h4 (.inl hl)) g2) fin
          · have hlc : ∃ a b c d, v = .ListComp a b c d := by
              cases v <;> first | exact ⟨_, _, _, _, rfl⟩ | exact absurd rfl hl
            obtain ⟨w1, w2, scope, cpos, rfl⟩ := hlc
            simp only [lcSw, Bool.or_eq_true, Bool.and_eq_true] at h5
            rcases h5 with ⟨⟨k1, k2⟩, k3⟩ | k
            · have hx := locO_ok ok k1
              have hsw := sw_true (elt := w1) (gs := w2) (scope := scope) (pos := cpos) (py := py) (y := x) (l := pos.line) ok.kf hx k2 (by simpa using k3)
              cases a with
              | lc t' it cond elt own => exact PS_imp (ps_lc ok hi hx h2 hsw) fin
              | _ => first | (simp [chkE] at h2; done) | (exfalso; simp [chkE, o1Arg, o2Arg, chkR] at h2; done) | (exfalso; rename_i r; cases r <;> simp [chkE, chkR] at h2) | (exfalso; rename_i t; cases t <;> simp [chkE] at h2)
            · exact PS_imp (ps_set ok.nd hi g1 he (swap_no h4 (.inr (cellO_ok ok k))) g2) fin
      · rename_i es k tpos
        simp only [Bool.and_eq_true] at h5
        refine PS_imp (ps_asg he (sG t ok h1) ?_ ?_ (assign_h1 h1)) fun D σ H q => red_asg q
        · rw [sole]
          exact noswap (X := X) h4 fun a b c d z => by subst z; cases h5.1
        · have hn := h5.2
          cases v <;> first | rfl | (cases hn)
      · cases h5
    · cases h
  | .own i (.lst es), sc, W, X, st, ok, fr, h => by
    simp only [chkS] at h
    split at h
    · rename_i x px v pos
      simp only [Bool.and_eq_true, decide_eq_true_eq] at h
      obtain ⟨⟨h1, h2⟩, h3⟩ := h
      obtain ⟨g1, g2⟩ := loc_ok ok h2
      split at h3
      · rename_i es' xs lpos heq
        cases heq
        simp only [Bool.and_eq_true, decide_eq_true_eq] at h3
        exact PS_imp (ps_set ok.nd (by rw [ok.nm]; exact h1) g1 (pe_lst (sEs es ok h3.1)) rfl g2) fun D σ H q => red_ownL (m := lenEs es) (by rw [← chkEs_len es sc _ h3.1]; exact h3.2) (evEs_len es) q
      · rename_i heq; cases heq
      · cases h3
    · cases h
  | .own i (.dct t .nil .nil), sc, W, X, st, ok, fr, h => by
    simp only [chkS] at h
    split at h
    · rename_i x px v pos
      simp only [Bool.and_eq_true, decide_eq_true_eq] at h
      obtain ⟨⟨h1, h2⟩, h3⟩ := h
      obtain ⟨g1, g2⟩ := loc_ok ok h2
      split at h3
      · rename_i heq; cases heq
      · cases t with
        | true => exact PS_imp (ps_set ok.nd (by rw [ok.nm]; exact h1) g1 pe_dnewT rfl g2) fun D σ H q => red_ownD (t := true) q
        | false => exact PS_imp (ps_set ok.nd (by rw [ok.nm]; exact h1) g1 pe_dnewK rfl g2) fun D σ H q => red_ownD (t := false) q
      · cases h3
    · cases h
  | .app i a, sc, W, X, st, ok, fr, h => by
    simp only [chkS] at h
    split at h
    · simp only [Bool.and_eq_true, decide_eq_true_eq, beq_iff_eq, chkN] at h
      obtain ⟨⟨⟨⟨⟨rfl, ⟨⟨⟨g1, g2⟩, g3⟩, g4⟩⟩, h2⟩, h3⟩, h4⟩, h5⟩ := h
      have he := sE a ok h3
      rw [h4] at he
      exact PS_imp (ps_expr (pe_bm PySem.F.plainAttrs_list PySem.F.slot_list_append PySem.F.type_list_append mt_append (pe_var (by rw [ok.nm]; exact g1) (ok.vis g2) (nb g3) (nb g4)) (pa_cons he pa_nil (star_ok h2)) rfl (par_plain h2) (by simpa using h5) (star_ok h2) rfl) rfl) fun D σ H q => red_app q
    · cases h
  | .ext i a, sc, W, X, st, ok, fr, h => by
    simp only [chkS] at h
    split at h
    · simp only [Bool.and_eq_true, decide_eq_true_eq, beq_iff_eq, chkN] at h
      obtain ⟨⟨⟨⟨⟨rfl, ⟨⟨⟨g1, g2⟩, g3⟩, g4⟩⟩, h2⟩, h3⟩, h4⟩, h5⟩ := h
      have he := sE a ok h3
      rw [h4] at he
      exact PS_imp (ps_expr (pe_bm PySem.F.plainAttrs_list PySem.F.slot_list_extend PySem.F.type_list_extend mt_extend (pe_var (by rw [ok.nm]; exact g1) (ok.vis g2) (nb g3) (nb g4)) (pa_cons he pa_nil (star_ok h2)) rfl (par_plain h2) (by simpa using h5) (star_ok h2) rfl) rfl) fun D σ H q => red_ext q
    · cases h
  | .seti i k a, sc, W, X, st, ok, fr, h => by
    simp only [chkS] at h
    split at h
    · rename_i x p1 y p2 v pos
      simp only [Bool.and_eq_true, decide_eq_true_eq, chkN, bne_iff_ne] at h
      obtain ⟨⟨⟨⟨⟨⟨⟨⟨⟨⟨g1, g2⟩, g3⟩, g4⟩, h2⟩, h3⟩, h4⟩, h5⟩, h6⟩, h7⟩, h8⟩ := h
      have he := sE a ok h3
      rw [h5] at he
      have hk := sE k ok h2
      rw [h4] at hk
      have hu := ok.units
      refine PS_imp (ps_asg he (pg_sub (pe_var (by rw [ok.nm]; exact g1) (ok.vis g2) (by simpa using g3) (by simpa using g4)) hk (PSet.or set_list (set_dict (by omega))) ?_) ?_ ?_ rfl) fun D σ H q => red_seti q
      · intro v; cases y <;> first | rfl | (simp [okE] at h6)
      · rw [sole]
        exact noswap (X := X) h7 fun a b c d z => by subst z; cases h8
      · cases v <;> rfl
    · cases h
  | .ifs c a b, sc, W, X, st, ok, fr, h => by
    simp only [chkS] at h
    split at h
    · simp only [Bool.and_eq_true] at h
      exact PS_imp (ps_if (sT c ok h.1.1) (sSs a ok fr h.1.2) (sSs b ok fr h.2)) fun D σ H q => red_ifs q
    · cases h
  | .for_ t it body, sc, W, X, st, ok, fr, h => by
    simp only [chkS] at h
    split at h
    · simp only [Bool.and_eq_true, decide_eq_true_eq] at h
      obtain ⟨⟨⟨⟨h1, h2⟩, h3⟩, h4⟩, h5⟩ := h
      have hi := sI it ok h2
      rw [h3] at hi
      exact PS_imp (ps_for ok.pass ok.calm hi (sG t ok h1) (sSs body ok fr h5) (nofold h4)) fun D σ H q => red_for q
    · cases h
  | .whl c body, sc, W, X, st, ok, fr, h => by
    simp only [chkS] at h
    split at h
    · simp only [Bool.and_eq_true] at h
      exact PS_imp (ps_while ok.pass (sT c ok h.1) (sSs body ok fr h.2)) fun D σ H q => red_whl q
    · cases h
  | .ret a, sc, W, X, st, ok, fr, h => by
    simp only [chkS] at h
    split at h
    · simp only [Bool.and_eq_true, decide_eq_true_eq] at h
      have he := sE a ok h.1
      rw [h.2] at he
      exact PS_imp (ps_ret he) fun D σ H q => red_ret q
    · cases h
  | .retN, sc, W, X, st, ok, fr, h => by
    simp only [chkS] at h
    split at h
    · exact PS_imp ps_retN fun D σ H q => red_retN q
    · cases h
  | .ex a, sc, W, X, st, ok, fr, h => by
    simp only [chkS] at h
    split at h
    · simp only [Bool.and_eq_true, decide_eq_true_eq] at h
      obtain ⟨⟨⟨h1, h2⟩, h3⟩, h4⟩ := h
      have he := sE a ok h1
      rw [h2] at he
      exact PS_imp (ps_expr he (noswap h3 fun a b c d z => by subst z; cases h4)) fun D σ H q => red_ex q
    · cases h
  | .raise c, sc, W, X, st, ok, fr, h => by
    simp only [chkS] at h
    split at h
    · simp only [Bool.and_eq_true, decide_eq_true_eq] at h
      obtain ⟨⟨h1, h2⟩, h3⟩ := h
      obtain ⟨g1, g2, ⟨B, newId, initId, bmB, F, q⟩, g4, g5⟩ := ok.kn.cl _ _ h2
      have hK : X.K = P.K := ok.K
      refine PS_imp (L2N.ps_raise ok.calm ok.tk (L2N.pmk_own F (by rw [hK]; exact q) g1 (by rw [hK]; exact g2) (raises_own (by rw [hK]; exact g4) (by rw [hK]; exact g5)) (ok.gl h1) (nb h3))) fun D σ H q => ?_
      obtain ⟨Z, ρ, e, s, R, q⟩ := q
      exact q ρ H σ (Em.refl.less fun _ m => .inl m) R.rsR
    · cases h
  | .pass, sc, W, X, st, ok, fr, h => by
    simp only [chkS] at h
    split at h
    · exact PS_imp ps_pass fun D σ H q => red_next q
    · exact PS_imp ps_doc fun D σ H q => red_next q
    · cases h
  | .own i (.cst _), sc, W, X, st, ok, fr, h => by exact absurd h (own_no (by intro es z; cases z) (by intro t z; cases z))
  | .own i (.gl _), sc, W, X, st, ok, fr, h => by exact absurd h (own_no (by intro es z; cases z) (by intro t z; cases z))
  | .own i (.var _), sc, W, X, st, ok, fr, h => by exact absurd h (own_no (by intro es z; cases z) (by intro t z; cases z))
  | .own i (.peek _), sc, W, X, st, ok, fr, h => by exact absurd h (own_no (by intro es z; cases z) (by intro t z; cases z))
  | .own i (.sn _), sc, W, X, st, ok, fr, h => by exact absurd h (own_no (by intro es z; cases z) (by intro t z; cases z))
  | .own i (.tup _), sc, W, X, st, ok, fr, h => by exact absurd h (own_no (by intro es z; cases z) (by intro t z; cases z))
  | .own i (.o1 _ _), sc, W, X, st, ok, fr, h => by exact absurd h (own_no (by intro es z; cases z) (by intro t z; cases z))
  | .own i (.o2 _ _ _), sc, W, X, st, ok, fr, h => by exact absurd h (own_no (by intro es z; cases z) (by intro t z; cases z))
  | .own i (.o3 _ _ _ _), sc, W, X, st, ok, fr, h => by exact absurd h (own_no (by intro es z; cases z) (by intro t z; cases z))
  | .own i (.chain _ _ _ _ _), sc, W, X, st, ok, fr, h => by exact absurd h (own_no (by intro es z; cases z) (by intro t z; cases z))
  | .own i (.band _ _), sc, W, X, st, ok, fr, h => by exact absurd h (own_no (by intro es z; cases z) (by intro t z; cases z))
  | .own i (.bor _ _), sc, W, X, st, ok, fr, h => by exact absurd h (own_no (by intro es z; cases z) (by intro t z; cases z))
  | .own i (.bnot _), sc, W, X, st, ok, fr, h => by exact absurd h (own_no (by intro es z; cases z) (by intro t z; cases z))
  | .own i (.ifx _ _ _), sc, W, X, st, ok, fr, h => by exact absurd h (own_no (by intro es z; cases z) (by intro t z; cases z))
  | .own i (.slc _ _ _), sc, W, X, st, ok, fr, h => by exact absurd h (own_no (by intro es z; cases z) (by intro t z; cases z))
  | .own i (.call _ _), sc, W, X, st, ok, fr, h => by exact absurd h (own_no (by intro es z; cases z) (by intro t z; cases z))
  | .own i (.callv _ _), sc, W, X, st, ok, fr, h => by exact absurd h (own_no (by intro es z; cases z) (by intro t z; cases z))
  | .own i (.lc _ _ _ _ _), sc, W, X, st, ok, fr, h => by exact absurd h (own_no (by intro es z; cases z) (by intro t z; cases z))
  | .own i (.fld _ _), sc, W, X, st, ok, fr, h => by exact absurd h (own_no (by intro es z; cases z) (by intro t z; cases z))
  | .own i (.rfld _ _), sc, W, X, st, ok, fr, h => by exact absurd h (own_no (by intro es z; cases z) (by intro t z; cases z))
  | .own i (.lam _ _), sc, W, X, st, ok, fr, h => by exact absurd h (own_no (by intro es z; cases z) (by intro t z; cases z))
  | .own i (.inR _ _ _), sc, W, X, st, ok, fr, h => by exact absurd h (own_no (by intro es z; cases z) (by intro t z; cases z))
  | .own i (.lrng1 _), sc, W, X, st, ok, fr, h => by exact absurd h (own_no (by intro es z; cases z) (by intro t z; cases z))
  | .own i (.lrng2 _ _), sc, W, X, st, ok, fr, h => by exact absurd h (own_no (by intro es z; cases z) (by intro t z; cases z))
  | .own i (.dct t (.cons a b) v), sc, W, X, st, ok, fr, h => by exact absurd h (own_no (by intro es z; cases z) (by intro t z; cases z))
  | .own i (.dct t .nil (.cons a b)), sc, W, X, st, ok, fr, h => by exact absurd h (own_no (by intro es z; cases z) (by intro t z; cases z))
  | .par is es, sc, W, X, st, ok, fr, h => by
    simp only [chkS] at h
    split at h
    · rename_i ts kt pt vs k2 pt2 pos
      simp only [Bool.and_eq_true, Bool.not_eq_true'] at h
      obtain ⟨⟨⟨h1, h2⟩, h3⟩, h4⟩ := h
      obtain ⟨ha, ho⟩ := sPv (W := W) ok is es vs h1
      unfold chkPar at h2
      split at h2
      · rename_i i m1 j m2 x px y py
        simp only [Bool.and_eq_true, decide_eq_true_eq] at h2
        obtain ⟨⟨⟨⟨⟨g1, g2⟩, g3⟩, g4⟩, g5⟩, g6⟩ := h2
        have hx := locO_ok ok g4
        have hy := locO_ok ok g5
        have hi : X.N[i]? = some x := by rw [ok.nm]; exact g1
        have hj : X.N[j]? = some y := by rw [ok.nm]; exact g2
        have hne : x ≠ y := fun z => g3 (nodup_ix ok.nd hi (z ▸ hj))
        have hl := chkPs_len _ es vs h1
        match vs, hl, ha, ho, h1, h3, h4 with
        | [a, b], _, ha, ho, h1, h3, h4 =>
          refine PS_imp (ps_par ok.calm ok.nd hi hj g3 hx hy ha (swapped2 ok.kf hx hy g6 hne ho h3 h4) rfl) fun D σ H q => ?_
          refine tPv_mono (fun vs H' q => ?_) (red_par h1 q)
          obtain ⟨hlen, q⟩ := q
          match vs, hlen, q with
          | [v, w], _, q => exact ⟨v, w, rfl, q⟩
      · rename_i i m1 j m2 l m3 x px y py z pz
        simp only [Bool.and_eq_true, decide_eq_true_eq] at h2
        obtain ⟨⟨⟨⟨⟨⟨⟨⟨⟨⟨g1, g2⟩, g2'⟩, g3⟩, g3'⟩, g3''⟩, g4⟩, g5⟩, g5'⟩, g6⟩, g7⟩ := h2
        have hx := locO_ok ok g4
        have hy := locO_ok ok g5
        have hz := locO_ok ok g5'
        have hi : X.N[i]? = some x := by rw [ok.nm]; exact g1
        have hj : X.N[j]? = some y := by rw [ok.nm]; exact g2
        have hk : X.N[l]? = some z := by rw [ok.nm]; exact g2'
        have hne : x ≠ y := fun q => g3 (nodup_ix ok.nd hi (q ▸ hj))
        have hxz : x ≠ z := fun q => g3' (nodup_ix ok.nd hi (q ▸ hk))
        have hyz : y ≠ z := fun q => g3'' (nodup_ix ok.nd hj (q ▸ hk))
        have hl := chkPs_len _ es vs h1
        match vs, hl, ha, ho, h1, h3, h4 with
        | [a, b, c], _, ha, ho, h1, h3, h4 =>
          refine PS_imp (ps_par3 ok.calm ok.nd hi hj hk g3 g3' g3'' hx hy hz ha (swapped3 ok.kf hx hy hz g6 g7 hne hxz hyz ho h3 h4) rfl) fun D σ H q => ?_
          refine tPv_mono (fun vs H' q => ?_) (red_par h1 q)
          obtain ⟨hlen, q⟩ := q
          match vs, hlen, q with
          | [u, v, w], _, q => exact ⟨u, v, w, rfl, q⟩
      · cases h2
    · cases h
  | .try_ body i, sc, W, X, st, ok, fr, h => by
    simp only [chkS] at h
    split at h
    · rename_i bs x xp m f fp m' mp cp rp hp pos
      simp only [Bool.and_eq_true, decide_eq_true_eq, beq_iff_eq, bne_iff_ne, ne_eq] at h
      obtain ⟨⟨⟨⟨⟨⟨⟨⟨⟨⟨⟨rfl, h2⟩, h3⟩, h4⟩, h5⟩, rfl⟩, h7⟩, h8⟩, h9⟩, h10⟩, h11⟩, h12⟩ := h
      obtain ⟨c1, c2, _⟩ := ok.kn.cl _ _ h3
      have hK : X.K = P.K := ok.K
      have hi : X.N[i]? = some m' := by rw [ok.nm]; exact h4
      have hl := locO_ok ok h5
      refine PS_imp (L2N.ps_try_as (x := ("NoteError" : Str)) (c := .ref (P.cls 0)) (ts := tsW P i) fr.1 fr.2 ok.nd hi hl ⟨ok.gl h2, by decide, .inl c1⟩ ok.tk (fun W' pn xe tk pass => sSs body (X := X.tr pn xe) (ok.tr tk pass) fr h12) (fun a oe cls d pn hz hf => ?_)) fun D σ H q => ?_
      · refine ⟨fun pins s σ H D I q => ?_⟩
        obtain ⟨c, z, σ', hw, rfl, rfl, rfl, q⟩ := q
        obtain ⟨fa, fd, y, k1, k2, k3, k4, _⟩ := ok.kn.wd _ h10 c z hw
        have hlen : i < σ'.length := by
          have := I.len
          rw [List.length_set] at this
          rw [this]
          exact (List.getElem?_eq_some_iff.mp hi).1
        have pv : L2.PE (X.suite a ((a, oe) :: pn)) (.Name m' mp) (tVar i) := pe_var hi (.inl hl) (by simpa using h7) (by simpa using h8)
        have pc := pe_callW (X := X.suite a ((a, oe) :: pn)) (p := (a, oe)) (q := fp) (pos := cp) (CX := L2N.CX X.prog X.w) (by rw [hK]; exact k4) (show L2H.RoomH n (X.A.mark (some (.ref a))) from ⟨ok.room.dp, ok.room.un⟩) ⟨rfl, hot_of hz hf⟩ List.mem_cons_self hz.zc (ok.gl h9) k1 (by rw [hK]; exact k2) (by rw [hK]; exact k3) no_passes pv (by simpa using h11) rfl
        refine (pss_cons (ps_ret (pos := rp) pc) pss_nil).run pins s _ H D I ?_
        refine ⟨?_, q⟩
        rw [List.getElem?_set_self hlen]
      · obtain ⟨Z, ρ, e, s, R, q⟩ := q
        refine ⟨Z, ρ, e, s, R, ?_⟩
        simp only [exec] at q
        revert q
        cases execs G C body e s with
        | nx e' s' => exact fun q => q
        | rt d s' => exact fun q => q
        | stuck => exact fun q => q
        | exc c s' =>
          intro q ρ' H' σ' em rs
          simp only [tryO] at q
          split at q
          · rename_i z hw
            obtain ⟨_, _, _, _, _, _, _, hx⟩ := ok.kn.wd _ h10 c z hw
            refine ⟨true, by rw [hK]; exact hx, fun _ a ha => ⟨c, z, σ', hw, rfl, rfl, rfl, fun H2 sm => ?_⟩, fun z => by cases z⟩
            exact q ρ' H2 (.str (sV z)) ⟨⟨fun b o hb nb => sm b o (em.stp.keep b o hb nb), em.stp.new⟩, em.roots⟩ (rs.sm sm) (.str _)
          · exact q.elim
    · cases h
  | .cell _ _, sc, W, X, st, ok, fr, h => by simp [chkS] at h
  | .newS _, sc, W, X, st, ok, fr, h => by simp [chkS] at h
  | .newO _ _ _ _, sc, W, X, st, ok, fr, h => by simp [chkS] at h
  | .setS _ _, sc, W, X, st, ok, fr, h => by simp [chkS] at h
  | .appR _ _, sc, W, X, st, ok, fr, h => by simp [chkS] at h
  | .remR _ _, sc, W, X, st, ok, fr, h => by simp [chkS] at h
  | .setR _ _ _, sc, W, X, st, ok, fr, h => by simp [chkS] at h
  | .setf _ _ _, sc, W, X, st, ok, fr, h => by simp [chkS] at h
  | .asgF _ _ _ _, sc, W, X, st, ok, fr, h => by simp [chkS] at h
  | .retR _, sc, W, X, st, ok, fr, h => by simp [chkS] at h
  | .kill _, sc, W, X, st, ok, fr, h => by simp [chkS] at h
  | .freeze _, sc, W, X, st, ok, fr, h => by simp [chkS] at h
  | .trunc _, sc, W, X, st, ok, fr, h => by simp [chkS] at h
theorem sSs : ∀ (ps : Nt.PSs) {sc : Sc} {W : WX} {X : Cx} {sts : List Stmt}, XOk P G C T n sc W X → Fr X → chkSs T ps sc sts = true → L2.PSs X sts (tS P W (execs G C ps))
  | .nil, sc, W, X, sts, ok, fr, h => by
    simp only [chkSs, List.isEmpty_iff] at h
    subst h
    exact PSs_imp pss_nil fun D σ H q => red_next q
  | .cons p ps, sc, W, X, sts, ok, fr, h => by
    simp only [chkSs] at h
    split at h
    · rename_i hh
      have ih := sSs ps ok fr h
      cases p <;> first | (cases hh; done) | skip
      · exact PSs_imp ih fun D σ H q => red_kill q
      · exact PSs_imp ih fun D σ H q => red_freeze q
    · cases sts with
      | nil => cases h
      | cons st sts =>
        simp only [Bool.and_eq_true] at h
        exact PSs_imp (pss_cons (sS p ok fr h.1) (sSs ps ok fr h.2)) fun D σ H q => tS_then q
end
end
end Nt
set_option Elab.async false
set_option linter.all false
set_option maxRecDepth 100000
set_option maxHeartbeats 2000000
set_option autoImplicit false
/-! E2n: defs -/
namespace Nt
open PySem PySem.Spec PyProof.Rows L2
section
variable {P : Pm} {M : Addr → Prop} {ρ : List (List Addr)} {H : Hp} {s : Store}
theorem ArgsOk.length : ∀ {as : List Arg} {vs : List V}, ArgsOk P M H ρ as vs → as.length = vs.length
  | _, _, .nil => rfl
  | _, _, .cons _ t => by rw [List.length_cons, List.length_cons, ArgsOk.length t]
theorem ArgsOk.get : ∀ {as : List Arg} {vs : List V} {i : Nat} {a : Arg}, ArgsOk P M H ρ as vs → as[i]? = some a → ∃ v, vs[i]? = some v ∧ ArgOk P M H ρ a v
  | _, _, _, _, .nil, e => by simp at e
  | _, _, 0, _, .cons h _, e => by
    simp at e
    subst e
    exact ⟨_, by simp, h⟩
  | _, _, i + 1, _, .cons _ t, e => by
    obtain ⟨v, h1, h2⟩ := ArgsOk.get (i := i) t (by simpa using e)
    exact ⟨v, by simpa using h1, h2⟩
theorem startE_len {n : Nat} {as : List Arg} (h : as.length ≤ n) : (startE n as).length = n := by
  unfold startE
  rw [List.length_append, List.length_map, List.length_replicate]
  omega
theorem startE_get {n i : Nat} {as : List Arg} {x : Slot} (h : (startE n as)[i]? = some (some x)) : ∃ a, as[i]? = some a ∧ ((∃ d, a = .val d ∧ x = .val d) ∨ ∃ m, a = .ref m ∧ x = .ref m) := by
  unfold startE at h
  by_cases hi : i < as.length
  · rw [List.getElem?_append_left (by rw [List.length_map]; exact hi), List.getElem?_map, List.getElem?_eq_getElem hi] at h
    refine ⟨_, List.getElem?_eq_getElem hi, ?_⟩
    generalize as[i] = a at h
    cases a with
    | val d =>
      simp only [Option.map_some, Option.some.injEq] at h
      exact .inl ⟨d, rfl, h.symm⟩
    | ref m =>
      simp only [Option.map_some, Option.some.injEq] at h
      exact .inr ⟨m, rfl, h.symm⟩
  · rw [List.getElem?_append_right (by rw [List.length_map]; omega)] at h
    rw [List.getElem?_replicate] at h
    split at h <;> cases h
theorem start_get {N : List Str} {i : Nat} {vs : List V} {v : V} (h : vs[i]? = some v) : (L2.start N vs)[i]? = some (some v) := by
  unfold L2.start
  have hi : i < vs.length := (List.getElem?_eq_some_iff.mp h).1
  rw [List.getElem?_append_left (by rw [List.length_map]; exact hi), List.getElem?_map, h]
  rfl
theorem start_rp {N : List Str} {n : Nat} {as : List Arg} {vs : List V} (r : Rs P M ρ H s) (a : ArgsOk P M H ρ as vs) (hn : n = N.length) (hl : as.length ≤ n) : Rp P M ρ H (L2.start N vs) (startE n as) s ∧ ∀ x, ¬ Ow (L2.start N vs) (startE n as) x := by
  have no : ∀ (i : Nat) (o : SO), (startE n as)[i]? = some (some (Slot.own o)) → False := fun i o h => by
    obtain ⟨b, _, h2⟩ := startE_get h
    rcases h2 with ⟨d, _, h2⟩ | ⟨d, _, h2⟩ <;> cases h2
  have k : ∀ x, Mu M ρ (L2.start N vs) (startE n as) x → M x := fun x m => by
    rcases m with m | m | ⟨i, o, h, _⟩
    · exact m
    · exact r.sub x m
    · exact (no i o h).elim
  refine ⟨⟨r.less k fun a m => .inr (.inl m), ?_, fun i x h => ?_, fun i j o o' a h => (no i o h).elim, fun x ⟨i, o, h, _⟩ => (no i o h).elim⟩, fun x ⟨i, o, h, _⟩ => no i o h⟩
  · rw [startE_len hl]
    unfold L2.start
    rw [List.length_append, List.length_map, List.length_replicate, ← a.length]
    omega
  · obtain ⟨b, h1, h2⟩ := startE_get h
    obtain ⟨v, h3, h4⟩ := a.get h1
    refine ⟨v, start_get h3, ?_⟩
    rcases h2 with ⟨d, rfl, rfl⟩ | ⟨d, rfl, rfl⟩
    · exact .val (RV.less k h4)
    · obtain ⟨a, h5, rfl⟩ := h4
      exact .ref h5
end
section
variable {P : Pm} {G : Glob} {C : Calls} {T : Tx} {n : Nat} {prog : Program} {w : World} {mg : Str → Option Value} {base : Heap}
/-- a def keeps its promise: it does what the evaluator says -/
theorem fn_code {x qual : Str} {params : Arguments} {body : List Stmt} {scope : Scope} {dvs : List V} {kws : List (Str × V)} {f : Addr} {fd : FuncData} {ps : List Str} {d : Def}
    (F : FunD P.K x qual params body scope dvs kws f fd) (S : FnScope T.names ps scope) (kn : Kn P G C T n prog w base mg) (hp : d.params = ps.length) (hs : d.slots = T.names.length) (hl : ps.length ≤ T.names.length)
    (h : chkSs T d.body scope.names body = true) : FnOk prog w P.K mg base (L2N.CX prog w) (n + 1) f fd ps (spF P (runDef G C d)) := by
  refine F.ok S (fun vs H Q E hsp => ?_) (fun cdv A outer s H vs Q E hr hsp => ?_)
  · obtain ⟨M, ρ, as, st, rs, ha, q⟩ := hsp
    unfold runDef at q
    by_cases hc : as.length = d.params
    · rw [← ha.length, hc, hp]
    · rw [if_neg hc] at q; exact q.elim
  · obtain ⟨M, ρ, as, st, rs, ha, q⟩ := hsp
    unfold runDef at q
    by_cases hc : as.length = d.params
    · rw [if_pos hc] at q
      obtain ⟨R, no⟩ := start_rp (N := T.names) (n := d.slots) rs ha hs (by rw [hc, hp, hs]; exact hl)
      have ok : XOk P G C T n scope.names (fun cls dd _ H' => E cls dd H') (cxOf (L2N.CX prog w) prog w P.K mg base T.names qual scope f cdv A outer s H E) := {
        K := rfl
        calm := rfl
        kf := S.kind
        room := hr
        nd := S.nd
        nm := rfl
        fnc := fun _ _ => rfl
        sc := fun x k h => ⟨k, h, .inl rfl⟩
        tk := L2N.takes_of rfl rfl rfl rfl
        pass := passes_of rfl
        kn := kn }
      refine ⟨_, sSs d.body ok ⟨rfl, rfl⟩ h, M, ρ, _, st, R, ?_⟩
      have ex : ∀ {M' : Addr → Prop} {ρ' : List (List Addr)} {H' : Hp}, (∀ a, inR ρ' a → M' a) → Em ρ H (L2.start T.names vs) (startE d.slots as) M' ρ' H' → Ex ρ H ρ' H' := fun hs em => ⟨fun a o e m => em.stp.keep a o e fun z => by
        rcases z with z | z
        · exact m z
        · exact no a z, fun a m => by
        rcases em.stp.new a (hs a m) with (z | z) | z
        · exact .inl z
        · exact (no a z).elim
        · exact .inr z, em.roots⟩
      revert q
      cases execs G C d.body (startE d.slots as) st with
      | nx e' s' =>
        intro q ρ' H' σ' em R'
        have e1 := ex (fun a m => .inl m) em
        exact q ρ' H' .non e1 R'.rsR .non
      | rt dd s' => exact fun q ρ' H' v em rs r => q ρ' H' v (ex (fun a m => m) em) rs r
      | exc c s' => exact fun q ρ' H' σ' em rs => q ρ' H' (ex (fun a m => m) em) rs
      | stuck => exact fun q => q
    · rw [if_neg hc] at q; exact q.elim
end
end Nt
set_option Elab.async false
set_option linter.all false
set_option maxRecDepth 100000
set_option maxHeartbeats 2000000
set_option autoImplicit false
/-! E2q: all defs of a program, to all depths; the law's end -/
namespace Nt
open PySem PySem.Spec PyProof.Rows L2
section
variable {P : Pm} {G : Glob} {T : Tx} {Tb : Table} {prog : Program} {w : World} {mg : Str → Option Value} {base : Heap}
theorem spF_stuck {φ : List Arg → Store → Res D} (h : ∀ as s, φ as s = .stuck) {vs : List V} {H : Hp} {Q : VK} {E : XK} : ¬ spF P φ vs H Q E := fun q => by
  obtain ⟨M, ρ, as, s, rs, ha, q⟩ := q
  rw [h as s] at q
  exact q
theorem fnOk_stuck {φ : List Arg → Store → Res D} (h : ∀ as s, φ as s = .stuck) {CX : CXT} {n : Nat} {a : Addr} {fd : FuncData} {ps : List Str} {K : Frag} : FnOk prog w K mg base CX n a fd ps (spF P φ) :=
  ⟨fun vs H Q E q => (spF_stuck h q).elim, fun A outer s H args us vs Q E _ _ _ _ q => (spF_stuck h q).elim⟩
/-- what the head says of the program's top, over a base -/
structure Top (P : Pm) (G : Glob) (T : Tx) (Tb : Table) (prog : Program) (w : World) (base : Heap) (mg : Str → Option Value) : Prop where
  glob : ∀ x k, T.gl.lookup x = some k → ∃ u v d, mg x = some u ∧ RelV v u ∧ G k = some d ∧ ∀ M H, RV P M H d v
  fn : ∀ x f, T.fns.lookup x = some f → ∃ a fd ps, mg x = some (.ref a) ∧ PySem.W.keepIn P.K (.ref a) = true ∧ Binds P.K fd ps [] ∧
    ∀ n, Kn P G (run G Tb n) T (n + 1) prog w base mg → FnOk prog w P.K mg base (L2N.CX prog w) (n + 1 + 1) a fd ps (spF P (run G Tb (n + 1) f))
  cl : ∀ x c, T.cls.lookup x = some c → mg x = some (.ref (P.cls c)) ∧ PySem.W.keepIn P.K (.ref (P.cls c)) = true ∧ ExcOk P.K (P.cls c)
  blt : ∀ x, x ∈ (["len", "tuple", "list", "sorted", "all", "sum", "max", "min", "abs", "int", "str", "bool", "isinstance", "range", "zip", "enumerate", "set", "dict"] : List Str) → mg x = none
  wd : ∀ x, T.wd = some x → ∀ c z, excWord c = some z → ∃ a fd y, mg x = some (.ref a) ∧ PySem.W.keepIn P.K (.ref a) = true ∧ Binds P.K fd [y] [] ∧ (∀ n, FnW prog w P.K mg base (L2N.CX prog w) (n + 1) a fd y (P.cls c) (.str (sV z))) ∧ PySem.W.exmOne P.K (.ref (P.cls c)) (.ref (P.cls 0)) = some true
theorem Top.kn (t : Top P G T Tb prog w base mg) : ∀ n, Kn P G (run G Tb n) T (n + 1) prog w base mg
  | 0 => ⟨t.glob, fun x f h => by
    obtain ⟨a, fd, ps, h1, h2, h3, _⟩ := t.fn x f h
    exact ⟨a, fd, ps, h1, h2, h3, fnOk_stuck fun _ _ => rfl⟩, t.cl, t.blt, fun x hx c z hz => by
    obtain ⟨a, fd, y, h1, h2, h3, h4, h5⟩ := t.wd x hx c z hz
    exact ⟨a, fd, y, h1, h2, h3, h4 _, h5⟩⟩
  | n + 1 => ⟨t.glob, fun x f h => by
    obtain ⟨a, fd, ps, h1, h2, h3, h4⟩ := t.fn x f h
    exact ⟨a, fd, ps, h1, h2, h3, h4 n (t.kn n)⟩, t.cl, t.blt, fun x hx c z hz => by
    obtain ⟨a, fd, y, h1, h2, h3, h4, h5⟩ := t.wd x hx c z hz
    exact ⟨a, fd, y, h1, h2, h3, h4 _, h5⟩⟩
theorem Kn.names {C : Calls} {n : Nat} {N N' : List Str} {gl fns cls : List (Str × Nat)} {wd : Option Str} (k : Kn P G C ⟨N, gl, fns, cls, wd⟩ n prog w base mg) : Kn P G C ⟨N', gl, fns, cls, wd⟩ n prog w base mg := ⟨k.glob, k.fn, k.cl, k.blt, k.wd⟩
theorem excOk_of {K : Frag} {x : Str} (c : (He.Fa.exc x).ok K = true) : PySem.W.keepIn K (.ref (He.ga K x)) = true ∧ ExcOk K (He.ga K x) := by
  obtain ⟨c1, c2, c3, c4⟩ := He.exc_ok c
  exact ⟨c2, ⟨⟨"ValueError", "ValueError.__new__", _, He.veBase, PySem.F.excBase_ValueError, c1⟩, c3, c4⟩⟩
/-- one of the defs, by its code -/
theorem fn_at {N : List Str} {gl fns cls : List (Str × Nat)} {wd : Option Str} {x : Str} {params : Arguments} {body : List Stmt} {scope : Scope} {a : Addr} {fd : FuncData} {ps : List Str} {d : Def} {f : Nat}
    (F : FunD P.K x x params body scope [] [] a fd) (S : FnScope N ps scope) (hf : Tb f = some (.code d)) (hp : d.params = ps.length) (hs : d.slots = N.length) (hl : ps.length ≤ N.length) (h : chkSs ⟨N, gl, fns, cls, wd⟩ d.body scope.names body = true) :
    ∀ n, Kn P G (run G Tb n) ⟨[], gl, fns, cls, wd⟩ (n + 1) prog w base mg → FnOk prog w P.K mg base (L2N.CX prog w) (n + 1 + 1) a fd ps (spF P (run G Tb (n + 1) f)) := fun n kn => by
  have := fn_code (T := ⟨N, gl, fns, cls, wd⟩) F S kn.names hp hs hl h
  have e : run G Tb (n + 1) f = runDef G (run G Tb n) d := by
    funext as s
    simp only [run, hf]
  rw [e]
  exact this
/-- one of the defs that is not told -/
theorem fn_none {a : Addr} {fd : FuncData} {ps : List Str} {f : Nat} (hf : Tb f = none) : ∀ n : Nat, FnOk prog w P.K mg base (L2N.CX prog w) (n + 1 + 1) a fd ps (spF P (run G Tb (n + 1) f)) := fun n => by
  refine fnOk_stuck fun as s => ?_
  simp only [run, hf]
/-- the law's own def: of the script alone -/
theorem law_sp {n f : Nat} {ns : List Int} {s' : Store} (h : run G Tb n f [.val (.scr ns)] [] = .ok (.bl true) s') {H : Hp} {a : Addr} (hS : SqL P.K H a (ns.map V.int)) {E : XK} : spF P (run G Tb n f) [.ref a] H (fun v _ => v = .bl true) E := by
  refine ⟨fun _ => False, [], [.val (.scr ns)], [], ⟨.nil, by simp, fun _ z => z.elim, fun a m => by simp [inR] at m⟩, .cons (.scr ?_) .nil, ?_⟩
  · rcases hS with h | ⟨o, its, n, h⟩
    · exact .inl ⟨h, id⟩
    · exact .inr ⟨o, its, n, h⟩
  · rw [h]
    intro ρ' H' v x rs r
    cases r
    rfl
/-- a def, found by name -/
def GoodF (P : Pm) (G : Glob) (T : Tx) (Tb : Table) (prog : Program) (w : World) (base : Heap) (mg : Str → Option Value) (x : Str) (f : Nat) : Prop := ∃ a fd ps, mg x = some (.ref a) ∧ PySem.W.keepIn P.K (.ref a) = true ∧ Binds P.K fd ps [] ∧
    ∀ n, Kn P G (run G Tb n) T (n + 1) prog w base mg → FnOk prog w P.K mg base (L2N.CX prog w) (n + 1 + 1) a fd ps (spF P (run G Tb (n + 1) f))
theorem lookup_mem {α : Type} : ∀ {l : List (Str × α)} {x : Str} {a : α}, l.lookup x = some a → (x, a) ∈ l
  | [], _, _, h => by cases h
  | (y, b) :: r, x, a, h => by
    rw [List.lookup_cons] at h
    cases e : x == y with
    | true =>
      rw [e] at h
      cases h
      rw [beq_iff_eq] at e
      subst e
      exact List.mem_cons_self
    | false =>
      rw [e] at h
      exact List.mem_cons_of_mem _ (lookup_mem h)
theorem fn_calm {K : Frag} {k : Nat} {f : Addr} {fd : FuncData} {ps : List Str} {sp : Sp} (F : FnOk prog w K mg base (L2N.CX prog w) k f fd ps sp) : FnOk prog w K mg base CX0 k f fd ps (fun vs H Q _ => sp vs H Q fun _ _ _ => False) := by
  refine ⟨fun vs H Q E h => F.len _ _ _ _ h, fun A outer s H args us vs Q E hr e0 hb r h => codeAny_mono (F.run A outer s H args us vs Q _ hr e0 hb r h) fun r s' hq => ?_⟩
  cases r with
  | error e =>
    obtain ⟨a, B, H', cls, d, _, _, _, _, _, _, _, z⟩ := hq
    exact z.elim
  | ok fl => cases fl <;> exact hq
end
end Nt
set_option Elab.async false
set_option linter.all false
set_option maxRecDepth 100000
set_option maxHeartbeats 2000000
set_option autoImplicit false
/-! E2s: the module's constants, told by the head -/
namespace Nt
open PySem PySem.Spec PyProof.Rows L2
mutual
/-- the value u of the written part is the datum d -/
def cB (K : Frag) : D → Value → Bool
  | .int i, u => match u with
    | .int j _ => decide (i = j)
    | _ => false
  | .str x, u => match u with
    | .str y _ => decide (y.cps.toList = x)
    | _ => false
  | .tup ds, u => match u with
    | .ref a => match K.lookup a with
      | some ⟨.type c, _, .seq its _, _⟩ => decide (c = "tuple") && decide (its.size ≤ sizeLine) && !isKey (.tup ds) && csB K ds its.toList
      | _ => false
    | _ => false
  | _, _ => false
def csB (K : Frag) : List D → List Value → Bool
  | [], us => us.isEmpty
  | d :: ds, us => match us with
    | u :: us => cB K d u && csB K ds us
    | [] => false
end
mutual
theorem cB_ok {K : Frag} {cls : Nat → Addr} : ∀ (d : D) {u : Value}, cB K d u = true → ∃ v, RelV v u ∧ ∀ M H, RV ⟨K, cls⟩ M H d v
  | .int i, u, h => by
    simp only [cB] at h
    split at h
    · rw [decide_eq_true_eq] at h
      subst h
      exact ⟨.int i, ⟨_, rfl⟩, fun M H => .int i⟩
    · cases h
  | .str x, u, h => by
    simp only [cB] at h
    split at h
    · rename_i y t
      rw [decide_eq_true_eq] at h
      subst h
      refine ⟨.str y, ⟨_, rfl⟩, fun M H => ?_⟩
      exact rv_str' y
    · cases h
  | .tup ds, u, h => by
    simp only [cB] at h
    split at h
    · rename_i a
      split at h
      · rename_i c dd its n sl hl
        simp only [Bool.and_eq_true, decide_eq_true_eq, Bool.not_eq_true'] at h
        obtain ⟨⟨⟨h1, h2⟩, h3⟩, h4⟩ := h
        subst h1
        obtain ⟨vs, r, q⟩ := csB_ok (cls := cls) ds h4
        exact ⟨.ref a, rfl, fun M H => .ktup ⟨_, its, n, hl, rfl, rfl, h2, r⟩ h3 (q M H)⟩
      · cases h
    · cases h
  | .non, _, h => by simp [cB] at h
  | .bl _, _, h => by simp [cB] at h
  | .lst _, _, h => by simp [cB] at h
  | .dct _ _ _, _, h => by simp [cB] at h
  | .snd _ _ _, _, h => by simp [cB] at h
  | .exc _, _, h => by simp [cB] at h
  | .fn _ _, _, h => by simp [cB] at h
  | .scr _, _, h => by simp [cB] at h
theorem csB_ok {K : Frag} {cls : Nat → Addr} : ∀ (ds : List D) {us : List Value}, csB K ds us = true → ∃ vs, Vals vs us ∧ ∀ M H, RVs ⟨K, cls⟩ M H ds vs
  | [], us, h => by
    simp only [csB, List.isEmpty_iff] at h
    subst h
    exact ⟨[], .nil, fun _ _ => .nil⟩
  | d :: ds, us, h => by
    cases us with
    | nil => simp [csB] at h
    | cons u us =>
      simp only [csB, Bool.and_eq_true] at h
      obtain ⟨v, r, q⟩ := cB_ok (cls := cls) d h.1
      obtain ⟨vs, rs, qs⟩ := csB_ok (cls := cls) ds h.2
      exact ⟨v :: vs, .cons r rs, fun M H => .cons (q M H) (qs M H)⟩
end
/-- the module's name x is the datum d -/
def gB (K : Frag) (p : Str × D) : Bool := match PySem.W.nsIn K mainGlobals p.1 with
  | some (some u) => cB K p.2 u
  | _ => false
theorem gB_ok {K : Frag} {cls : Nat → Addr} {h : Heap} {mg : Str → Option Value} (X : K.In h) (G : h.Ns mainGlobals mg) {x : Str} {d : D} (e : gB K (x, d) = true) : ∃ u v, mg x = some u ∧ RelV v u ∧ ∀ M H, RV ⟨K, cls⟩ M H d v := by
  unfold gB at e
  split at e
  · rename_i u hu
    obtain ⟨v, r, q⟩ := cB_ok (cls := cls) d e
    exact ⟨u, v, PySem.W.mg_of X G hu, r, q⟩
  · cases e
/-- He's Hook with constants -/
abbrev AlN : Type := He.AlD × Bool
def obsN (n : Nat) (fa : List He.Fa) (fn : List He.DefD) (cs : List (Str × D)) (ex : Frag → Bool) (g : Addr → Option Obj) : AlN := (He.obsDG n fa fn g, cs.all (gB (He.frG g (He.asD g n))) && ex (He.frG g (He.asD g n)))
def SaysN (fa : List He.Fa) (fn : List He.DefD) (cs : List (Str × D)) (ex : Frag → Bool) (K : Frag) : Prop := He.SaysD fa fn K ∧ cs.all (gB K) = true ∧ ex K = true
def hookN (n : Nat) (fa : List He.Fa) (fn : List He.DefD) (cs : List (Str × D)) (ex : Frag → Bool) : PySem.W.Hook where
  α := AlN
  obs := fun s => obsN n fa fn cs ex s.heap.get?
  val := fun _ => (He.valD fn, true)
  says := fun _ h => ∃ K : PySem.W.Frag, K.In h ∧ SaysN fa fn cs ex K
  of := fun _ _ e => ⟨_, He.frG_in, congrArg Prod.fst e, Bool.and_eq_true_iff.mp (congrArg Prod.snd e)⟩
  keeps := fun _ _ _ ⟨K, hK, c⟩ k => ⟨K, PySem.W.Frag.In.keeps hK k, c⟩
theorem obsN_eq {n : Nat} {fa : List He.Fa} {fn : List He.DefD} {cs : List (Str × D)} {ex : Frag → Bool} {g : Addr → Option Obj} {s : Shared} (h : ∀ a, g a = s.heap.get? a) : obsN n fa fn cs ex g = (hookN n fa fn cs ex).obs s := by
  have e : g = s.heap.get? := funext h
  rw [e] <;> rfl
end Nt
set_option Elab.async false
set_option linter.all false
set_option maxRecDepth 100000
set_option maxHeartbeats 2000000
set_option autoImplicit false
/-! E2v: what the head says of classes of errors, for isinstance of a caught one -/
namespace Nt
open PySem PySem.Spec PyProof.Rows L2
def excCB (K : Frag) (x : Str) : Bool :=
  decide (PySem.W.findIn K (.ref (He.ga K x)) "__getattribute__" = some (some (.builtin "BaseException.__getattribute__"))) && (decide (PySem.W.findIn K (.ref (He.ga K x)) "__getattr__" = some none) &&
  (decide (PySem.W.subIn K (.ref (He.ga K x)) (.type "BaseException") = some true) && (PySem.W.hasDictIn K (He.ga K x) &&
  (decide (PySem.W.findIn K (.ref (He.ga K x)) "__class__" = some (some (.builtin "object.__class__"))) && (decide (PySem.W.specialIn K (.builtin "object.__class__") "__get__" = some (some (.builtin "getset_descriptor.__get__"))) &&
  (decide (PySem.W.takesIn K (.builtin "object.__class__") = some true) && decide (PySem.W.mroIn K (He.ga K x) (.type "object") = some true)))))))
theorem excC_of {K : Frag} {x : Str} (h : excCB K x = true) : ExcC K (He.ga K x) := by
  unfold excCB at h
  simp only [Bool.and_eq_true, decide_eq_true_eq] at h
  obtain ⟨h1, h2, h3, h4, h5, h6, h7, h8⟩ := h
  exact ⟨h1, h2, h3, h4, h5, h6, h7, h8⟩
/-- isinstance(an error of the class x, the class y) is b -/
def kitEB (K : Frag) (x y : Str) (b : Bool) : Bool := decide (PySem.W.kitOne K (.ref (He.ga K x)) (.ref (He.ga K y)) = some b)
theorem kitE_of {K : Frag} {x y : Str} {b : Bool} (h : kitEB K x y b = true) : PySem.W.kitOne K (.ref (He.ga K x)) (.ref (He.ga K y)) = some b := of_decide_eq_true h
def kitVB (K : Frag) (x : Str) : Bool := decide (PySem.W.kitOne K (.ref (He.ga K x)) (.type "ValueError") = some true)
def errN : Nat → Str
  | 0 => "NoTrack"
  | 1 => "NoEvent"
  | 2 => "NoBar"
  | 3 => "NoKey"
  | 4 => "NoBytes"
  | _ => "NoText"
def wordB (K : Frag) : Bool := (List.range 6).all fun j => excCB K (errN j) && kitVB K (errN j) && decide (PySem.W.exmOne K (.ref (He.ga K (errN j))) (.ref (He.ga K "NoteError")) = some true) && (List.range 6).all fun i => kitEB K (errN j) (errN i) (decide (j = i))
theorem wordB_of {K : Frag} (h : wordB K = true) {j : Nat} (hj : j < 6) : ExcC K (He.ga K (errN j)) ∧ PySem.W.kitOne K (.ref (He.ga K (errN j))) (.type "ValueError") = some true ∧ PySem.W.exmOne K (.ref (He.ga K (errN j))) (.ref (He.ga K "NoteError")) = some true ∧
    ∀ i, i < 6 → PySem.W.kitOne K (.ref (He.ga K (errN j))) (.ref (He.ga K (errN i))) = some (decide (j = i)) := by
  have := List.all_eq_true.mp h j (List.mem_range.mpr hj)
  simp only [Bool.and_eq_true, decide_eq_true_eq] at this
  obtain ⟨⟨⟨h1, h2⟩, h3⟩, h4⟩ := this
  exact ⟨excC_of h1, of_decide_eq_true h2, h3, fun i hi => kitE_of (List.all_eq_true.mp h4 i (List.mem_range.mpr hi))⟩
theorem exc_cases {c : Nat} {z : List Nat} (h : excWord c = some z) : ∃ j, j < 6 ∧ c = j + 1 ∧ words6[j]? = some (sV z) := by
  unfold excWord at h
  split at h <;> first | (cases h; first | exact ⟨0, by decide, rfl, rfl⟩ | exact ⟨1, by decide, rfl, rfl⟩ | exact ⟨2, by decide, rfl, rfl⟩ | exact ⟨3, by decide, rfl, rfl⟩ | exact ⟨4, by decide, rfl, rfl⟩ | exact ⟨5, by decide, rfl, rfl⟩) | cases h
section
variable {P : Program} {w : World} {K : Frag} {mg : Str → Option Value} {base : Heap} {f : Addr} {fd : FuncData} {x y qual : Str} {params : Arguments} {body : List Stmt} {scope : Scope}
theorem wd_all (hB : wordB K = true) (F : FunD K qual qual params body scope [] [] f fd) (S : FnScope [x, y] [x] scope) (hb : wordOk x y body = true) (ly : scope.names.lookup x = some .local ∧ scope.names.lookup y = some .local)
    (hg : wordNames.all (fun z => scope.names.lookup z == some .globalImplicit) = true) (dx : (x == ("__debug__" : Str)) = false ∧ (x == ("__classdict__" : Str)) = false) (dy : (y == ("__debug__" : Str)) = false ∧ (y == ("__classdict__" : Str)) = false)
    (mi : mg "isinstance" = none) (mv : mg "ValueError" = none) (hm : ∀ i, i < 6 → mg (errN i) = some (.ref (He.ga K (errN i)))) {cls : Nat → Addr} (hc : ∀ i, i < 6 → cls (i + 1) = He.ga K (errN i)) (hc0 : cls 0 = He.ga K "NoteError") {c : Nat} {z : List Nat} (h : excWord c = some z) :
    (∀ n, FnW P w K mg base (L2N.CX P w) (n + 1) f fd x (cls c) (.str (sV z))) ∧ PySem.W.exmOne K (.ref (cls c)) (.ref (cls 0)) = some true := by
  obtain ⟨j, hj, rfl, hw⟩ := exc_cases h
  rw [hc j hj, hc0]
  obtain ⟨k1, k2, k3, k4⟩ := wordB_of hB hj
  exact ⟨fun n => fnW_word F S hb ly hg dx dy mi mv (c := fun i => He.ga K (errN i)) ⟨hm 0 (by decide), k4 0 (by decide)⟩ ⟨hm 1 (by decide), k4 1 (by decide)⟩ ⟨hm 2 (by decide), k4 2 (by decide)⟩ ⟨hm 3 (by decide), k4 3 (by decide)⟩ ⟨hm 4 (by decide), k4 4 (by decide)⟩ ⟨hm 5 (by decide), k4 5 (by decide)⟩ k2 k1 hj hw, k3⟩
end
end Nt
set_option Elab.async false
set_option linter.all false
set_option maxRecDepth 100000
set_option autoImplicit false
/-! E3e: the law's end, with the script's bits -/
namespace Nt
open PySem PySem.Spec PyProof.Rows L2
theorem bits_of {z : Int} (h : Builtin.Int.intBits z ≤ 1048576) : Bits z 1048576 := by
  by_cases h0 : z = 0
  · subst h0; exact Bits.zero
  · refine Bits.of_log2 ?_
    unfold Builtin.Int.intBits at h
    have : (z == 0) = false := by simp [h0]
    simp only [this] at h
    exact h
theorem walk_ofEB {l : PySem.W.OpenLaw} {n k : Nat} {q : Program} {loose : List Str} {XP : (Str → Option Value) → Heap → Prop} {YP : World → Heap → Prop} {d : DefRec} {CX : CXT} {x : Str}
    (hn : l.most = some n) (hn2 : n ≤ sizeLine) (hdf : d.params.defaults = []) (hr : Room k callerA)
    (F : ∀ (w : World) (mg : Str → Option Value) (fa : Addr) (h : Heap), YP w h → h.Ns mainGlobals mg → mg d.name = some (.ref fa) →
      ∃ (K : PySem.W.Frag) (fd : FuncData) (sp : Sp), K.In h ∧ (∀ (s : Shared) (u : Value), BindsTo s fd ⟨[u], []⟩ [(x, u)]) ∧
        (∀ (H : Hp) (a : Addr) (ns : List Int), ns.length ≤ n → (∀ z ∈ ns, Bits z 1048576) → Only H → SqL K H a (ns.map V.int) → sp [.ref a] H (fun v _ => v = .bl true) fun _ _ _ => False) ∧
        ∀ base : Heap, K.In base → base.Ns mainGlobals mg → FnOk l.prog w K mg base CX k fa fd [x] sp)
    (hCX : ∀ (H : Hp) (s : Shared) (e : Value) (s' : Shared), CX [] H s (fun _ _ _ => False) e s' → False) :
    PySem.W.WalkO q loose XP YP l.row.toRowW d [] (fun f vs => PySem.call f vs) := by
  refine Att.attach_callB hn hdf fun w s₀ s₁ mg mb fa o pm cd doc a vs ns G Y ho hd hcd hmg hobj hints hlen hbits hg => ?_
  obtain ⟨K, fd, sp, KX, hb, hsp, hF⟩ := F w mg fa _ Y G.T.g hmg
  exact law_call KX G.T.g G.T.b G.T.builtins G.T.nolimit hg hobj hints (Nat.le_trans hlen hn2) hr hF hb (fun H hO hS => hsp H a ns hlen (fun z hz => bits_of (hbits z hz)) hO hS) fun H e s' => hCX H s₁ e s'
end Nt
set_option autoImplicit false
namespace Nt
def c__law_cell : Def := ⟨2, 2, .cons (.ifs (.v (.o2 .lt (.var 1) (.o1 .len (.var 0)))) (.cons (.ret (.o2 .idx (.var 0) (.var 1))) (.nil)) (.nil)) (.cons (.ret (.cst (.int 0))) (.nil))⟩
def c__law_mix : Def := ⟨3, 4, .cons (.asg (.v 3) (.o2 .mod (.o2 .mul (.var 0) (.cst (.int 48271))) (.var 1))) (.cons (.ret (.o2 .mod (.o2 .mod (.o2 .mul (.var 3) (.o2 .add (.var 3) (.cst (.int 7)))) (.var 1)) (.var 2))) (.nil))⟩
def c__law_same (f__law_same : Nat) : Def := ⟨2, 4, .cons (.ifs (.v (.o1 (.isTup) (.var 1))) (.cons (.ifs (.or (.not (.v (.o1 (.isTup) (.var 0)))) (.v (.o2 .ne (.o1 .len (.var 0)) (.o1 .len (.var 1))))) (.cons (.ret (.cst (.bl false))) (.nil)) (.nil)) (.cons (.ret (.o1 .all (.lc (.t (.cons (.v 2) (.cons (.v 3) (.nil)))) (.zip2 (.var 0) (.var 1)) (.yes) (.call f__law_same (.val (.var 2) (.val (.var 3) (.nil)))) [2, 3]))) (.nil))) (.nil)) (.cons (.ifs (.v (.o1 .isNone (.var 1))) (.cons (.ret (.o1 .isNone (.var 0))) (.nil)) (.nil)) (.cons (.ifs (.or (.v (.o1 (.isBool) (.var 1))) (.v (.o1 (.isBool) (.var 0)))) (.cons (.ret (.band (.o1 (.isBool) (.var 1)) (.band (.o1 (.isBool) (.var 0)) (.o2 .eq (.var 0) (.var 1))))) (.nil)) (.nil)) (.cons (.ret (.band (.o1 (.isIntStr) (.var 0)) (.o2 .eq (.var 0) (.var 1)))) (.nil))))⟩
def c__law_deed (f__law_mix : Nat) : Def := ⟨1, 4, .cons (.asg (.v 1) (.call f__law_mix (.val (.var 0) (.val (.cst (.int 9973)) (.val (.cst (.int 16)) (.nil)))))) (.cons (.par [(2, .val), (3, .val)] (.cons (.call f__law_mix (.val (.var 0) (.val (.cst (.int 9967)) (.val (.cst (.int 2)) (.nil))))) (.cons (.o2 .add (.cst (.int 60)) (.call f__law_mix (.val (.var 0) (.val (.cst (.int 9949)) (.val (.cst (.int 3)) (.nil)))))) (.nil)))) (.cons (.ifs (.v (.o2 .lt (.var 1) (.cst (.int 6)))) (.cons (.ret (.tup (.cons (.cst (.str [111, 110])) (.cons (.var 2) (.cons (.var 3) (.cons (.o2 .idx (.tup (.cons (.cst (.int 1)) (.cons (.cst (.int 64)) (.cons (.cst (.int 127)) (.cons (.cst (.int 64)) (.nil)))))) (.call f__law_mix (.val (.var 0) (.val (.cst (.int 9941)) (.val (.cst (.int 4)) (.nil)))))) (.nil))))))) (.nil)) (.nil)) (.cons (.ifs (.v (.o2 .lt (.var 1) (.cst (.int 11)))) (.cons (.ret (.tup (.cons (.cst (.str [111, 102, 102])) (.cons (.var 2) (.cons (.var 3) (.nil)))))) (.nil)) (.nil)) (.cons (.ifs (.v (.o2 .eq (.var 1) (.cst (.int 11)))) (.cons (.ret (.tup (.cons (.cst (.str [115, 101, 116])) (.cons (.var 2) (.cons (.o2 .idx (.tup (.cons (.cst (.int 7)) (.cons (.cst (.int 64)) (.nil)))) (.call f__law_mix (.val (.var 0) (.val (.cst (.int 9931)) (.val (.cst (.int 2)) (.nil)))))) (.cons (.o2 .idx (.tup (.cons (.cst (.int 0)) (.cons (.cst (.int 127)) (.cons (.cst (.int 90)) (.nil))))) (.call f__law_mix (.val (.var 0) (.val (.cst (.int 9929)) (.val (.cst (.int 3)) (.nil)))))) (.nil))))))) (.nil)) (.nil)) (.cons (.ifs (.v (.o2 .eq (.var 1) (.cst (.int 12)))) (.cons (.ret (.tup (.cons (.cst (.str [118, 111, 105, 99, 101])) (.cons (.var 2) (.cons (.o2 .idx (.tup (.cons (.cst (.int 0)) (.cons (.cst (.int 40)) (.cons (.cst (.int 127)) (.nil))))) (.call f__law_mix (.val (.var 0) (.val (.cst (.int 9923)) (.val (.cst (.int 3)) (.nil)))))) (.nil)))))) (.nil)) (.nil)) (.cons (.ifs (.v (.o2 .eq (.var 1) (.cst (.int 13)))) (.cons (.ret (.tup (.cons (.cst (.str [116, 101, 109, 112, 111])) (.cons (.o2 .idx (.tup (.cons (.cst (.int 500000)) (.cons (.cst (.int 250000)) (.cons (.cst (.int 1)) (.cons (.cst (.int 9999999)) (.cons (.cst (.int 333333)) (.nil))))))) (.call f__law_mix (.val (.var 0) (.val (.cst (.int 9907)) (.val (.cst (.int 5)) (.nil)))))) (.nil))))) (.nil)) (.nil)) (.cons (.ifs (.v (.o2 .eq (.var 1) (.cst (.int 14)))) (.cons (.ret (.tup (.cons (.cst (.str [116, 105, 109, 101])) (.cons (.o2 .add (.cst (.int 1)) (.call f__law_mix (.val (.var 0) (.val (.cst (.int 9901)) (.val (.cst (.int 12)) (.nil)))))) (.cons (.o2 .idx (.tup (.cons (.cst (.int 1)) (.cons (.cst (.int 2)) (.cons (.cst (.int 4)) (.cons (.cst (.int 8)) (.nil)))))) (.call f__law_mix (.val (.var 0) (.val (.cst (.int 9887)) (.val (.cst (.int 4)) (.nil)))))) (.nil)))))) (.nil)) (.nil)) (.cons (.ret (.tup (.cons (.cst (.str [119, 111, 114, 100])) (.cons (.o2 .idx (.tup (.cons (.cst (.str [97])) (.cons (.cst (.str [122, 122])) (.cons (.cst (.str [108, 97])) (.cons (.cst (.str [101, 105, 103, 104, 116, 108, 101, 116])) (.nil)))))) (.call f__law_mix (.val (.var 0) (.val (.cst (.int 9883)) (.val (.cst (.int 4)) (.nil)))))) (.nil))))) (.nil)))))))))⟩
def c__law_far_deed (f__law_mix : Nat) : Def := ⟨1, 5, .cons (.asg (.v 1) (.call f__law_mix (.val (.var 0) (.val (.cst (.int 9871)) (.val (.cst (.int 4)) (.nil)))))) (.cons (.par [(2, .val), (3, .val)] (.cons (.call f__law_mix (.val (.var 0) (.val (.cst (.int 9859)) (.val (.cst (.int 128)) (.nil))))) (.cons (.call f__law_mix (.val (.var 0) (.val (.cst (.int 9857)) (.val (.cst (.int 128)) (.nil))))) (.nil)))) (.cons (.asg (.v 4) (.call f__law_mix (.val (.var 0) (.val (.cst (.int 9851)) (.val (.cst (.int 4)) (.nil)))))) (.cons (.ifs (.v (.o2 .eq (.var 1) (.cst (.int 0)))) (.cons (.ret (.tup (.cons (.cst (.str [111, 110])) (.cons (.var 4) (.cons (.var 2) (.cons (.o2 .max (.cst (.int 1)) (.var 3)) (.nil))))))) (.nil)) (.nil)) (.cons (.ifs (.v (.o2 .eq (.var 1) (.cst (.int 1)))) (.cons (.ret (.tup (.cons (.cst (.str [111, 102, 102])) (.cons (.var 4) (.cons (.var 2) (.nil)))))) (.nil)) (.nil)) (.cons (.ifs (.v (.o2 .eq (.var 1) (.cst (.int 2)))) (.cons (.ret (.tup (.cons (.cst (.str [115, 101, 116])) (.cons (.var 4) (.cons (.var 2) (.cons (.var 3) (.nil))))))) (.nil)) (.nil)) (.cons (.ret (.tup (.cons (.cst (.str [118, 111, 105, 99, 101])) (.cons (.var 4) (.cons (.var 2) (.nil)))))) (.nil)))))))⟩
def c__law_track (f__law_mix f__law_far_deed f__law_deed : Nat) : Def := ⟨2, 6, .cons (.par [(2, .own), (3, .val)] (.cons (.lst .nil) (.cons (.cst (.int 0)) (.nil)))) (.cons (.for_ (.v 4) (.rng1 (.call f__law_mix (.val (.var 0) (.val (.cst (.int 9839)) (.val (.o2 .add (.var 1) (.cst (.int 1))) (.nil)))))) (.cons (.asg (.v 5) (.o2 .mul (.o2 .add (.var 0) (.o2 .mul (.cst (.int 41)) (.var 4))) (.o2 .add (.o2 .add (.var 0) (.o2 .mul (.cst (.int 41)) (.var 4))) (.cst (.int 17))))) (.cons (.asg (.v 3) (.o2 .add (.var 3) (.o2 .idx (.tup (.cons (.cst (.int 0)) (.cons (.cst (.int 0)) (.cons (.cst (.int 0)) (.cons (.cst (.int 1)) (.cons (.cst (.int 3)) (.cons (.cst (.int 6)) (.cons (.cst (.int 24)) (.cons (.cst (.int 100)) (.nil)))))))))) (.call f__law_mix (.val (.var 5) (.val (.cst (.int 9833)) (.val (.cst (.int 8)) (.nil)))))))) (.cons (.app 2 (.tup (.cons (.var 3) (.cons (.ifx (.v (.o2 .eq (.call f__law_mix (.val (.var 5) (.val (.cst (.int 9829)) (.val (.cst (.int 9)) (.nil))))) (.cst (.int 0)))) (.call f__law_far_deed (.val (.var 5) (.nil))) (.call f__law_deed (.val (.var 5) (.nil)))) (.nil))))) (.nil))))) (.cons (.ret (.o1 .tuple (.peek 2))) (.nil)))⟩
def c__law_end : Def := ⟨1, 1, .cons (.ret (.ifx (.v (.o2 .ne (.var 0) (.tup (.nil)))) (.o2 .idx (.o2 .idx (.var 0) (.o1 .neg (.cst (.int 1)))) (.cst (.int 0))) (.cst (.int 0)))) (.nil)⟩
def c_must : Def := ⟨1, 1, .cons (.ifs (.not (.v (.var 0))) (.cons (.raise 1) (.nil)) (.nil)) (.nil)⟩
def c_deltas : Def := ⟨1, 5, .cons (.own 1 (.lst (.nil))) (.cons (.asg (.v 2) (.cst (.int 0))) (.cons (.for_ (.t (.cons (.v 3) (.cons (.v 4) (.nil)))) (.of (.var 0)) (.cons (.app 1 (.tup (.cons (.o2 .sub (.var 3) (.var 2)) (.cons (.var 4) (.nil))))) (.cons (.asg (.v 2) (.var 3)) (.nil)))) (.cons (.ret (.o1 .tuple (.peek 1))) (.nil))))⟩
def c_from_deltas (g_LAST f_must : Nat) : Def := ⟨1, 5, .cons (.own 1 (.lst (.nil))) (.cons (.asg (.v 2) (.cst (.int 0))) (.cons (.for_ (.t (.cons (.v 3) (.cons (.v 4) (.nil)))) (.of (.var 0)) (.cons (.asg (.v 2) (.o2 .add (.var 2) (.var 3))) (.cons (.ex (.call f_must (.val (.band (.o2 .ge (.var 3) (.cst (.int 0))) (.o2 .le (.var 2) (.gl g_LAST))) (.nil)))) (.cons (.app 1 (.tup (.cons (.var 2) (.cons (.var 4) (.nil))))) (.nil))))) (.cons (.ret (.o1 .tuple (.peek 1))) (.nil))))⟩
def c_at : Def := ⟨2, 4, .cons (.ret (.o1 .tuple (.lc (.t (.cons (.v 2) (.cons (.v 3) (.nil)))) (.of (.var 0)) (.v (.o2 .eq (.var 2) (.var 1))) (.var 3) [2, 3]))) (.nil)⟩
def c_between : Def := ⟨3, 4, .cons (.ret (.o1 .tuple (.lc (.v 3) (.of (.var 0)) (.v (.chain .le .lt (.var 1) (.o2 .idx (.var 3) (.cst (.int 0))) (.var 2))) (.var 3) [3]))) (.nil)⟩
def c_inserted : Def := ⟨2, 4, .cons (.asg (.v 2) (.o1 .len (.lc (.v 3) (.of (.var 0)) (.v (.o2 .le (.o2 .idx (.var 3) (.cst (.int 0))) (.o2 .idx (.var 1) (.cst (.int 0))))) (.var 3) [3]))) (.cons (.ret (.o2 .add (.o2 .add (.slc (.var 0) (.cst .non) (.var 2)) (.tup (.cons (.var 1) (.nil)))) (.slc (.var 0) (.var 2) (.cst .non)))) (.nil))⟩
def c_without : Def := ⟨2, 2, .cons (.ifs (.not (.v (.chain .le .lt (.cst (.int 0)) (.var 1) (.o1 .len (.var 0))))) (.cons (.raise 2) (.nil)) (.nil)) (.cons (.ret (.o2 .add (.slc (.var 0) (.cst .non) (.var 1)) (.slc (.var 0) (.o2 .add (.var 1) (.cst (.int 1))) (.cst .non)))) (.nil))⟩
def c__law_said_k03 (f_from_deltas f_without : Nat) : Def := ⟨3, 4, .cons (.try_ (.cons (.ret (.ifx (.v (.o2 .eq (.var 0) (.cst (.int 0)))) (.call f_from_deltas (.val (.var 1) (.nil))) (.call f_without (.val (.var 1) (.val (.var 2) (.nil)))))) (.nil)) 3) (.nil)⟩
def c_law_k03 (f__law_cell f__law_track f__law_said f_deltas f__law_same f__law_end f__law_mix f_at f_between f__law_deed f_inserted : Nat) : Def := ⟨1, 19, .cons (.for_ (.v 1) (.rng1 (.cst (.int 10))) (.cons (.asg (.v 2) (.o2 .add (.call f__law_cell (.val (.var 0) (.val (.o2 .mod (.var 1) (.cst (.int 9))) (.nil)))) (.o2 .mul (.cst (.int 31)) (.var 1)))) (.cons (.asg (.v 3) (.call f__law_track (.val (.var 2) (.val (.cst (.int 16)) (.nil))))) (.cons (.asg (.v 4) (.o2 .add (.lst (.cons (.cst (.int 0)) (.nil))) (.lc (.v 5) (.of (.var 3)) (.yes) (.o2 .idx (.var 5) (.cst (.int 0))) [5]))) (.cons (.asg (.v 6) (.o1 .tuple (.lc (.t (.cons (.v 7) (.cons (.v 5) (.nil)))) (.enum (.var 3)) (.yes) (.tup (.cons (.o2 .sub (.o2 .idx (.var 4) (.o2 .add (.var 7) (.cst (.int 1)))) (.o2 .idx (.var 4) (.var 7))) (.cons (.o2 .idx (.var 5) (.cst (.int 1))) (.nil)))) [7, 5]))) (.cons (.ifs (.not (.v (.call f__law_same (.val (.tup (.cons (.call f_deltas (.val (.var 3) (.nil))) (.cons (.call f__law_said (.val (.cst (.int 0)) (.val (.var 6) (.val (.cst (.int 0)) (.nil))))) (.nil)))) (.val (.tup (.cons (.var 6) (.cons (.var 3) (.nil)))) (.nil)))))) (.cons (.ret (.cst (.bl false))) (.nil)) (.nil)) (.cons (.asg (.v 8) (.lst (.cons (.o2 .add (.var 6) (.tup (.cons (.tup (.cons (.o1 .neg (.cst (.int 1))) (.cons (.tup (.cons (.cst (.str [119, 111, 114, 100])) (.cons (.cst (.str [97])) (.nil)))) (.nil)))) (.nil)))) (.nil)))) (.cons (.asg (.v 8) (.o2 .add (.var 8) (.lst (.cons (.o2 .add (.var 6) (.tup (.cons (.tup (.cons (.o2 .add (.o2 .sub (.cst (.int 99999)) (.call f__law_end (.val (.var 3) (.nil)))) (.cst (.int 1))) (.cons (.tup (.cons (.cst (.str [119, 111, 114, 100])) (.cons (.cst (.str [97])) (.nil)))) (.nil)))) (.nil)))) (.nil))))) (.cons (.ifs (.v (.o2 .ne (.lc (.v 9) (.of (.var 8)) (.yes) (.call f__law_said (.val (.cst (.int 0)) (.val (.var 9) (.val (.cst (.int 0)) (.nil))))) [9]) (.o2 .mul (.lst (.cons (.cst (.str [110, 111, 32, 116, 114, 97, 99, 107])) (.nil))) (.cst (.int 2))))) (.cons (.ret (.cst (.bl false))) (.nil)) (.nil)) (.cons (.asg (.v 10) (.o2 .add (.var 6) (.tup (.cons (.tup (.cons (.o2 .sub (.cst (.int 99999)) (.call f__law_end (.val (.var 3) (.nil)))) (.cons (.tup (.cons (.cst (.str [119, 111, 114, 100])) (.cons (.cst (.str [97])) (.nil)))) (.nil)))) (.nil))))) (.cons (.ifs (.not (.v (.call f__law_same (.val (.call f__law_said (.val (.cst (.int 0)) (.val (.var 10) (.val (.cst (.int 0)) (.nil))))) (.val (.o2 .add (.var 3) (.tup (.cons (.tup (.cons (.cst (.int 99999)) (.cons (.tup (.cons (.cst (.str [119, 111, 114, 100])) (.cons (.cst (.str [97])) (.nil)))) (.nil)))) (.nil)))) (.nil)))))) (.cons (.ret (.cst (.bl false))) (.nil)) (.nil)) (.cons (.asg (.v 11) (.call f__law_mix (.val (.o2 .add (.call f__law_cell (.val (.var 0) (.val (.cst (.int 9)) (.nil)))) (.var 1)) (.val (.cst (.int 9803)) (.val (.o2 .add (.call f__law_end (.val (.var 3) (.nil))) (.cst (.int 3))) (.nil)))))) (.cons (.asg (.v 12) (.o2 .add (.var 11) (.call f__law_mix (.val (.o2 .add (.call f__law_cell (.val (.var 0) (.val (.cst (.int 9)) (.nil)))) (.o2 .mul (.cst (.int 3)) (.var 1))) (.val (.cst (.int 9791)) (.val (.cst (.int 40)) (.nil))))))) (.cons (.ifs (.not (.v (.call f__law_same (.val (.call f_at (.val (.var 3) (.val (.var 11) (.nil)))) (.val (.o1 .tuple (.lc (.t (.cons (.v 13) (.cons (.v 14) (.nil)))) (.of (.var 3)) (.v (.o2 .eq (.var 13) (.var 11))) (.var 14) [13, 14])) (.nil)))))) (.cons (.ret (.cst (.bl false))) (.nil)) (.nil)) (.cons (.asg (.v 6) (.o1 .tuple (.lc (.v 5) (.of (.var 3)) (.v (.inR (.o2 .idx (.var 5) (.cst (.int 0))) (.var 11) (.var 12))) (.var 5) [5]))) (.cons (.ifs (.not (.v (.call f__law_same (.val (.call f_between (.val (.var 3) (.val (.var 11) (.val (.var 12) (.nil))))) (.val (.var 6) (.nil)))))) (.cons (.ret (.cst (.bl false))) (.nil)) (.nil)) (.cons (.asg (.v 5) (.tup (.cons (.var 11) (.cons (.call f__law_deed (.val (.o2 .add (.var 2) (.cst (.int 7))) (.nil))) (.nil))))) (.cons (.par [(15, .val), (16, .val)] (.cons (.lc (.v 9) (.of (.var 3)) (.v (.o2 .le (.o2 .idx (.var 9) (.cst (.int 0))) (.var 11))) (.var 9) [9]) (.cons (.lc (.v 9) (.of (.var 3)) (.v (.o2 .gt (.o2 .idx (.var 9) (.cst (.int 0))) (.var 11))) (.var 9) [9]) (.nil)))) (.cons (.ifs (.not (.v (.call f__law_same (.val (.call f_inserted (.val (.var 3) (.val (.var 5) (.nil)))) (.val (.o1 .tuple (.o2 .add (.o2 .add (.var 15) (.lst (.cons (.var 5) (.nil)))) (.var 16))) (.nil)))))) (.cons (.ret (.cst (.bl false))) (.nil)) (.nil)) (.cons (.asg (.v 17) (.o2 .sub (.call f__law_mix (.val (.var 2) (.val (.cst (.int 9787)) (.val (.o2 .add (.o1 .len (.var 3)) (.cst (.int 3))) (.nil))))) (.cst (.int 1)))) (.cons (.asg (.v 18) (.cst (.str [110, 111, 32, 101, 118, 101, 110, 116]))) (.cons (.ifs (.v (.chain .le .lt (.cst (.int 0)) (.var 17) (.o1 .len (.var 3)))) (.cons (.asg (.v 18) (.o1 .tuple (.lc (.t (.cons (.v 7) (.cons (.v 9) (.nil)))) (.enum (.var 3)) (.v (.o2 .ne (.var 7) (.var 17))) (.var 9) [7, 9]))) (.nil)) (.nil)) (.cons (.ifs (.not (.v (.call f__law_same (.val (.call f__law_said (.val (.cst (.int 1)) (.val (.var 3) (.val (.var 17) (.nil))))) (.val (.var 18) (.nil)))))) (.cons (.ret (.cst (.bl false))) (.nil)) (.nil)) (.nil)))))))))))))))))))))))) (.cons (.ret (.o2 .eq (.call f__law_said (.val (.cst (.int 0)) (.val (.tup (.cons (.tup (.cons (.cst (.int 5)) (.cons (.tup (.cons (.cst (.str [119, 111, 114, 100])) (.cons (.cst (.str [97])) (.nil)))) (.nil)))) (.cons (.tup (.cons (.cst (.int 0)) (.cons (.tup (.cons (.cst (.str [119, 111, 114, 100])) (.cons (.cst (.str [98])) (.nil)))) (.nil)))) (.nil)))) (.val (.cst (.int 0)) (.nil))))) (.tup (.cons (.tup (.cons (.cst (.int 5)) (.cons (.tup (.cons (.cst (.str [119, 111, 114, 100])) (.cons (.cst (.str [97])) (.nil)))) (.nil)))) (.cons (.tup (.cons (.cst (.int 5)) (.cons (.tup (.cons (.cst (.str [119, 111, 114, 100])) (.cons (.cst (.str [98])) (.nil)))) (.nil)))) (.nil)))))) (.nil))⟩
def c_nearest : Def := ⟨2, 3, .cons (.asg (.v 2) (.o2 .mul (.o2 .fdiv (.var 0) (.var 1)) (.var 1))) (.cons (.ifs (.v (.o2 .le (.o2 .sub (.var 0) (.var 2)) (.o2 .sub (.o2 .add (.var 2) (.var 1)) (.var 0)))) (.cons (.ret (.var 2)) (.nil)) (.nil)) (.cons (.ret (.o2 .add (.var 2) (.var 1))) (.nil)))⟩
def c_is_on : Def := ⟨2, 2, .cons (.ret (.o2 .eq (.o2 .mod (.var 0) (.var 1)) (.cst (.int 0)))) (.nil)⟩
def c_move_of (f_nearest : Nat) : Def := ⟨4, 6, .cons (.asg (.v 4) (.o2 .sub (.call f_nearest (.val (.var 0) (.val (.var 1) (.nil)))) (.var 0))) (.cons (.asg (.v 5) (.o2 .fdiv (.o2 .mul (.o1 .abs (.var 4)) (.var 2)) (.var 3))) (.cons (.ifs (.v (.o2 .lt (.var 4) (.cst (.int 0)))) (.cons (.ret (.o2 .sub (.cst (.int 0)) (.var 5))) (.nil)) (.nil)) (.cons (.ret (.var 5)) (.nil))))⟩
def c_moves (f_move_of : Nat) : Def := ⟨4, 5, .cons (.ret (.o1 .tuple (.lc (.v 4) (.of (.var 0)) (.yes) (.call f_move_of (.val (.o2 .idx (.var 4) (.cst (.int 0))) (.val (.var 1) (.val (.var 2) (.val (.var 3) (.nil)))))) [4]))) (.nil)⟩
def c_moved (f_must : Nat) : Def := ⟨2, 4, .cons (.ex (.call f_must (.val (.o1 .all (.lc (.t (.cons (.v 2) (.cons (.v 3) (.nil)))) (.zip2 (.var 0) (.var 1)) (.yes) (.o2 .ge (.o2 .add (.o2 .idx (.var 2) (.cst (.int 0))) (.var 3)) (.cst (.int 0))) [2, 3])) (.nil)))) (.cons (.ret (.o1 .tuple (.lc (.t (.cons (.v 2) (.cons (.v 3) (.nil)))) (.zip2 (.var 0) (.var 1)) (.yes) (.o2 .add (.tup (.cons (.o2 .add (.o2 .idx (.var 2) (.cst (.int 0))) (.var 3)) (.nil))) (.slc (.var 2) (.cst (.int 1)) (.cst .non))) [2, 3]))) (.nil))⟩
def c_gridded (f_moves f_moved : Nat) : Def := ⟨4, 4, .cons (.ret (.o1 .tuple (.o1 .sorted (.call f_moved (.val (.var 0) (.val (.call f_moves (.val (.var 0) (.val (.var 1) (.val (.var 2) (.val (.var 3) (.nil)))))) (.nil))))))) (.nil)⟩
def c_swung : Def := ⟨3, 5, .cons (.par [(3, .val), (4, .val)] (.cons (.o2 .mul (.o2 .mul (.o2 .fdiv (.var 0) (.o2 .mul (.cst (.int 2)) (.var 1))) (.cst (.int 2))) (.var 1)) (.cons (.o2 .mod (.var 0) (.o2 .mul (.cst (.int 2)) (.var 1))) (.nil)))) (.cons (.ifs (.v (.o2 .lt (.var 4) (.var 1))) (.cons (.ret (.o2 .add (.var 3) (.o2 .fdiv (.o2 .mul (.var 4) (.o2 .add (.var 1) (.var 2))) (.var 1)))) (.nil)) (.nil)) (.cons (.ret (.o2 .add (.o2 .add (.o2 .add (.var 3) (.var 1)) (.var 2)) (.o2 .fdiv (.o2 .mul (.o2 .sub (.var 4) (.var 1)) (.o2 .sub (.var 1) (.var 2))) (.var 1)))) (.nil)))⟩
end Nt
set_option autoImplicit false
set_option linter.all false
/-! S00: the evaluator's steps as equations -/
namespace Nt
section
variable {G : Glob} {C : Calls}
def lcF (G : Glob) (C : Calls) (t : Tg) (cond : PT) (elt : PE) (e : Env) : D → Store → Res (Option D) := fun x s => match bindT t x e with
  | some e' => (evT G C cond e' s).bind fun c s => if c then (evE G C elt e' s).bind fun d s => .ok (some d) s else .ok none s
  | none => .stuck
theorem lcF_eq {t : Tg} {cond : PT} {elt : PE} {e : Env} {x : D} {s : Store} : lcF G C t cond elt e x s = match bindT t x e with
  | some e' => (evT G C cond e' s).bind fun c s => if c then (evE G C elt e' s).bind fun d s => .ok (some d) s else .ok none s
  | none => .stuck := rfl
def forF (G : Glob) (C : Calls) (t : Tg) (body : PSs) : D → Env → Store → Out := fun x e s => match bindT t x e with
  | some e => execs G C body e s
  | none => .stuck
theorem forF_eq {t : Tg} {body : PSs} {x : D} {e : Env} {s : Store} : forF G C t body x e s = match bindT t x e with
  | some e => execs G C body e s
  | none => .stuck := rfl
def whlF (G : Glob) (C : Calls) (c : PT) (body : PSs) : Nat → Env → Store → Out := whlL (fun e s => evT G C c e s) (fun e s => execs G C body e s)
/-- a turn of while: n more may come -/
def whlG (G : Glob) (C : Calls) (c : PT) (body : PSs) (n : Nat) (o : Out) : Out := o.then fun e s => whlF G C c body n e s
theorem whlG_nx {c : PT} {body : PSs} {n : Nat} {e : Env} {s : Store} : whlG G C c body n (.nx e s) = whlF G C c body n e s := (rfl)
theorem whlG_rt {c : PT} {body : PSs} {n : Nat} {d : D} {s : Store} : whlG G C c body n (.rt d s) = .rt d s := (rfl)
theorem whlF_eq {c : PT} {body : PSs} {n : Nat} {e : Env} {s : Store} : whlF G C c body (n + 1) e s = (evT G C c e s).out fun b s => if b then whlG G C c body n (execs G C body e s) else .nx e s := by
  unfold whlF
  rw [whlL]
  rfl
/-! what comes behind is data, so that it is not looked at before its turn -/
def sq (G : Glob) (C : Calls) (o : Out) (ps : Nt.PSs) : Out := o.then fun e s => execs G C ps e s
theorem sq_nx {e : Env} {s : Store} {ps : Nt.PSs} : sq G C (.nx e s) ps = execs G C ps e s := (rfl)
theorem sq_rt {d : D} {s : Store} {ps : Nt.PSs} : sq G C (.rt d s) ps = .rt d s := (rfl)
theorem sq_exc {c : Nat} {s : Store} {ps : Nt.PSs} : sq G C (.exc c s) ps = .exc c s := (rfl)
theorem sq_stuck {ps : Nt.PSs} : sq G C .stuck ps = .stuck := (rfl)
theorem sq_ite {c : Prop} [Decidable c] {a b : Out} {ps : Nt.PSs} : sq G C (if c then a else b) ps = if c then sq G C a ps else sq G C b ps := by split <;> rfl
theorem execs_nil {e : Env} {s : Store} : execs G C .nil e s = .nx e s := by rw [execs]
theorem execs_cons {p : Nt.PS} {ps : Nt.PSs} {e : Env} {s : Store} : execs G C (.cons p ps) e s = sq G C (exec G C p e s) ps := by rw [execs]; rfl
section
variable {α β : Type}
def bE (G : Glob) (C : Calls) (r : Res α) (a : Nt.PE) (e : Env) (f : α → D → Store → Res β) : Res β := r.bind fun x s => (evE G C a e s).bind fun y s => f x y s
theorem bE_ok {x : α} {s : Store} {a : Nt.PE} {e : Env} {f : α → D → Store → Res β} : bE G C (.ok x s) a e f = (evE G C a e s).bind fun y s => f x y s := (rfl)
theorem bE_exc {c : Nat} {s : Store} {a : Nt.PE} {e : Env} {f : α → D → Store → Res β} : bE G C (.exc c s) a e f = .exc c s := (rfl)
def bEs (G : Glob) (C : Calls) (r : Res α) (a : Nt.PEs) (e : Env) (f : α → List D → Store → Res β) : Res β := r.bind fun x s => (evEs G C a e s).bind fun y s => f x y s
theorem bEs_ok {x : α} {s : Store} {a : Nt.PEs} {e : Env} {f : α → List D → Store → Res β} : bEs G C (.ok x s) a e f = (evEs G C a e s).bind fun y s => f x y s := (rfl)
theorem bEs_exc {c : Nat} {s : Store} {a : Nt.PEs} {e : Env} {f : α → List D → Store → Res β} : bEs G C (.exc c s) a e f = .exc c s := (rfl)
def bA (G : Glob) (C : Calls) (r : Res α) (a : Nt.PAs) (e : Env) (f : α → List Arg → Store → Res β) : Res β := r.bind fun x s => (evA G C a e s).bind fun y s => f x y s
theorem bA_ok {x : α} {s : Store} {a : Nt.PAs} {e : Env} {f : α → List Arg → Store → Res β} : bA G C (.ok x s) a e f = (evA G C a e s).bind fun y s => f x y s := (rfl)
theorem bA_exc {c : Nat} {s : Store} {a : Nt.PAs} {e : Env} {f : α → List Arg → Store → Res β} : bA G C (.exc c s) a e f = .exc c s := (rfl)
end
def kAnd (G : Glob) (C : Calls) (r : Res Bool) (b : Nt.PT) (e : Env) : Res Bool := r.bind fun t s => if t then evT G C b e s else .ok false s
theorem kAnd_ok {t : Bool} {s : Store} {b : Nt.PT} {e : Env} : kAnd G C (.ok t s) b e = if t then evT G C b e s else .ok false s := (rfl)
def kOr (G : Glob) (C : Calls) (r : Res Bool) (b : Nt.PT) (e : Env) : Res Bool := r.bind fun t s => if t then .ok true s else evT G C b e s
theorem kOr_ok {t : Bool} {s : Store} {b : Nt.PT} {e : Env} : kOr G C (.ok t s) b e = if t then .ok true s else evT G C b e s := (rfl)
def kIf (G : Glob) (C : Calls) (r : Res Bool) (a b : Nt.PE) (e : Env) : Res D := r.bind fun t s => if t then evE G C a e s else evE G C b e s
theorem kIf_ok {t : Bool} {s : Store} {a b : Nt.PE} {e : Env} : kIf G C (.ok t s) a b e = if t then evE G C a e s else evE G C b e s := (rfl)
def kIfS (G : Glob) (C : Calls) (r : Res Bool) (a b : Nt.PSs) (e : Env) : Out := r.out fun t s => if t then execs G C a e s else execs G C b e s
theorem kIfS_ok {t : Bool} {s : Store} {a b : Nt.PSs} {e : Env} : kIfS G C (.ok t s) a b e = if t then execs G C a e s else execs G C b e s := (rfl)
theorem kIfS_exc {c : Nat} {s : Store} {a b : Nt.PSs} {e : Env} : kIfS G C (.exc c s) a b e = .exc c s := (rfl)
theorem evEs_nil {e : Env} {s : Store} : evEs G C .nil e s = .ok [] s := by rw [evEs]
theorem evEs_cons {a : Nt.PE} {es : Nt.PEs} {e : Env} {s : Store} : evEs G C (.cons a es) e s = bEs G C (evE G C a e s) es e fun x xs s => .ok (x :: xs) s := by rw [evEs]; rfl
theorem evA_nil {e : Env} {s : Store} : evA G C .nil e s = .ok [] s := by rw [evA]
theorem evA_val {a : Nt.PE} {es : Nt.PAs} {e : Env} {s : Store} : evA G C (.val a es) e s = bA G C (evE G C a e s) es e fun x xs s => .ok (.val x :: xs) s := by rw [evA]; rfl
theorem evT_and {a b : Nt.PT} {e : Env} {s : Store} : evT G C (.and a b) e s = kAnd G C (evT G C a e s) b e := by rw [evT]; rfl
theorem evT_or {a b : Nt.PT} {e : Env} {s : Store} : evT G C (.or a b) e s = kOr G C (evT G C a e s) b e := by rw [evT]; rfl
theorem evT_not {a : Nt.PT} {e : Env} {s : Store} : evT G C (.not a) e s = (evT G C a e s).bind fun t s => .ok (!t) s := by rw [evT]
theorem evT_v {a : Nt.PE} {e : Env} {s : Store} : evT G C (.v a) e s = (evE G C a e s).bind fun x s => .of (truth x) s := by rw [evT]
theorem evT_yes {e : Env} {s : Store} : evT G C .yes e s = .ok true s := by rw [evT]
theorem evI_of {a : Nt.PE} {e : Env} {s : Store} : evI G C (.of a) e s = (evE G C a e s).bind fun x s => .of (itemsOf x) s := by rw [evI]
theorem evI_rng1 {a : Nt.PE} {e : Env} {s : Store} : evI G C (.rng1 a) e s = (evE G C a e s).bind fun x s => .of (rng1 x) s := by rw [evI]
theorem evI_rng2 {a b : Nt.PE} {e : Env} {s : Store} : evI G C (.rng2 a b) e s = bE G C (evE G C a e s) b e fun x y s => .of (rng2 x y) s := by rw [evI]; rfl
theorem evI_enum {a : Nt.PE} {e : Env} {s : Store} : evI G C (.enum a) e s = (evE G C a e s).bind fun x s => .of ((seqOf x).map (enumFrom 0)) s := by rw [evI]
theorem evI_zip2 {a b : Nt.PE} {e : Env} {s : Store} : evI G C (.zip2 a b) e s = bE G C (evE G C a e s) b e fun x y s => .of (zipOf x y) s := by rw [evI]; rfl
def bE2 (G : Glob) (C : Calls) (r : Res D) (b c : Nt.PE) (e : Env) {β : Type} (f : D → D → D → Store → Res β) : Res β := r.bind fun x s => bE G C (evE G C b e s) c e fun y z s => f x y z s
theorem bE2_ok {x : D} {s : Store} {b c : Nt.PE} {e : Env} {β : Type} {f : D → D → D → Store → Res β} : bE2 G C (.ok x s) b c e f = bE G C (evE G C b e s) c e fun y z s => f x y z s := (rfl)
theorem evI_zip3 {a b c : Nt.PE} {e : Env} {s : Store} : evI G C (.zip3 a b c) e s = bE2 G C (evE G C a e s) b c e fun x y z s => .of (zip3T x y z) s := by rw [evI]; rfl
/-- a slot's data -/
def gv (o : Option (Option Slot)) (s : Store) : Res D := match o with
  | some (some (.val d)) => .ok d s
  | _ => .stuck
theorem gv_val {d : D} {s : Store} : gv (some (some (.val d))) s = .ok d s := (rfl)
def gp (o : Option (Option Slot)) (s : Store) : Res D := match o with
  | some (some (.own o)) => .of (rdO o) s
  | _ => .stuck
theorem gp_own {o : SO} {s : Store} : gp (some (some (.own o))) s = .of (rdO o) s := (rfl)
variable {e : Env} {s : Store}
theorem evE_cst {d : D} : evE G C (.cst d) e s = .ok d s := by rw [evE]
theorem evE_inR {x a b : PE} : evE G C (.inR x a b) e s = (evE G C x e s).bind fun x s => (evE G C a e s).bind fun y s => (evE G C b e s).bind fun z s => .of (inRD x y z) s := by rw [evE]
theorem inR_int {i a b : Int} : inRD (.int i) (.int a) (.int b) = some (.bl (decide (a ≤ i ∧ i < b))) := (rfl)
theorem evE_gl {k : Nat} : evE G C (.gl k) e s = .of (G k) s := by rw [evE]
theorem evEvar {i : Nat} : evE G C (.var i) e s = gv e[i]? s := by rw [evE]; rfl
theorem evE_peek {i : Nat} : evE G C (.peek i) e s = gp e[i]? s := by rw [evE]; rfl
theorem evE_tup {es : PEs} : evE G C (.tup es) e s = (evEs G C es e s).bind fun ds s => .ok (.tup ds) s := by rw [evE]
theorem evE_lst {es : PEs} : evE G C (.lst es) e s = (evEs G C es e s).bind fun ds s => .ok (.lst ds) s := by rw [evE]
theorem evE_o1 {o : O1} {a : Nt.PE} : evE G C (.o1 o a) e s = (evE G C a e s).bind fun x s => .of (op1 o x) s := by rw [evE]
theorem evE_o2 {o : O2} {a b : Nt.PE} : evE G C (.o2 o a b) e s = bE G C (evE G C a e s) b e fun x y s => .of (op2 o x y) s := by rw [evE]; rfl
theorem evE_o3 {o : O3} {a b c : Nt.PE} : evE G C (.o3 o a b c) e s = bE2 G C (evE G C a e s) b c e fun x y z s => .of (op3 o x y z) s := by rw [evE]; rfl
def dsp (t : Bool) (o : Option (List D × List D)) (s : Store) : Res D := match o with
    | some q => .ok (.dct t q.1 q.2) s
    | none => .stuck
theorem dsp_some {t : Bool} {q : List D × List D} {s : Store} : dsp t (some q) s = .ok (.dct t q.1 q.2) s := (rfl)
theorem evE_dct {t : Bool} {ks vs : PEs} : evE G C (.dct t ks vs) e s = bEs G C (evEs G C ks e s) vs e fun ks vs s => dsp t (dispPut t ([], []) ks vs) s := by rw [evE]; rfl
def chn (p : O2) (r : Option D) (y : D) (z : Res D) (s : Store) : Res D := match r with
  | some (.bl true) => z.bind fun z s => .of (op2 p y z) s
  | some (.bl false) => .ok (.bl false) s
  | _ => .stuck
theorem chn_bl {p : O2} {b : Bool} {y : D} {z : Res D} : chn p (some (.bl b)) y z s = if b then z.bind fun z s => .of (op2 p y z) s else .ok (.bl false) s := by cases b <;> rfl
def kCh (G : Glob) (C : Calls) (r : Res D) (o p : O2) (b c : Nt.PE) (e : Env) : Res D := r.bind fun x s => (evE G C b e s).bind fun y s => chn p (op2 o x y) y (evE G C c e s) s
def kCh2 (G : Glob) (C : Calls) (x : D) (r : Res D) (o p : O2) (c : Nt.PE) (e : Env) : Res D := r.bind fun y s => chn p (op2 o x y) y (evE G C c e s) s
theorem kCh_ok {x : D} {o p : O2} {b c : Nt.PE} : kCh G C (.ok x s) o p b c e = kCh2 G C x (evE G C b e s) o p c e := (rfl)
theorem kCh2_ok {x y : D} {o p : O2} {c : Nt.PE} : kCh2 G C x (.ok y s) o p c e = chn p (op2 o x y) y (evE G C c e s) s := (rfl)
theorem evE_chain {o p : O2} {a b c : Nt.PE} : evE G C (.chain o p a b c) e s = kCh G C (evE G C a e s) o p b c e := by rw [evE]; rfl
def bnd (x : D) (z : Res D) (s : Store) : Res D := match x with
  | .bl true => z
  | .bl false => .ok (.bl false) s
  | _ => .stuck
theorem bnd_bl {b : Bool} {z : Res D} : bnd (.bl b) z s = if b then z else .ok (.bl false) s := by cases b <;> rfl
def kBand (G : Glob) (C : Calls) (r : Res D) (b : Nt.PE) (e : Env) : Res D := r.bind fun x s => bnd x (evE G C b e s) s
theorem kBand_ok {x : D} {b : Nt.PE} : kBand G C (.ok x s) b e = bnd x (evE G C b e s) s := (rfl)
theorem evE_band {a b : Nt.PE} : evE G C (.band a b) e s = kBand G C (evE G C a e s) b e := by rw [evE]; rfl
def bor' (x : D) (z : Res D) (s : Store) : Res D := match x with
  | .bl true => .ok (.bl true) s
  | .bl false => z
  | _ => .stuck
theorem bor_bl {b : Bool} {z : Res D} : bor' (.bl b) z s = if b then .ok (.bl true) s else z := by cases b <;> rfl
def kBor (G : Glob) (C : Calls) (r : Res D) (b : Nt.PE) (e : Env) : Res D := r.bind fun x s => bor' x (evE G C b e s) s
theorem kBor_ok {x : D} {b : Nt.PE} : kBor G C (.ok x s) b e = bor' x (evE G C b e s) s := (rfl)
theorem evE_bor {a b : Nt.PE} : evE G C (.bor a b) e s = kBor G C (evE G C a e s) b e := by rw [evE]; rfl
theorem evE_bnot {a : Nt.PT} : evE G C (.bnot a) e s = (evT G C a e s).bind fun t s => .ok (.bl (!t)) s := by rw [evE]
theorem evE_ifx {c : Nt.PT} {a b : Nt.PE} : evE G C (.ifx c a b) e s = kIf G C (evT G C c e s) a b e := by rw [evE]; rfl
def kSl (G : Glob) (C : Calls) (r : Res D) (lo hi : Nt.PE) (e : Env) : Res D := r.bind fun x s => ((evE G C lo e s).bind fun l s => .of (gI (isNonE lo) l) s).bind fun l s => ((evE G C hi e s).bind fun h s => .of (gI (isNonE hi) h) s).bind fun h s => .of (sliceD x l h) s
def kSl2 (G : Glob) (C : Calls) (x : D) (r : Res D) (hi : Nt.PE) (e : Env) : Res D := r.bind fun l s => ((evE G C hi e s).bind fun h s => .of (gI (isNonE hi) h) s).bind fun h s => .of (sliceD x l h) s
theorem kSl_ok {x : D} {lo hi : Nt.PE} : kSl G C (.ok x s) lo hi e = kSl2 G C x ((evE G C lo e s).bind fun l s => .of (gI (isNonE lo) l) s) hi e := (rfl)
theorem kSl2_ok {x l : D} {hi : Nt.PE} : kSl2 G C x (.ok l s) hi e = ((evE G C hi e s).bind fun h s => .of (gI (isNonE hi) h) s).bind fun h s => .of (sliceD x l h) s := (rfl)
theorem evE_slc {a lo hi : Nt.PE} : evE G C (.slc a lo hi) e s = kSl G C (evE G C a e s) lo hi e := by rw [evE]; rfl
theorem evE_call {f : Nat} {es : PAs} : evE G C (.call f es) e s = (evA G C es e s).bind fun as s => callOf C f as s := by rw [evE]
theorem evE_lc {t : Tg} {it : Nt.PI} {cond : Nt.PT} {elt : Nt.PE} {own : List Nat} : evE G C (.lc t it cond elt own) e s = (evI G C it e s).bind fun xs s => (lcL (lcF G C t cond elt (wipeE e own)) xs [] s).nox.bind fun ds s => .ok (.lst ds) s := by rw [evE]; rfl
theorem exec_asg {t : Tg} {a : Nt.PE} : exec G C (.asg t a) e s = (evE G C a e s).out fun d s => .ofE (bindT t d e) s := by rw [exec]
def prO (o : Option (Env × Store)) : Out := match o with
    | some (e, s) => .nx e s
    | none => .stuck
theorem prO_some {e : Env} {s : Store} : prO (some (e, s)) = .nx e s := (rfl)
theorem exec_par {is : List (Nat × Md)} {es : PEs} : exec G C (.par is es) e s = (evEs G C es e s).out fun ds s => prO (storeP is ds e s) := by rw [exec]; rfl
theorem exec_own {i : Nat} {a : Nt.PE} : exec G C (.own i a) e s = (evE G C a e s).out fun d s => .ofE ((thaw d).bind fun o => setE e i (.own o)) s := by rw [exec]
/-- append -/
def apO (o : Option (Option Slot)) (r : Res D) (k : List D → D → Store → Out) : Out := match o with
    | some (some (.own (.lst xs))) => r.out fun d s => k xs d s
    | _ => .stuck
theorem apO_own {xs : List D} {r : Res D} {k : List D → D → Store → Out} : apO (some (some (.own (.lst xs)))) r k = r.out fun d s => k xs d s := (rfl)
theorem exec_app {i : Nat} {a : Nt.PE} : exec G C (.app i a) e s = apO e[i]? (evE G C a e s) fun xs d s => if xs.length < LIM then .nx (e.set i (some (.own (.lst (xs ++ [d]))))) s else .stuck := by rw [exec]; rfl
def exO (xs : List D) (d : D) (k : List D → Out) : Out := match d with
  | .lst ys => if xs.length + ys.length ≤ LIM then k (xs ++ ys) else .stuck
  | _ => .stuck
theorem exO_lst {xs ys : List D} {k : List D → Out} : exO xs (.lst ys) k = if xs.length + ys.length ≤ LIM then k (xs ++ ys) else .stuck := (rfl)
theorem exec_ext {i : Nat} {a : Nt.PE} : exec G C (.ext i a) e s = apO e[i]? (evE G C a e s) fun xs d s => exO xs d fun zs => .nx (e.set i (some (.own (.lst zs)))) s := by
  rw [exec]; unfold apO exO; congr 1
def stO (o : Option (Option Slot)) (r : SO → Out) : Out := match o with
    | some (some (.own o)) => r o
    | _ => .stuck
theorem stO_own {o : SO} {r : SO → Out} : stO (some (some (.own o))) r = r o := (rfl)
def poO (o : Option SO) (k : SO → Out) : Out := match o with
  | some o => k o
  | none => .stuck
theorem poO_some {o : SO} {k : SO → Out} : poO (some o) k = k o := (rfl)
theorem exec_seti {i : Nat} {k a : Nt.PE} : exec G C (.seti i k a) e s = stO e[i]? fun o => (bE G C (evE G C a e s) k e fun d k s => .ok (d, k) s).out fun p s => poO (putO o p.2 p.1) fun o => .nx (e.set i (some (.own o))) s := by
  rw [exec]
  cases e[i]? with
  | none => rfl
  | some x =>
    cases x with
    | none => rfl
    | some x =>
      cases x with
      | val => rfl
      | ref => rfl
      | own o =>
        show (evE G C a e s).out _ = ((evE G C a e s).bind _).out _
        cases evE G C a e s with
        | ok d s =>
          show (evE G C k e s).out _ = ((evE G C k e s).bind _).out _
          cases evE G C k e s <;> rfl
        | exc c s => rfl
        | stuck => rfl
theorem exec_ifs {c : Nt.PT} {a b : Nt.PSs} : exec G C (.ifs c a b) e s = kIfS G C (evT G C c e s) a b e := by rw [exec]; rfl
theorem exec_for {t : Tg} {it : Nt.PI} {b : Nt.PSs} : exec G C (.for_ t it b) e s = (evI G C it e s).out fun xs s => forL (forF G C t b) xs e s := by rw [exec]; rfl
theorem exec_whl {c : Nt.PT} {b : Nt.PSs} : exec G C (.whl c b) e s = whlF G C c b FUEL e s := by rw [exec]; rfl
theorem exec_ret {a : Nt.PE} : exec G C (.ret a) e s = (evE G C a e s).out fun d s => .rt d s := by rw [exec]
theorem exec_retN : exec G C .retN e s = .rt .non s := by rw [exec]
theorem exec_ex {a : Nt.PE} : exec G C (.ex a) e s = (evE G C a e s).out fun _ s => .nx e s := by rw [exec]
theorem exec_raise {c : Nat} : exec G C (.raise c) e s = .exc c s := by rw [exec]
theorem exec_pass : exec G C .pass e s = .nx e s := by rw [exec]
theorem exec_kill {is : List Nat} : exec G C (.kill is) e s = .nx (wipeE e is) s := by rw [exec]
def fzO (o : Option (Option Slot)) (k : D → Out) : Out := match o with
    | some (some (.own o)) => match frozen o with
      | some d => k d
      | none => .stuck
    | _ => .stuck
theorem fzO_lst {xs : List D} {k : D → Out} : fzO (some (some (.own (.lst xs)))) k = k (.lst xs) := (rfl)
theorem fzO_dct {t : Bool} {ks vs : List D} {k : D → Out} : fzO (some (some (.own (.dct t ks vs)))) k = k (.dct t ks vs) := (rfl)
theorem exec_freeze {i : Nat} : exec G C (.freeze i) e s = fzO e[i]? fun d => .nx (e.set i (some (.val d))) s := by rw [exec]; rfl
theorem tryO_nx {e : Env} {s : Store} : tryO (.nx e s) = .nx e s := (rfl)
theorem tryO_rt {d : D} {s : Store} : tryO (.rt d s) = .rt d s := (rfl)
theorem tryO_exc {c : Nat} {s : Store} {w : List Nat} (h : excWord c = some w) : tryO (.exc c s) = .rt (.str w) s := by
  unfold tryO
  simp only [h]
theorem tryO_1 {s : Store} : tryO (.exc 1 s) = .rt (.str [110, 111, 32, 116, 114, 97, 99, 107]) s := tryO_exc rfl
theorem tryO_2 {s : Store} : tryO (.exc 2 s) = .rt (.str [110, 111, 32, 101, 118, 101, 110, 116]) s := tryO_exc rfl
theorem tryO_3 {s : Store} : tryO (.exc 3 s) = .rt (.str [110, 111, 32, 98, 97, 114]) s := tryO_exc rfl
theorem tryO_4 {s : Store} : tryO (.exc 4 s) = .rt (.str [110, 111, 32, 107, 101, 121]) s := tryO_exc rfl
theorem tryO_5 {s : Store} : tryO (.exc 5 s) = .rt (.str [110, 111, 32, 98, 121, 116, 101, 115]) s := tryO_exc rfl
theorem tryO_6 {s : Store} : tryO (.exc 6 s) = .rt (.str [110, 111, 32, 116, 101, 120, 116]) s := tryO_exc rfl
theorem exec_try {b : Nt.PSs} {i : Nat} : exec G C (.try_ b i) e s = tryO (execs G C b e s) := by rw [exec]
end
/-! operations on data known in shape -/
theorem bindT_v {i : Nat} {d : D} {e : Env} : bindT (.v i) d e = if i < e.length then some (e.set i (some (.val d))) else none := by rw [bindT]
theorem bindT_tup {ts : Tgs} {ds : List D} {e : Env} : bindT (.t ts) (.tup ds) e = bindTs ts ds e := by rw [bindT]
theorem bindT_lst {ts : Tgs} {ds : List D} {e : Env} : bindT (.t ts) (.lst ds) e = bindTs ts ds e := by rw [bindT]
theorem bindTs_nil {e : Env} : bindTs .nil [] e = some e := by rw [bindTs]
theorem bindTs_cons {t : Tg} {ts : Tgs} {d : D} {ds : List D} {e : Env} : bindTs (.cons t ts) (d :: ds) e = (bindT t d e).bind fun e' => bindTs ts ds e' := by rw [bindTs]
theorem add_int {a b : Int} : addD (.int a) (.int b) = some (.int (a + b)) := (rfl)
theorem add_str {a b : List Nat} : addD (.str a) (.str b) = if a.length + b.length ≤ LIM then some (.str (a ++ b)) else none := (rfl)
theorem add_tup {a b : List D} : addD (.tup a) (.tup b) = if a.length + b.length ≤ LIM then some (.tup (a ++ b)) else none := (rfl)
theorem add_lst {a b : List D} : addD (.lst a) (.lst b) = if a.length + b.length ≤ LIM then some (.lst (a ++ b)) else none := (rfl)
theorem sub_int {a b : Int} : subD (.int a) (.int b) = some (.int (a - b)) := (rfl)
theorem mul_int {a b : Int} : mulD (.int a) (.int b) = if mulOk a b then some (.int (a * b)) else none := (rfl)
theorem mul_lst {a : List D} {b : Int} : mulD (.lst a) (.int b) = if ixOk b && decide (a.length * b.toNat ≤ LIM) then some (.lst (List.replicate b.toNat a).flatten) else none := (rfl)
theorem fdiv_int {a b : Int} : fdivD (.int a) (.int b) = if divOk b then some (.int (a / b)) else none := (rfl)
theorem mod_int {a b : Int} : modD (.int a) (.int b) = if divOk b then some (.int (a % b)) else none := (rfl)
theorem pow_int {a b : Int} : powD (.int a) (.int b) = if decide (0 ≤ b) && decide (b ≤ 1000) && smallI a then some (.int (a ^ b.toNat)) else none := (rfl)
theorem cmp_int {fi : Int → Int → Bool} {fs : List Nat → List Nat → Bool} {a b : Int} : cmpD fi fs (.int a) (.int b) = some (.bl (fi a b)) := (rfl)
theorem cmp_str {fi : Int → Int → Bool} {fs : List Nat → List Nat → Bool} {a b : List Nat} : cmpD fi fs (.str a) (.str b) = some (.bl (fs a b)) := (rfl)
theorem truth_non : truth .non = some false := (rfl)
theorem truth_bl {b : Bool} : truth (.bl b) = some b := (rfl)
theorem truth_int {i : Int} : truth (.int i) = some (i != 0) := (rfl)
theorem truth_tup {x : List D} : truth (.tup x) = some (!x.isEmpty) := (rfl)
theorem truth_lst {x : List D} : truth (.lst x) = some (!x.isEmpty) := (rfl)
theorem gI_non : gI true .non = some .non := (rfl)
theorem gI_int {i : Int} : gI false (.int i) = some (.int i) := (rfl)
theorem items_tup {x : List D} : itemsOf (.tup x) = some x := (rfl)
theorem items_lst {x : List D} : itemsOf (.lst x) = some x := (rfl)
theorem items_str {x : List Nat} : itemsOf (.str x) = some (x.map fun c => .str [c]) := (rfl)
theorem zipOf_tup {x y : List D} : zipOf (.tup x) (.tup y) = some (zipD x y) := (rfl)
theorem zipOf_lst {x y : List D} : zipOf (.lst x) (.lst y) = some (zipD x y) := (rfl)
theorem zip3_tup {x y z : List D} : zip3T (.tup x) (.tup y) (.tup z) = some (zip3D x y z) := (rfl)
theorem mul_tup {a : List D} {b : Int} : mulD (.tup a) (.int b) = if ixOk b && decide (a.length * b.toNat ≤ LIM) then some (.tup (List.replicate b.toNat a).flatten) else none := (rfl)
theorem o2_add {a b : D} : op2 .add a b = addD a b := (rfl)
theorem o2_sub {a b : D} : op2 .sub a b = subD a b := (rfl)
theorem o2_mul {a b : D} : op2 .mul a b = mulD a b := (rfl)
theorem o2_fdiv {a b : D} : op2 .fdiv a b = fdivD a b := (rfl)
theorem o2_mod {a b : D} : op2 .mod a b = modD a b := (rfl)
theorem o2_pow {a b : D} : op2 .pow a b = powD a b := (rfl)
theorem o2_eq {a b : D} : op2 .eq a b = eqVal a b := (rfl)
theorem o2_ne {a b : D} : op2 .ne a b = neVal a b := (rfl)
theorem eqv {a b : D} {t : Bool} (h : eqD a b = some t) : eqVal a b = some (.bl t) := by rw [eqVal, h]; rfl
theorem o2_lt {a b : D} : op2 .lt a b = cmpD (fun i j => decide (i < j)) (fun x y => ltS x y) a b := (rfl)
theorem o2_le {a b : D} : op2 .le a b = cmpD (fun i j => decide (i ≤ j)) (fun x y => !ltS y x) a b := (rfl)
theorem o2_gt {a b : D} : op2 .gt a b = cmpD (fun i j => decide (j < i)) (fun x y => ltS y x) a b := (rfl)
theorem o2_ge {a b : D} : op2 .ge a b = cmpD (fun i j => decide (j ≤ i)) (fun x y => !ltS x y) a b := (rfl)
theorem o2_inn {a b : D} : op2 .inn a b = (inD a b).map .bl := (rfl)
theorem o2_notin {a b : D} : op2 .notin a b = (inD a b).map fun t => .bl (!t) := (rfl)
theorem o2_idx {a b : D} : op2 .idx a b = idxD a b := (rfl)
theorem o2_max {i j : Int} : op2 .max (.int i) (.int j) = some (.int (if i < j then j else i)) := (rfl)
theorem o2_min {i j : Int} : op2 .min (.int i) (.int j) = some (.int (if j < i then j else i)) := (rfl)
theorem o1_neg {i : Int} : op1 .neg (.int i) = some (.int (-i)) := (rfl)
theorem o1_len {d : D} : op1 .len d = lenD d := (rfl)
theorem len_tup {x : List D} : lenD (.tup x) = some (.int x.length) := (rfl)
theorem len_lst {x : List D} : lenD (.lst x) = some (.int x.length) := (rfl)
theorem len_dct {t : Bool} {k v : List D} : lenD (.dct t k v) = some (.int k.length) := (rfl)
theorem len_scr {x : List Int} : lenD (.scr x) = some (.int x.length) := (rfl)
theorem len_str {x : List Nat} : lenD (.str x) = if x.length ≤ LIM then some (.int x.length) else none := (rfl)
theorem o1_tuple_tup {x : List D} : op1 .tuple (.tup x) = some (.tup x) := (rfl)
theorem o1_tuple_lst {x : List D} : op1 .tuple (.lst x) = some (.tup x) := (rfl)
theorem o1_list_tup {x : List D} : op1 .list (.tup x) = some (.lst x) := (rfl)
theorem o1_list_lst {x : List D} : op1 .list (.lst x) = some (.lst x) := (rfl)
theorem o1_list_dct {t : Bool} {k v : List D} : op1 .list (.dct t k v) = some (.lst k) := (rfl)
theorem o1_sorted_tup {x : List D} : op1 .sorted (.tup x) = (sortD x).map .lst := (rfl)
theorem o1_sorted_lst {x : List D} : op1 .sorted (.lst x) = (sortD x).map .lst := (rfl)
theorem o1_all {x : List D} : op1 .all (.lst x) = (allBls x).map fun bs => .bl (bs.all id) := (rfl)
theorem o1_abs {i : Int} : op1 .abs (.int i) = some (.int (if i < 0 then -i else i)) := (rfl)
theorem o1_int_int {i : Int} : op1 .int (.int i) = some (.int i) := (rfl)
theorem o1_int_bl {b : Bool} : op1 .int (.bl b) = some (.int (b2i b)) := (rfl)
theorem o1_rev_tup {x : List D} : op1 .rev (.tup x) = some (.tup x.reverse) := (rfl)
theorem o1_rev_lst {x : List D} : op1 .rev (.lst x) = some (.lst x.reverse) := (rfl)
theorem o1_isTrue {b : Bool} : op1 .isTrue (.bl b) = some (.bl b) := (rfl)
theorem o1_notTrue {b : Bool} : op1 .notTrue (.bl b) = some (.bl (!b)) := (rfl)
theorem o1_isFalse {b : Bool} : op1 .isFalse (.bl b) = some (.bl (!b)) := (rfl)
theorem o1_notFalse {b : Bool} : op1 .notFalse (.bl b) = some (.bl b) := (rfl)
theorem ite_ok {α : Type} {p : Prop} [Decidable p] {a b : α} {s : Store} : (if p then Res.ok a s else Res.ok b s) = Res.ok (if p then a else b) s := by split <;> rfl
theorem ite_int {p : Prop} [Decidable p] {a b : Int} : (if p then D.int a else D.int b) = D.int (if p then a else b) := by split <;> rfl
theorem ite_bl {p : Prop} [Decidable p] {a b : Bool} : (if p then D.bl a else D.bl b) = D.bl (if p then a else b) := by split <;> rfl
theorem ite_someD {p : Prop} [Decidable p] {a b : D} : (if p then some a else some b) = some (if p then a else b) := by split <;> rfl
theorem of_ite {α : Type} {c : Bool} {a b : Option α} {s : Store} : Res.of (if c = true then a else b) s = if c = true then Res.of a s else Res.of b s := by cases c <;> rfl
theorem bind_ite {α β : Type} {c : Prop} [Decidable c] {a b : Res α} {f : α → Store → Res β} : (if c then a else b).bind f = if c then a.bind f else b.bind f := by split <;> rfl
theorem out_ite {α : Type} {c : Prop} [Decidable c] {a b : Res α} {f : α → Store → Out} : (if c then a else b).out f = if c then a.out f else b.out f := by split <;> rfl
theorem then_ite {c : Prop} [Decidable c] {a b : Out} {f : Env → Store → Out} : (if c then a else b).then f = if c then a.then f else b.then f := by split <;> rfl
theorem finish_ite {c : Prop} [Decidable c] {a b : Out} : finish (if c then a else b) = if c then finish a else finish b := by split <;> rfl
end Nt
set_option autoImplicit false
set_option linter.all false
/-! S0: what the defs answer: lemmas for all laws -/
namespace Nt
section
variable {G : Glob} {T : Table} {n : Nat}
/-- a body answers v -/
def Fin (o : Out) (v : D) : Prop := ∃ s, finish o = .ok v s
def FinX (o : Out) (c : Nat) : Prop := ∃ s, finish o = .exc c s
theorem Fin_rt {v : D} {s : Store} : Fin (.rt v s) v := ⟨s, rfl⟩
theorem Fin_nx {e : Env} {s : Store} : Fin (.nx e s) .non := ⟨s, rfl⟩
theorem FinX_exc {c : Nat} {s : Store} : FinX (.exc c s) c := ⟨s, rfl⟩
theorem callOf_ok {f : Nat} {d : Def} {as : List Arg} {v : D} {s : Store} (hT : T f = some (.code d)) (ha : anyRef as = false) (hp : as.length = d.params)
    (h : Fin (execs G (run G T n) d.body (startE d.slots as) []) v) : callOf (run G T (n + 1)) f as s = .ok v s := by
  obtain ⟨s', h⟩ := h
  unfold callOf
  rw [ha]
  simp only [Bool.false_eq_true, if_false, run, hT, runDef, hp, if_true]
  rw [h]
theorem callOf_exc {f : Nat} {d : Def} {as : List Arg} {c : Nat} {s : Store} (hT : T f = some (.code d)) (ha : anyRef as = false) (hp : as.length = d.params)
    (h : FinX (execs G (run G T n) d.body (startE d.slots as) []) c) : callOf (run G T (n + 1)) f as s = .exc c s := by
  obtain ⟨s', h⟩ := h
  unfold callOf
  rw [ha]
  simp only [Bool.false_eq_true, if_false, run, hT, runDef, hp, if_true]
  rw [h]
end
/-! ### numbers -/
theorem divOk_of {b : Int} (h : 0 < b) (h2 : b < 18446744073709551616) : divOk b = true := by simp [divOk, h, h2]
theorem mulOk_left {a b : Int} (h : -18446744073709551616 < a) (h2 : a < 18446744073709551616) : mulOk a b = true := by simp [mulOk, smallI, h, h2]
theorem mulOk_right {a b : Int} (h : -18446744073709551616 < b) (h2 : b < 18446744073709551616) : mulOk a b = true := by simp [mulOk, smallI, h, h2]
theorem ixOk_of {a : Int} (h : -4611686018427387904 ≤ a) (h2 : a < 4611686018427387904) : ixOk a = true := by simp [ixOk, h, h2]
theorem rngOk_of {a : Int} (h : -4611686018427387904 ≤ a) (h2 : a < 4611686018427387904) : rngOk a = true := by simp [rngOk, h, h2]
/-! ### lists -/
theorem allL_all {f : D → Bool} : ∀ {l : List D}, allL f l = l.all f
  | [] => rfl
  | a :: l => by rw [allL, List.all_cons, allL_all]
theorem allL_map {α : Type} {f : D → Bool} {e : α → D} {l : List α} (h : ∀ x ∈ l, f (e x) = true) : allL f (l.map e) = true := by
  rw [allL_all, List.all_eq_true]
  intro x hx
  obtain ⟨y, hy, rfl⟩ := List.mem_map.mp hx
  exact h y hy
theorem allL_append {f : D → Bool} {l l' : List D} : allL f (l ++ l') = (allL f l && allL f l') := by
  rw [allL_all, allL_all, allL_all, List.all_append]
theorem eqL_map {α : Type} [DecidableEq α] {f : D → D → Bool} {e : α → D} (h : ∀ a b, f (e a) (e b) = decide (a = b)) : ∀ {l l' : List α}, eqL f (l.map e) (l'.map e) = decide (l = l')
  | [], [] => by simp [eqL]
  | [], b :: l' => by simp [eqL]
  | a :: l, [] => by simp [eqL]
  | a :: l, b :: l' => by
    simp only [List.map_cons, eqL, h, eqL_map h, List.cons.injEq]
    by_cases h1 : a = b <;> by_cases h2 : l = l' <;> simp [h1, h2]
theorem eqL_self {f : D → D → Bool} : ∀ {l : List D}, (∀ x ∈ l, f x x = true) → eqL f l l = true
  | [], _ => rfl
  | a :: l, h => by
    rw [eqL, h a List.mem_cons_self, eqL_self fun x hx => h x (List.mem_cons_of_mem _ hx)]
    rfl
theorem eqN_self : ∀ (n : Nat) (d : D), plainN n d = true → eqN n d d = true
  | 0, _, h => by simp [plainN] at h
  | n + 1, d, h => by
    cases d <;> simp only [plainN, eqN, Bool.false_eq_true] at h ⊢ <;> try simp
    · rw [allL_all, List.all_eq_true] at h
      exact eqL_self fun x hx => eqN_self n x (h x hx)
    · rw [allL_all, List.all_eq_true] at h
      exact eqL_self fun x hx => eqN_self n x (h x hx)
theorem eqD_self {d : D} (h : plainN DEP d = true) : eqD d d = some true := by
  rw [eqD, h, eqN_self _ _ h]
  rfl
theorem eqVal_self {d : D} (h : plainN DEP d = true) : eqVal d d = some (.bl true) := by rw [eqVal, eqD_self h]; rfl
theorem neVal_self {d : D} (h : plainN DEP d = true) : neVal d d = some (.bl false) := by rw [neVal, eqD_self h]; rfl
/-! ### data that == tells as they are -/
class Enc (α : Type) [DecidableEq α] where
  enc : α → D
  dep : Nat
  plain : ∀ n a, dep ≤ n → plainN n (enc a) = true
  eq : ∀ n a b, dep ≤ n → eqN n (enc a) (enc b) = decide (a = b)
class EncO (α : Type) [DecidableEq α] [LT α] [DecidableLT α] extends Enc α where
  lt : ∀ n a b, dep ≤ n → ltN n (enc a) (enc b) = decide (a < b)
  alike : ∀ n a b, dep ≤ n → alikeN n (enc a) (enc b) = true
open Enc (enc dep)
theorem ltL_map {α : Type} [DecidableEq α] [LT α] [DecidableLT α] {f g : D → D → Bool} {e : α → D} (h : ∀ a b, f (e a) (e b) = decide (a = b)) (k : ∀ a b, g (e a) (e b) = decide (a < b)) (irr : ∀ a : α, ¬ a < a) :
    ∀ {l l' : List α}, ltL f g (l.map e) (l'.map e) = decide (l < l')
  | [], [] => by simp [ltL]
  | [], b :: l' => by simp [ltL]
  | a :: l, [] => by simp [ltL]
  | a :: l, b :: l' => by
    simp only [List.map_cons, ltL, h, k, ltL_map h k irr, List.cons_lt_cons_iff]
    by_cases h1 : a = b
    · subst h1; simp [irr]
    · simp [h1]
theorem alL_map {α : Type} {g : D → D → Bool} {e : α → D} (k : ∀ a b, g (e a) (e b) = true) : ∀ {l l' : List α}, alL g (l.map e) (l'.map e) = true
  | [], [] => rfl
  | [], b :: l' => rfl
  | a :: l, [] => rfl
  | a :: l, b :: l' => by simp only [List.map_cons, alL, k, alL_map k, Bool.and_true]
instance instInt : EncO Int where
  enc := .int
  dep := 1
  plain n a h := by cases n with | zero => omega | succ n => rfl
  eq n a b h := by cases n with | zero => omega | succ n => rw [Bool.eq_iff_iff]; simp [eqN]
  lt n a b h := by cases n with | zero => omega | succ n => rfl
  alike n a b h := by cases n with | zero => omega | succ n => rfl
instance instTup {α : Type} [DecidableEq α] [Enc α] : Enc (List α) where
  enc l := .tup (l.map enc)
  dep := dep α + 1
  plain n a h := by
    cases n with
    | zero => omega
    | succ n => exact allL_map fun x _ => Enc.plain n x (by omega)
  eq n a b h := by
    cases n with
    | zero => omega
    | succ n => exact eqL_map fun x y => Enc.eq n x y (by omega)
class Irr (α : Type) [LT α] : Prop where
  irr : ∀ a : α, ¬ a < a
instance : Irr Int := ⟨fun a => by omega⟩
instance {α : Type} [LT α] [i : Irr α] : Irr (List α) := ⟨fun l => by
  induction l with
  | nil => intro h; cases h
  | cons a l ih => rw [List.cons_lt_cons_iff]; rintro (h | ⟨_, h⟩); exact i.irr a h; exact ih h⟩
instance instTupO {α : Type} [DecidableEq α] [LT α] [DecidableLT α] [i : Irr α] [EncO α] : EncO (List α) where
  toEnc := instTup
  lt n a b h := by
    cases n with
    | zero => exact absurd h (by show ¬ (dep α + 1 ≤ 0); omega)
    | succ n =>
      have h : dep α ≤ n := Nat.le_of_succ_le_succ h
      exact ltL_map (fun x y => Enc.eq n x y h) (fun x y => EncO.lt n x y h) i.irr
  alike n a b h := by
    cases n with
    | zero => exact absurd h (by show ¬ (dep α + 1 ≤ 0); omega)
    | succ n =>
      have h : dep α ≤ n := Nat.le_of_succ_le_succ h
      exact alL_map fun x y => EncO.alike n x y h
section
variable {α : Type} [DecidableEq α] [Enc α]
theorem eqD_enc (h : dep α ≤ 40) (a b : α) : eqD (enc a) (enc b) = some (decide (a = b)) := by
  rw [eqD, DEP, Enc.plain _ _ h, Enc.plain _ _ h, Enc.eq _ _ _ h]; rfl
theorem eqD_lst (h : dep α ≤ 39) (a b : List α) : eqD (.lst (a.map enc)) (.lst (b.map enc)) = some (decide (a = b)) := by
  have p : ∀ l : List α, plainN DEP (.lst (l.map enc)) = true := fun l => allL_map fun x _ => Enc.plain 39 x h
  rw [eqD, p, p]
  have : eqN DEP (.lst (a.map enc)) (.lst (b.map enc)) = decide (a = b) := eqL_map fun x y => Enc.eq 39 x y h
  rw [this]; rfl
theorem plain_enc (h : dep α ≤ 40) (a : α) : plainN DEP (enc a) = true := Enc.plain _ _ h
end
/-! ### sorting -/
section
variable {α : Type} [DecidableEq α] [LT α] [DecidableLT α] [EncO α]
def leB (a b : α) : Bool := !decide (b < a)
theorem leD_enc (h : dep α ≤ 40) (a b : α) : leD (enc a) (enc b) = leB a b := by rw [leD, DEP, EncO.lt _ _ _ h, leB]
theorem sortD_enc (h : dep α ≤ 40) {l : List α} (hl : l.length ≤ LIM) (ht : allL isTupNE (l.map enc) = true ∨ allL isAtom (l.map enc) = true) : sortD (l.map enc) = some ((l.mergeSort leB).map enc) := by
  have h1 : sortable (l.map enc) = true := by
    have e1 : allL (plainN DEP) (l.map enc) = true := allL_map fun x _ => plain_enc h x
    have e2 : allAlike (l.map enc) = true := allL_map fun x _ => allL_map fun y _ => EncO.alike _ x y h
    have e3 : (allL isTupNE (l.map enc) || allL isAtom (l.map enc)) = true := by rcases ht with ht | ht <;> simp [ht]
    simp only [sortable, List.length_map, hl, decide_true, e1, e2, e3, Bool.true_and]
  rw [sortD, if_pos h1, List.map_mergeSort (s := leD)]
  intro a _ b _
  exact (leD_enc h a b).symm
theorem atoms (l : List Int) : allL isAtom (l.map enc) = true := allL_map fun _ _ => rfl
theorem tupNE {l : List (List α)} (h : ∀ x ∈ l, x ≠ []) : allL isTupNE (l.map enc) = true := allL_map fun x hx => by
  cases x with
  | nil => exact absurd rfl (h _ hx)
  | cons a x => rfl
end
/-! ### comprehensions, loops -/
theorem zipD_map {α β : Type} (e : α → D) (f : β → D) : ∀ (l : List α) (m : List β), zipD (l.map e) (m.map f) = (l.zip m).map fun p => .tup [e p.1, f p.2]
  | [], _ => by simp [zipD]
  | _ :: _, [] => by simp [zipD]
  | a :: l, b :: m => by simp only [List.map_cons, zipD, List.zip_cons_cons, zipD_map e f l m]
theorem lcL_of {α : Type} {f : D → Store → Res (Option D)} {e : α → D} {g : α → Option D} {s : Store} : ∀ {l : List α} {acc : List D}, (∀ x ∈ l, f (e x) s = .ok (g x) s) → acc.length + l.length ≤ LIM → lcL f (l.map e) acc s = .ok (acc ++ l.filterMap g) s
  | [], acc, _, _ => by simp [lcL]
  | x :: l, acc, h, hl => by
    rw [List.map_cons, lcL, h x List.mem_cons_self, bind_ok]
    simp only [List.length_cons] at hl
    cases hg : g x with
    | none => rw [lcL_of (fun y hy => h y (List.mem_cons_of_mem _ hy)) (by omega), List.filterMap_cons_none hg]
    | some d =>
      dsimp only
      rw [if_pos (by omega), lcL_of (fun y hy => h y (List.mem_cons_of_mem _ hy)) (by rw [List.length_append, List.length_cons, List.length_nil]; omega), List.filterMap_cons_some hg]
      simp
theorem lcL_map {α : Type} {f : D → Store → Res (Option D)} {e : α → D} {g : α → D} {s : Store} {l : List α} (h : ∀ x ∈ l, f (e x) s = .ok (some (g x)) s) (hl : l.length ≤ LIM) : lcL f (l.map e) [] s = .ok (l.map g) s := by
  rw [lcL_of (g := fun x => some (g x)) h (by simpa using hl)]
  simp
theorem lcL_mapD {f : D → Store → Res (Option D)} {g : D → D} {s : Store} {l : List D} (h : ∀ x ∈ l, f x s = .ok (some (g x)) s) (hl : l.length ≤ LIM) : lcL f l [] s = .ok (l.map g) s := by
  have := lcL_map (e := id) (f := f) (g := g) (s := s) (l := l) h hl
  simpa using this
theorem lcL_filter {α : Type} {f : D → Store → Res (Option D)} {e : α → D} {p : α → Bool} {g : α → D} {s : Store} {l : List α} (h : ∀ x ∈ l, f (e x) s = .ok (if p x then some (g x) else none) s) (hl : l.length ≤ LIM) : lcL f (l.map e) [] s = .ok ((l.filter p).map g) s := by
  rw [lcL_of (g := fun x => if p x then some (g x) else none) h (by simpa using hl), List.nil_append]
  congr 1
  clear h hl
  induction l with
  | nil => rfl
  | cons a l ih =>
    by_cases hp : p a = true
    · rw [List.filterMap_cons_some (b := g a) (by simp [hp]), List.filter_cons_of_pos hp, List.map_cons, ih]
    · rw [List.filterMap_cons_none (by simp [hp]), List.filter_cons_of_neg hp, ih]
/-- a loop that keeps R of what was made of the items so far -/
theorem forL_fold {α β : Type} {f : D → Env → Store → Out} {en : α → D} (R : β → Env → Store → Prop) (step : β → α → β) : ∀ {l : List α}, (∀ x ∈ l, ∀ b e s, R b e s → ∃ e' s', f (en x) e s = .nx e' s' ∧ R (step b x) e' s') →
    ∀ {b : β} {e : Env} {s : Store}, R b e s → ∃ e' s', forL f (l.map en) e s = .nx e' s' ∧ R (l.foldl step b) e' s'
  | [], _, b, e, s, r => ⟨e, s, rfl, r⟩
  | x :: l, h, b, e, s, r => by
    obtain ⟨e1, s1, h1, r1⟩ := h x List.mem_cons_self b e s r
    obtain ⟨e2, s2, h2, r2⟩ := forL_fold R step (fun y hy => h y (List.mem_cons_of_mem _ hy)) r1
    refine ⟨e2, s2, ?_, r2⟩
    rw [List.map_cons, forL, h1, then_nx, h2]
/-- goes on, with P -/
def Nxt (o : Out) (P : Env → Store → Prop) : Prop := ∃ e s, o = .nx e s ∧ P e s
theorem Nxt_nx {e : Env} {s : Store} {P : Env → Store → Prop} : Nxt (.nx e s) P = P e s := propext ⟨fun ⟨_, _, h, p⟩ => by cases h; exact p, fun p => ⟨_, _, rfl, p⟩⟩
/-- a loop; R of the items done -/
theorem forL_pre {α : Type} {f : D → Env → Store → Out} {en : α → D} (R : List α → Env → Store → Prop) : ∀ {l pre : List α}, (∀ a x b e s, pre ++ l = a ++ x :: b → R a e s → ∃ e' s', f (en x) e s = .nx e' s' ∧ R (a ++ [x]) e' s') →
    ∀ {e : Env} {s : Store}, R pre e s → ∃ e' s', forL f (l.map en) e s = .nx e' s' ∧ R (pre ++ l) e' s'
  | [], pre, _, e, s, r => ⟨e, s, rfl, by rw [List.append_nil]; exact r⟩
  | x :: l, pre, h, e, s, r => by
    obtain ⟨e1, s1, h1, r1⟩ := h pre x l e s rfl r
    obtain ⟨e2, s2, h2, r2⟩ := forL_pre R (l := l) (pre := pre ++ [x]) (fun a y b e s q => h a y b e s (by rw [← q]; simp)) r1
    refine ⟨e2, s2, ?_, by simpa using r2⟩
    rw [List.map_cons, forL, h1, then_nx, h2]
theorem forL_go {G : Glob} {α : Type} {f : D → Env → Store → Out} {en : α → D} {l : List α} {e : Env} {s : Store} {C : Calls} {ps : Nt.PSs} {v : D} (R : List α → Env → Store → Prop) (h0 : R [] e s)
    (h : ∀ a x b e s, l = a ++ x :: b → R a e s → Nxt (f (en x) e s) (R (a ++ [x]))) (hk : ∀ e s, R l e s → Fin (execs G C ps e s) v) : Fin (sq G C (forL f (l.map en) e s) ps) v := by
  obtain ⟨e', s', h1, h2⟩ := forL_pre R (l := l) (pre := []) h h0
  rw [h1, sq_nx]
  exact hk _ _ h2
theorem forL_nxt {G : Glob} {α : Type} {f : D → Env → Store → Out} {en : α → D} {l : List α} {e : Env} {s : Store} {C : Calls} {ps : Nt.PSs} {Q : Env → Store → Prop} (R : List α → Env → Store → Prop) (h0 : R [] e s)
    (h : ∀ a x b e s, l = a ++ x :: b → R a e s → Nxt (f (en x) e s) (R (a ++ [x]))) (hk : ∀ e s, R l e s → Nxt (execs G C ps e s) Q) : Nxt (sq G C (forL f (l.map en) e s) ps) Q := by
  obtain ⟨e', s', h1, h2⟩ := forL_pre R (l := l) (pre := []) h h0
  rw [h1, sq_nx]
  exact hk _ _ h2
theorem forL_goD {G : Glob} {f : D → Env → Store → Out} {l : List D} {e : Env} {s : Store} {C : Calls} {ps : Nt.PSs} {v : D} (R : List D → Env → Store → Prop) (h0 : R [] e s)
    (h : ∀ a x b e s, l = a ++ x :: b → R a e s → Nxt (f x e s) (R (a ++ [x]))) (hk : ∀ e s, R l e s → Fin (execs G C ps e s) v) : Fin (sq G C (forL f l e s) ps) v := by
  have := forL_go (G := G) (en := id) (f := f) (l := l) (e := e) (s := s) (C := C) (ps := ps) (v := v) R h0 h hk
  simpa using this
/-- a loop that keeps I -/
theorem forL_inv {f : D → Env → Store → Out} (I : Env → Store → Prop) : ∀ {l : List D}, (∀ x ∈ l, ∀ e s, I e s → ∃ e' s', f x e s = .nx e' s' ∧ I e' s') → ∀ {e : Env} {s : Store}, I e s → ∃ e' s', forL f l e s = .nx e' s' ∧ I e' s'
  | [], _, e, s, r => ⟨e, s, rfl, r⟩
  | x :: l, h, e, s, r => by
    obtain ⟨e1, s1, h1, r1⟩ := h x List.mem_cons_self e s r
    obtain ⟨e2, s2, h2, r2⟩ := forL_inv I (fun y hy => h y (List.mem_cons_of_mem _ hy)) r1
    refine ⟨e2, s2, ?_, r2⟩
    rw [forL, h1, then_nx, h2]
/-- the numbers from a on -/
def rangeZ (a : Int) : Nat → List Int
  | 0 => []
  | n + 1 => a :: rangeZ (a + 1) n
theorem rngFrom_ints : ∀ (n : Nat) (a : Int), rngFrom a n = (rangeZ a n).map .int
  | 0, _ => rfl
  | n + 1, a => by rw [rngFrom, rangeZ, List.map_cons, rngFrom_ints n]
theorem mem_rangeZ : ∀ {n : Nat} {a i : Int}, i ∈ rangeZ a n ↔ a ≤ i ∧ i < a + n
  | 0, a, i => by simp [rangeZ] <;> omega
  | n + 1, a, i => by rw [rangeZ, List.mem_cons, mem_rangeZ]; omega
theorem len_rangeZ : ∀ {n : Nat} {a : Int}, (rangeZ a n).length = n
  | 0, _ => rfl
  | n + 1, a => by rw [rangeZ, List.length_cons, len_rangeZ]
/-! ### places -/
theorem idxT {xs : List D} (k : Nat) (h : k < 4611686018427387904) : idxD (.tup xs) (.int k) = xs[k]? := by
  have e1 : ixOk (k : Int) = true := ixOk_of (by omega) (by omega)
  simp only [idxD, e1, if_true, atI, ixN]
  rw [if_pos (by omega : (0 : Int) ≤ k)]
  by_cases hk : k < xs.length
  · have : (k : Int) < xs.length := by omega
    simp [hk]
  · have : ¬ (k : Int) < xs.length := by omega
    simp [hk]
    try omega
theorem idxL {xs : List D} (k : Nat) (h : k < 4611686018427387904) : idxD (.lst xs) (.int k) = xs[k]? := by
  have e1 : ixOk (k : Int) = true := ixOk_of (by omega) (by omega)
  simp only [idxD, e1, if_true, atI, ixN]
  rw [if_pos (by omega : (0 : Int) ≤ k)]
  by_cases hk : k < xs.length
  · have : (k : Int) < xs.length := by omega
    simp [hk]
  · have : ¬ (k : Int) < xs.length := by omega
    simp [hk]
    try omega
theorem ixT0 {xs : List D} : idxD (.tup xs) (.int 0) = xs[0]? := idxT 0 (by decide)
theorem ixT1 {xs : List D} : idxD (.tup xs) (.int 1) = xs[1]? := idxT 1 (by decide)
theorem ixT2 {xs : List D} : idxD (.tup xs) (.int 2) = xs[2]? := idxT 2 (by decide)
theorem ixT3 {xs : List D} : idxD (.tup xs) (.int 3) = xs[3]? := idxT 3 (by decide)
theorem ixT4 {xs : List D} : idxD (.tup xs) (.int 4) = xs[4]? := idxT 4 (by decide)
theorem ixL0 {xs : List D} : idxD (.lst xs) (.int 0) = xs[0]? := idxL 0 (by decide)
theorem ixL1 {xs : List D} : idxD (.lst xs) (.int 1) = xs[1]? := idxL 1 (by decide)
theorem ixTm1 {xs : List D} : idxD (.tup xs) (.int (-1)) = xs.getLast? := by
  have e1 : ixOk (-1) = true := by decide
  cases xs with
  | nil => rfl
  | cons a l =>
    rw [List.getLast?_eq_getElem?]
    simp only [idxD, atI, ixN, e1, if_true]
    rw [if_neg (by omega), if_pos (by simp only [List.length_cons]; omega)]
    show (a :: l)[((-1 : Int) + ((a :: l).length : Int)).toNat]? = _
    congr 1
    simp only [List.length_cons]
    omega
theorem slT_1n {xs : List D} : sliceD (.tup xs) (.int 1) .non = some (.tup (xs.drop 1)) := by
  simp [sliceD, sliceL, sIx, ixOk, cut]
  cases xs with
  | nil => rfl
  | cons a l =>
    simp
theorem sIx_nat {m d k : Nat} (e1 : ixOk (k : Int) = true) : sIx m d (.int k) = some (min k m) := by
  show (if ixOk (k : Int) = true then some (if (k : Int) < 0 then ((k : Int) + (m : Int)).toNat else min (k : Int).toNat m) else none) = _
  rw [if_pos e1, if_neg (by omega), Int.toNat_natCast]
theorem sliceL_some {α : Type} {xs : List α} {lo hi : D} {a b : Nat} (h1 : sIx xs.length 0 lo = some a) (h2 : sIx xs.length xs.length hi = some b) : sliceL xs lo hi = some (cut xs a b) := by
  unfold sliceL
  rw [h1, h2]
theorem sliceD_tup {xs : List D} {lo hi : D} : sliceD (.tup xs) lo hi = (sliceL xs lo hi).map .tup := rfl
theorem sliceD_lst {xs : List D} {lo hi : D} : sliceD (.lst xs) lo hi = (sliceL xs lo hi).map .lst := rfl
theorem cut_from {α : Type} {xs : List α} {k : Nat} : cut xs (min k xs.length) xs.length = xs.drop k := by
  unfold cut
  rw [List.take_of_length_le (by simp)]
  by_cases hk : k ≤ xs.length
  · rw [Nat.min_eq_left hk]
  · rw [Nat.min_eq_right (by omega), List.drop_length, List.drop_eq_nil_of_le (by omega)]
theorem cut_to {α : Type} {xs : List α} {k : Nat} : cut xs 0 (min k xs.length) = xs.take k := by
  unfold cut
  rw [List.drop_zero, Nat.sub_zero]
  by_cases hk : k ≤ xs.length
  · rw [Nat.min_eq_left hk]
  · rw [Nat.min_eq_right (by omega), List.take_length, List.take_of_length_le (by omega)]
theorem slT_from {xs : List D} (k : Nat) (e1 : ixOk (k : Int) = true) : sliceD (.tup xs) (.int k) .non = some (.tup (xs.drop k)) := by
  rw [sliceD_tup, sliceL_some (sIx_nat e1) rfl, cut_from]
  rfl
theorem slT_to {xs : List D} (k : Nat) (e1 : ixOk (k : Int) = true) : sliceD (.tup xs) .non (.int k) = some (.tup (xs.take k)) := by
  rw [sliceD_tup, sliceL_some rfl (sIx_nat e1), cut_to]
  rfl
theorem slL_from {xs : List D} (k : Nat) (e1 : ixOk (k : Int) = true) : sliceD (.lst xs) (.int k) .non = some (.lst (xs.drop k)) := by
  rw [sliceD_lst, sliceL_some (sIx_nat e1) rfl, cut_from]
  rfl
theorem slL_to {xs : List D} (k : Nat) (e1 : ixOk (k : Int) = true) : sliceD (.lst xs) .non (.int k) = some (.lst (xs.take k)) := by
  rw [sliceD_lst, sliceL_some rfl (sIx_nat e1), cut_to]
  rfl
theorem slT_m1 {xs : List D} : sliceD (.tup xs) .non (.int (-1)) = some (.tup xs.dropLast) := by
  simp only [sliceD, sliceL, sIx, cut, ixOk]
  simp
  rw [List.dropLast_eq_take]
  congr 1
  omega
theorem slT_n2 {xs : List D} : sliceD (.tup xs) .non (.int 2) = some (.tup (xs.take 2)) := slT_to 2 (by decide)
theorem slT_n3 {xs : List D} : sliceD (.tup xs) .non (.int 3) = some (.tup (xs.take 3)) := slT_to 3 (by decide)
theorem slT_3n {xs : List D} : sliceD (.tup xs) (.int 3) .non = some (.tup (xs.drop 3)) := slT_from 3 (by decide)
theorem slT_2n {xs : List D} : sliceD (.tup xs) (.int 2) .non = some (.tup (xs.drop 2)) := slT_from 2 (by decide)
theorem idxT' {xs : List D} {m : Int} (h0 : 0 ≤ m) (h1 : m < 4611686018427387904) : idxD (.tup xs) (.int m) = xs[m.toNat]? := by
  have := idxT (xs := xs) m.toNat (by omega)
  rwa [Int.toNat_of_nonneg h0] at this
def pick (l : List Int) (m : Int) : Int := l[m.toNat]?.getD 0
theorem idxPick (l : List Int) {m : Int} (h0 : 0 ≤ m) (h1 : m < l.length) (h2 : l.length < 1000) : idxD (.tup (l.map .int)) (.int m) = some (.int (pick l m)) := by
  rw [idxT' h0 (by omega), List.getElem?_map]
  have : m.toNat < l.length := by omega
  rw [pick, List.getElem?_eq_getElem this]
  rfl
theorem pick_mem {l : List Int} {m : Int} (h0 : 0 ≤ m) (h1 : m < l.length) : pick l m ∈ l := by
  have : m.toNat < l.length := by omega
  rw [pick, List.getElem?_eq_getElem this]
  exact List.getElem_mem _
theorem rng1_int {b : Int} (h : -4611686018427387904 ≤ b) (h2 : b < 4611686018427387904) : rng1 (.int b) = some ((rangeZ 0 b.toNat).map .int) := by
  rw [rng1, rngOk_of h h2, if_pos rfl, rngFrom_ints]
theorem rng2_int {a b : Int} (h : -4611686018427387904 ≤ a) (h2 : a < 4611686018427387904) (h3 : -4611686018427387904 ≤ b) (h4 : b < 4611686018427387904) : rng2 (.int a) (.int b) = some ((rangeZ a (b - a).toNat).map .int) := by
  rw [rng2, rngOk_of h h2, rngOk_of h3 h4, rngFrom_ints]; rfl
theorem lcL_filterD {f : D → Store → Res (Option D)} {p : D → Bool} {s : Store} {l : List D} (h : ∀ x ∈ l, f x s = .ok (if p x then some x else none) s) (hl : l.length ≤ LIM) : lcL f l [] s = .ok (l.filter p) s := by
  have := lcL_filter (e := id) (f := f) (p := p) (g := id) (s := s) (l := l) h hl
  simpa using this
theorem neVal_of {a b : D} {t : Bool} (h : eqD a b = some t) : neVal a b = some (.bl (!t)) := by rw [neVal, h]; rfl
/-! ### sorted lists -/
section
variable {α : Type} [LT α] [DecidableLT α]
class TotO (α : Type) [LT α] : Prop where
  trans : ∀ a b c : α, ¬ b < a → ¬ c < b → ¬ c < a
  total : ∀ a b : α, ¬ b < a ∨ ¬ a < b
  anti : ∀ a b : α, ¬ b < a → ¬ a < b → a = b
instance : TotO Int := ⟨fun a b c => by omega, fun a b => by omega, fun a b => by omega⟩
theorem cons_nlt {α : Type} [LT α] {a b : α} {l m : List α} : ¬ (a :: l < b :: m) ↔ ¬ a < b ∧ (a = b → ¬ l < m) := by
  rw [List.cons_lt_cons_iff]
  constructor
  · intro h; exact ⟨fun q => h (.inl q), fun q r => h (.inr ⟨q, r⟩)⟩
  · rintro ⟨h1, h2⟩ (h | ⟨h, h3⟩)
    · exact h1 h
    · exact h2 h h3
instance {α : Type} [LT α] [i : TotO α] : TotO (List α) where
  trans := by
    intro a
    induction a with
    | nil => intro b c _ _ h; exact absurd h (List.not_lt_nil _)
    | cons x a ih =>
      intro b c h1 h2
      cases b with
      | nil => exact absurd (List.nil_lt_cons _ _) h1
      | cons y b =>
        cases c with
        | nil => exact absurd (List.nil_lt_cons _ _) h2
        | cons z c =>
          rw [cons_nlt] at h1 h2 ⊢
          refine ⟨i.trans _ _ _ h1.1 h2.1, fun e => ?_⟩
          subst e
          have e2 : y = z := i.anti y z h2.1 h1.1
          subst e2
          exact ih _ _ (h1.2 rfl) (h2.2 rfl)
  total := by
    intro a
    induction a with
    | nil => intro b; exact .inl (List.not_lt_nil _)
    | cons x a ih =>
      intro b
      cases b with
      | nil => exact .inr (List.not_lt_nil _)
      | cons y b =>
        rw [cons_nlt, cons_nlt]
        rcases i.total x y with h | h
        · by_cases e : y < x
          · exact absurd e h
          · by_cases e2 : x < y
            · exact .inl ⟨h, fun q => by subst q; exact absurd e2 h⟩
            · rcases ih b with h3 | h3
              · exact .inl ⟨h, fun _ => h3⟩
              · exact .inr ⟨e2, fun _ => h3⟩
        · by_cases e2 : y < x
          · exact .inr ⟨h, fun q => by subst q; exact absurd e2 h⟩
          · rcases ih b with h3 | h3
            · exact .inl ⟨e2, fun _ => h3⟩
            · exact .inr ⟨h, fun _ => h3⟩
  anti := by
    intro a
    induction a with
    | nil =>
      intro b h1 h2
      cases b with
      | nil => rfl
      | cons y b => exact absurd (List.nil_lt_cons _ _) h2
    | cons x a ih =>
      intro b h1 h2
      cases b with
      | nil => exact absurd (List.nil_lt_cons _ _) h1
      | cons y b =>
        rw [cons_nlt] at h1 h2
        have e := i.anti x y h1.1 h2.1
        subst e
        rw [ih b (h1.2 rfl) (h2.2 rfl)]
theorem leB_iff {a b : α} : leB a b = true ↔ ¬ b < a := by simp [leB]
theorem sort_pair [i : TotO α] (l : List α) : (l.mergeSort leB).Pairwise (fun a b => leB a b = true) := by
  refine List.pairwise_mergeSort (fun a b c h1 h2 => ?_) (fun a b => ?_) l
  · rw [leB_iff] at h1 h2 ⊢; exact i.trans a b c h1 h2
  · rw [Bool.or_eq_true, leB_iff, leB_iff]; exact i.total a b
theorem sort_perm [i : TotO α] {l l' : List α} (h : l.Perm l') : l.mergeSort leB = l'.mergeSort leB := by
  refine List.Perm.eq_of_pairwise (le := fun a b => leB a b = true) (fun a b _ _ h1 h2 => ?_) (sort_pair l) (sort_pair l') (((List.mergeSort_perm l leB).trans h).trans (List.mergeSort_perm l' leB).symm)
  rw [leB_iff] at h1 h2; exact i.anti a b h1 h2
theorem sort_self [i : TotO α] (l : List α) : (l.mergeSort leB).mergeSort leB = l.mergeSort leB := List.mergeSort_of_pairwise (sort_pair l)
end
theorem idxL' {xs : List D} {m : Int} (h0 : 0 ≤ m) (h1 : m < 4611686018427387904) : idxD (.lst xs) (.int m) = xs[m.toNat]? := by
  have := idxL (xs := xs) m.toNat (by omega)
  rwa [Int.toNat_of_nonneg h0] at this
theorem idxPickL (l : List Int) {m : Int} (h0 : 0 ≤ m) (h1 : m < l.length) (h2 : l.length < 1000) : idxD (.lst (l.map .int)) (.int m) = some (.int (pick l m)) := by
  rw [idxL' h0 (by omega), List.getElem?_map]
  have : m.toNat < l.length := by omega
  rw [pick, List.getElem?_eq_getElem this]
  rfl
/-! parts of a code -/
def loopB : Nt.PS → Nt.PSs
  | .for_ _ _ b => b
  | .whl _ b => b
  | _ => .nil
def nthS : Nat → Nt.PSs → Nt.PS
  | _, .nil => .pass
  | 0, .cons p _ => p
  | n + 1, .cons _ ps => nthS n ps
def dropS : Nat → Nt.PSs → Nt.PSs
  | 0, ps => ps
  | _ + 1, .nil => .nil
  | n + 1, .cons _ ps => dropS n ps
theorem Nxt_ite {c : Prop} [Decidable c] {a b : Out} {P : Env → Store → Prop} (h1 : c → Nxt a P) (h2 : ¬ c → Nxt b P) : Nxt (if c then a else b) P := by
  split
  · exact h1 ‹_›
  · exact h2 ‹_›
theorem run_fin {G : Glob} {T : Table} {n f : Nat} {d : Def} {as : List Arg} {v : D} (hT : T f = some (.code d)) (hp : as.length = d.params)
    (h : Fin (execs G (run G T n) d.body (startE d.slots as) []) v) : ∃ s, run G T (n + 1) f as [] = .ok v s := by
  obtain ⟨s', h⟩ := h
  refine ⟨s', ?_⟩
  simp only [run, hT, runDef, hp, if_true]
  exact h
theorem ixN_nat {n k : Nat} (h : k < n) : ixN n (k : Int) = some k := by simp [ixN, h]
/-- a loop, its items one by one, with what comes behind -/
def fl (G : Glob) (C : Calls) (f : D → Env → Store → Out) (o : Out) (xs : List D) (ps : Nt.PSs) : Out := sq G C (o.then fun e s => forL f xs e s) ps
theorem fl_nx {G : Glob} {C : Calls} {f : D → Env → Store → Out} {e : Env} {s : Store} {xs : List D} {ps : Nt.PSs} : fl G C f (.nx e s) xs ps = sq G C (forL f xs e s) ps := (rfl)
theorem fl_rt {G : Glob} {C : Calls} {f : D → Env → Store → Out} {d : D} {s : Store} {xs : List D} {ps : Nt.PSs} : fl G C f (.rt d s) xs ps = .rt d s := (rfl)
theorem fl_exc {G : Glob} {C : Calls} {f : D → Env → Store → Out} {c : Nat} {s : Store} {xs : List D} {ps : Nt.PSs} : fl G C f (.exc c s) xs ps = .exc c s := (rfl)
theorem sq_cons {G : Glob} {C : Calls} {f : D → Env → Store → Out} {e : Env} {s : Store} {x : D} {xs : List D} {ps : Nt.PSs} : sq G C (forL f (x :: xs) e s) ps = fl G C f (f x e s) xs ps := (rfl)
theorem sq_nil {G : Glob} {C : Calls} {f : D → Env → Store → Out} {e : Env} {s : Store} {ps : Nt.PSs} : sq G C (forL f [] e s) ps = execs G C ps e s := (rfl)
end Nt
set_option autoImplicit false
set_option linter.all false
set_option maxRecDepth 10000
/-! S1: cell, mix; grids -/
namespace Nt
variable {G : Glob} {T : Table} {n : Nat}
abbrev tupI (l : List Int) : D := .tup (l.map .int)
abbrev tupN (l : List (List Int)) : D := .tup (l.map tupI)
theorem eqD_tI (a b : List Int) : eqD (tupI a) (tupI b) = some (decide (a = b)) := eqD_enc (α := List Int) (by decide) a b
theorem eqD_tN (a b : List (List Int)) : eqD (tupN a) (tupN b) = some (decide (a = b)) := eqD_enc (α := List (List Int)) (by decide) a b
theorem plain_int (a : Int) : plainN DEP (.int a) = true := rfl
theorem plain_tI (a : List Int) : plainN DEP (tupI a) = true := plain_enc (α := List Int) (by decide) a
theorem plain_tN (a : List (List Int)) : plainN DEP (tupN a) = true := plain_enc (α := List (List Int)) (by decide) a
theorem eqD_int (a b : Int) : eqD (.int a) (.int b) = some (decide (a = b)) := eqD_enc (α := Int) (by decide) a b
theorem add_tupI {a b : List Int} (h : a.length + b.length ≤ LIM) : addD (.tup (a.map .int)) (.tup (b.map .int)) = some (.tup ((a ++ b).map .int)) := by
  rw [add_tup, List.length_map, List.length_map, if_pos h, List.map_append]
theorem add_map {α : Type} {f : α → D} {a b : List α} (h : a.length + b.length ≤ LIM) : addD (.tup (a.map f)) (.tup (b.map f)) = some (.tup ((a ++ b).map f)) := by
  rw [add_tup, List.length_map, List.length_map, if_pos h, List.map_append]
theorem addl_map {α : Type} {f : α → D} {a b : List α} (h : a.length + b.length ≤ LIM) : addD (.lst (a.map f)) (.lst (b.map f)) = some (.lst ((a ++ b).map f)) := by
  rw [add_lst, List.length_map, List.length_map, if_pos h, List.map_append]
/-! ### cell, mix -/
def cell (ns : List Int) (k : Nat) : Int := ns[k]?.getD 0
theorem cellS {f : Nat} (hT : T f = some (.code c__law_cell)) (ns : List Int) (k : Int) (s : Store) (h0 : 0 ≤ k) (h1 : k < 1000) :
    callOf (run G T (n + 1)) f [.val (.scr ns), .val (.int k)] s = .ok (.int (cell ns k.toNat)) s := by
  refine callOf_ok hT rfl rfl ?_
  simp only [c__law_cell, Def.body, Def.slots, Def.params, startE, List.map_cons, List.map_nil, List.cons_append, List.nil_append, List.append_nil, List.reduceReplicate, List.length_cons, List.length_nil, Nat.reduceAdd, Nat.reduceSub, Nat.reduceLT, Nat.reduceLeDiff, Nat.zero_add, execs_nil, execs_cons, sq_nx, sq_rt, sq_exc, sq_stuck, bE_ok, bE_exc, bEs_ok, bEs_exc, bA_ok, bA_exc, bE2_ok, kAnd_ok, kOr_ok, kIf_ok, kIfS_ok, kIfS_exc, kCh_ok, kCh2_ok, kBand_ok, kBor_ok, kSl_ok, kSl2_ok, evEs_nil, evEs_cons, evA_nil, evA_val, evT_and, evT_or, evT_not, evT_v, evT_yes, evI_of, evI_rng1, evI_rng2, evI_enum, evI_zip2, evI_zip3, dsp_some, evE_cst, evE_gl, evE_inR, inR_int, evEvar, evE_peek, gv_val, gp_own, evE_tup, evE_lst, evE_o1, evE_o2, evE_o3, evE_dct, evE_chain, chn_bl, evE_band, bnd_bl, evE_bor, bor_bl, evE_bnot, evE_ifx, evE_slc, evE_call, evE_lc, exec_asg, exec_par, prO_some, exec_own, exec_app, apO_own, exec_ext, exO_lst, exec_seti, stO_own, poO_some, exec_ifs, exec_for, exec_whl, exec_ret, exec_retN, exec_ex, exec_raise, exec_pass, exec_kill, exec_freeze, exec_try, tryO_nx, tryO_rt, tryO_1, tryO_2, tryO_3, tryO_4, tryO_5, tryO_6, fzO_lst, fzO_dct, bindT_v, bindT_tup, bindT_lst, bindTs_nil, bindTs_cons, add_int, sub_int, mul_int, fdiv_int, mod_int, cmp_int, cmp_str, truth_non, truth_bl, truth_int, truth_tup, truth_lst, gI_non, gI_int, items_tup, items_lst, items_str, zipOf_tup, zipOf_lst, zip3_tup, zipD_map, ixT0, ixT1, ixT2, ixT3, ixT4, ixL0, ixL1, slT_n2, slT_n3, slT_1n, slT_2n, slT_3n, slT_m1, o2_add, o2_sub, o2_mul, o2_fdiv, o2_mod, o2_eq, o2_ne, o2_lt, o2_le, o2_gt, o2_ge, o2_inn, o2_notin, o2_idx, o2_max, o2_min, o1_neg, o1_len, len_tup, len_lst, len_dct, len_scr, o1_tuple_tup, o1_tuple_lst, o1_list_tup, o1_list_lst, o1_list_dct, o1_sorted_tup, o1_sorted_lst, o1_all, o1_abs, o1_int_int, o1_int_bl, o1_rev_tup, o1_rev_lst, o1_isTrue, o1_notTrue, o1_isFalse, o1_notFalse, setE, storeP, thaw, rdO, ofE_some, ofE_none, bind_ok, bind_exc, bind_stuck, nox_ok, of_some, of_none, out_ok, out_exc, out_stuck, then_nx, then_rt, then_exc, then_stuck, Fin_rt, Fin_nx, FinX_exc, Nxt_nx, List.getElem?_cons_zero, List.getElem?_cons_succ, List.set_cons_zero, List.set_cons_succ, wipeE, Option.bind_some, Option.bind_none, Option.map_some, Option.map_none, Option.some.injEq, isNonE, ite_ok, ite_int, ite_bl, Bool.if_true_left, Bool.if_false_right, Bool.if_true_right, Bool.if_false_left, if_true, if_false, Bool.false_eq_true, Bool.true_eq_false, reduceIte, ite_true, ite_false, decide_eq_true_eq, decide_true, decide_false, Bool.not_true, Bool.not_false, Bool.and_true, Bool.true_and, Bool.and_false, Bool.false_and, Bool.not_eq_true', decide_eq_false_iff_not, Bool.decide_eq_true, lenD]
  by_cases h : k < ns.length
  · have e1 : ixOk k = true := ixOk_of (by omega) (by omega)
    have e2 : k.toNat < ns.length := by omega
    simp only [h, Def.body, Def.slots, Def.params, startE, List.map_cons, List.map_nil, List.cons_append, List.nil_append, List.append_nil, List.reduceReplicate, List.length_cons, List.length_nil, Nat.reduceAdd, Nat.reduceSub, Nat.reduceLT, Nat.reduceLeDiff, Nat.zero_add, execs_nil, execs_cons, sq_nx, sq_rt, sq_exc, sq_stuck, bE_ok, bE_exc, bEs_ok, bEs_exc, bA_ok, bA_exc, bE2_ok, kAnd_ok, kOr_ok, kIf_ok, kIfS_ok, kIfS_exc, kCh_ok, kCh2_ok, kBand_ok, kBor_ok, kSl_ok, kSl2_ok, evEs_nil, evEs_cons, evA_nil, evA_val, evT_and, evT_or, evT_not, evT_v, evT_yes, evI_of, evI_rng1, evI_rng2, evI_enum, evI_zip2, evI_zip3, dsp_some, evE_cst, evE_gl, evE_inR, inR_int, evEvar, evE_peek, gv_val, gp_own, evE_tup, evE_lst, evE_o1, evE_o2, evE_o3, evE_dct, evE_chain, chn_bl, evE_band, bnd_bl, evE_bor, bor_bl, evE_bnot, evE_ifx, evE_slc, evE_call, evE_lc, exec_asg, exec_par, prO_some, exec_own, exec_app, apO_own, exec_ext, exO_lst, exec_seti, stO_own, poO_some, exec_ifs, exec_for, exec_whl, exec_ret, exec_retN, exec_ex, exec_raise, exec_pass, exec_kill, exec_freeze, exec_try, tryO_nx, tryO_rt, tryO_1, tryO_2, tryO_3, tryO_4, tryO_5, tryO_6, fzO_lst, fzO_dct, bindT_v, bindT_tup, bindT_lst, bindTs_nil, bindTs_cons, add_int, sub_int, mul_int, fdiv_int, mod_int, cmp_int, cmp_str, truth_non, truth_bl, truth_int, truth_tup, truth_lst, gI_non, gI_int, items_tup, items_lst, items_str, zipOf_tup, zipOf_lst, zip3_tup, zipD_map, ixT0, ixT1, ixT2, ixT3, ixT4, ixL0, ixL1, slT_n2, slT_n3, slT_1n, slT_2n, slT_3n, slT_m1, o2_add, o2_sub, o2_mul, o2_fdiv, o2_mod, o2_eq, o2_ne, o2_lt, o2_le, o2_gt, o2_ge, o2_inn, o2_notin, o2_idx, o2_max, o2_min, o1_neg, o1_len, len_tup, len_lst, len_dct, len_scr, o1_tuple_tup, o1_tuple_lst, o1_list_tup, o1_list_lst, o1_list_dct, o1_sorted_tup, o1_sorted_lst, o1_all, o1_abs, o1_int_int, o1_int_bl, o1_rev_tup, o1_rev_lst, o1_isTrue, o1_notTrue, o1_isFalse, o1_notFalse, setE, storeP, thaw, rdO, ofE_some, ofE_none, bind_ok, bind_exc, bind_stuck, nox_ok, of_some, of_none, out_ok, out_exc, out_stuck, then_nx, then_rt, then_exc, then_stuck, Fin_rt, Fin_nx, FinX_exc, Nxt_nx, List.getElem?_cons_zero, List.getElem?_cons_succ, List.set_cons_zero, List.set_cons_succ, wipeE, Option.bind_some, Option.bind_none, Option.map_some, Option.map_none, Option.some.injEq, isNonE, ite_ok, ite_int, ite_bl, Bool.if_true_left, Bool.if_false_right, Bool.if_true_right, Bool.if_false_left, if_true, if_false, Bool.false_eq_true, Bool.true_eq_false, reduceIte, ite_true, ite_false, decide_eq_true_eq, decide_true, decide_false, Bool.not_true, Bool.not_false, Bool.and_true, Bool.true_and, Bool.and_false, Bool.false_and, Bool.not_eq_true', decide_eq_false_iff_not, Bool.decide_eq_true, idxD, e1, atI, ixN, h0, e2, List.getElem?_eq_getElem, cell, Option.getD_some]
  · have e2 : ¬ k.toNat < ns.length := by omega
    simp only [h, Def.body, Def.slots, Def.params, startE, List.map_cons, List.map_nil, List.cons_append, List.nil_append, List.append_nil, List.reduceReplicate, List.length_cons, List.length_nil, Nat.reduceAdd, Nat.reduceSub, Nat.reduceLT, Nat.reduceLeDiff, Nat.zero_add, execs_nil, execs_cons, sq_nx, sq_rt, sq_exc, sq_stuck, bE_ok, bE_exc, bEs_ok, bEs_exc, bA_ok, bA_exc, bE2_ok, kAnd_ok, kOr_ok, kIf_ok, kIfS_ok, kIfS_exc, kCh_ok, kCh2_ok, kBand_ok, kBor_ok, kSl_ok, kSl2_ok, evEs_nil, evEs_cons, evA_nil, evA_val, evT_and, evT_or, evT_not, evT_v, evT_yes, evI_of, evI_rng1, evI_rng2, evI_enum, evI_zip2, evI_zip3, dsp_some, evE_cst, evE_gl, evE_inR, inR_int, evEvar, evE_peek, gv_val, gp_own, evE_tup, evE_lst, evE_o1, evE_o2, evE_o3, evE_dct, evE_chain, chn_bl, evE_band, bnd_bl, evE_bor, bor_bl, evE_bnot, evE_ifx, evE_slc, evE_call, evE_lc, exec_asg, exec_par, prO_some, exec_own, exec_app, apO_own, exec_ext, exO_lst, exec_seti, stO_own, poO_some, exec_ifs, exec_for, exec_whl, exec_ret, exec_retN, exec_ex, exec_raise, exec_pass, exec_kill, exec_freeze, exec_try, tryO_nx, tryO_rt, tryO_1, tryO_2, tryO_3, tryO_4, tryO_5, tryO_6, fzO_lst, fzO_dct, bindT_v, bindT_tup, bindT_lst, bindTs_nil, bindTs_cons, add_int, sub_int, mul_int, fdiv_int, mod_int, cmp_int, cmp_str, truth_non, truth_bl, truth_int, truth_tup, truth_lst, gI_non, gI_int, items_tup, items_lst, items_str, zipOf_tup, zipOf_lst, zip3_tup, zipD_map, ixT0, ixT1, ixT2, ixT3, ixT4, ixL0, ixL1, slT_n2, slT_n3, slT_1n, slT_2n, slT_3n, slT_m1, o2_add, o2_sub, o2_mul, o2_fdiv, o2_mod, o2_eq, o2_ne, o2_lt, o2_le, o2_gt, o2_ge, o2_inn, o2_notin, o2_idx, o2_max, o2_min, o1_neg, o1_len, len_tup, len_lst, len_dct, len_scr, o1_tuple_tup, o1_tuple_lst, o1_list_tup, o1_list_lst, o1_list_dct, o1_sorted_tup, o1_sorted_lst, o1_all, o1_abs, o1_int_int, o1_int_bl, o1_rev_tup, o1_rev_lst, o1_isTrue, o1_notTrue, o1_isFalse, o1_notFalse, setE, storeP, thaw, rdO, ofE_some, ofE_none, bind_ok, bind_exc, bind_stuck, nox_ok, of_some, of_none, out_ok, out_exc, out_stuck, then_nx, then_rt, then_exc, then_stuck, Fin_rt, Fin_nx, FinX_exc, Nxt_nx, List.getElem?_cons_zero, List.getElem?_cons_succ, List.set_cons_zero, List.set_cons_succ, wipeE, Option.bind_some, Option.bind_none, Option.map_some, Option.map_none, Option.some.injEq, isNonE, ite_ok, ite_int, ite_bl, Bool.if_true_left, Bool.if_false_right, Bool.if_true_right, Bool.if_false_left, if_true, if_false, Bool.false_eq_true, Bool.true_eq_false, reduceIte, ite_true, ite_false, decide_eq_true_eq, decide_true, decide_false, Bool.not_true, Bool.not_false, Bool.and_true, Bool.true_and, Bool.and_false, Bool.false_and, Bool.not_eq_true', decide_eq_false_iff_not, Bool.decide_eq_true, cell, List.getElem?_eq_none (by omega : ns.length ≤ k.toNat), Option.getD_none]
def mix (c p m : Int) : Int := c * 48271 % p * (c * 48271 % p + 7) % p % m
theorem mixS {f : Nat} (hT : T f = some (.code c__law_mix)) (c p m : Int) (s : Store) (h0 : 0 < p) (h1 : p < 18446744073709551616) (h2 : 0 < m) (h3 : m < 18446744073709551616) :
    callOf (run G T (n + 1)) f [.val (.int c), .val (.int p), .val (.int m)] s = .ok (.int (mix c p m)) s := by
  refine callOf_ok hT rfl rfl ?_
  have hp := divOk_of h0 h1
  have hm := divOk_of h2 h3
  have e1 : mulOk c 48271 = true := mulOk_right (by decide) (by decide)
  have b1 := Int.emod_nonneg (c * 48271) (b := p) (by omega)
  have b2 := Int.emod_lt_of_pos (c * 48271) h0
  have e2 : mulOk (c * 48271 % p) (c * 48271 % p + 7) = true := mulOk_left (by omega) (by omega)
  simp only [c__law_mix, Def.body, Def.slots, Def.params, startE, List.map_cons, List.map_nil, List.cons_append, List.nil_append, List.append_nil, List.reduceReplicate, List.length_cons, List.length_nil, Nat.reduceAdd, Nat.reduceSub, Nat.reduceLT, Nat.reduceLeDiff, Nat.zero_add, execs_nil, execs_cons, sq_nx, sq_rt, sq_exc, sq_stuck, bE_ok, bE_exc, bEs_ok, bEs_exc, bA_ok, bA_exc, bE2_ok, kAnd_ok, kOr_ok, kIf_ok, kIfS_ok, kIfS_exc, kCh_ok, kCh2_ok, kBand_ok, kBor_ok, kSl_ok, kSl2_ok, evEs_nil, evEs_cons, evA_nil, evA_val, evT_and, evT_or, evT_not, evT_v, evT_yes, evI_of, evI_rng1, evI_rng2, evI_enum, evI_zip2, evI_zip3, dsp_some, evE_cst, evE_gl, evE_inR, inR_int, evEvar, evE_peek, gv_val, gp_own, evE_tup, evE_lst, evE_o1, evE_o2, evE_o3, evE_dct, evE_chain, chn_bl, evE_band, bnd_bl, evE_bor, bor_bl, evE_bnot, evE_ifx, evE_slc, evE_call, evE_lc, exec_asg, exec_par, prO_some, exec_own, exec_app, apO_own, exec_ext, exO_lst, exec_seti, stO_own, poO_some, exec_ifs, exec_for, exec_whl, exec_ret, exec_retN, exec_ex, exec_raise, exec_pass, exec_kill, exec_freeze, exec_try, tryO_nx, tryO_rt, tryO_1, tryO_2, tryO_3, tryO_4, tryO_5, tryO_6, fzO_lst, fzO_dct, bindT_v, bindT_tup, bindT_lst, bindTs_nil, bindTs_cons, add_int, sub_int, mul_int, fdiv_int, mod_int, cmp_int, cmp_str, truth_non, truth_bl, truth_int, truth_tup, truth_lst, gI_non, gI_int, items_tup, items_lst, items_str, zipOf_tup, zipOf_lst, zip3_tup, zipD_map, ixT0, ixT1, ixT2, ixT3, ixT4, ixL0, ixL1, slT_n2, slT_n3, slT_1n, slT_2n, slT_3n, slT_m1, o2_add, o2_sub, o2_mul, o2_fdiv, o2_mod, o2_eq, o2_ne, o2_lt, o2_le, o2_gt, o2_ge, o2_inn, o2_notin, o2_idx, o2_max, o2_min, o1_neg, o1_len, len_tup, len_lst, len_dct, len_scr, o1_tuple_tup, o1_tuple_lst, o1_list_tup, o1_list_lst, o1_list_dct, o1_sorted_tup, o1_sorted_lst, o1_all, o1_abs, o1_int_int, o1_int_bl, o1_rev_tup, o1_rev_lst, o1_isTrue, o1_notTrue, o1_isFalse, o1_notFalse, setE, storeP, thaw, rdO, ofE_some, ofE_none, bind_ok, bind_exc, bind_stuck, nox_ok, of_some, of_none, out_ok, out_exc, out_stuck, then_nx, then_rt, then_exc, then_stuck, Fin_rt, Fin_nx, FinX_exc, Nxt_nx, List.getElem?_cons_zero, List.getElem?_cons_succ, List.set_cons_zero, List.set_cons_succ, wipeE, Option.bind_some, Option.bind_none, Option.map_some, Option.map_none, Option.some.injEq, isNonE, ite_ok, ite_int, ite_bl, Bool.if_true_left, Bool.if_false_right, Bool.if_true_right, Bool.if_false_left, if_true, if_false, Bool.false_eq_true, Bool.true_eq_false, reduceIte, ite_true, ite_false, decide_eq_true_eq, decide_true, decide_false, Bool.not_true, Bool.not_false, Bool.and_true, Bool.true_and, Bool.and_false, Bool.false_and, Bool.not_eq_true', decide_eq_false_iff_not, Bool.decide_eq_true, hp, hm, e1, e2, mix]
theorem mix_nonneg (c p m : Int) (h : 0 < m) : 0 ≤ mix c p m := Int.emod_nonneg _ (by omega)
theorem mix_lt (c p m : Int) (h : 0 < m) : mix c p m < m := Int.emod_lt_of_pos _ h
/-! ### grids -/
theorem mustS {f : Nat} (hT : T f = some (.code c_must)) (s : Store) : callOf (run G T (n + 1)) f [.val (.bl true)] s = .ok .non s := by
  refine callOf_ok hT rfl rfl ?_
  simp only [c_must, Def.body, Def.slots, Def.params, startE, List.map_cons, List.map_nil, List.cons_append, List.nil_append, List.append_nil, List.reduceReplicate, List.length_cons, List.length_nil, Nat.reduceAdd, Nat.reduceSub, Nat.reduceLT, Nat.reduceLeDiff, Nat.zero_add, execs_nil, execs_cons, sq_nx, sq_rt, sq_exc, sq_stuck, bE_ok, bE_exc, bEs_ok, bEs_exc, bA_ok, bA_exc, bE2_ok, kAnd_ok, kOr_ok, kIf_ok, kIfS_ok, kIfS_exc, kCh_ok, kCh2_ok, kBand_ok, kBor_ok, kSl_ok, kSl2_ok, evEs_nil, evEs_cons, evA_nil, evA_val, evT_and, evT_or, evT_not, evT_v, evT_yes, evI_of, evI_rng1, evI_rng2, evI_enum, evI_zip2, evI_zip3, dsp_some, evE_cst, evE_gl, evE_inR, inR_int, evEvar, evE_peek, gv_val, gp_own, evE_tup, evE_lst, evE_o1, evE_o2, evE_o3, evE_dct, evE_chain, chn_bl, evE_band, bnd_bl, evE_bor, bor_bl, evE_bnot, evE_ifx, evE_slc, evE_call, evE_lc, exec_asg, exec_par, prO_some, exec_own, exec_app, apO_own, exec_ext, exO_lst, exec_seti, stO_own, poO_some, exec_ifs, exec_for, exec_whl, exec_ret, exec_retN, exec_ex, exec_raise, exec_pass, exec_kill, exec_freeze, exec_try, tryO_nx, tryO_rt, tryO_1, tryO_2, tryO_3, tryO_4, tryO_5, tryO_6, fzO_lst, fzO_dct, bindT_v, bindT_tup, bindT_lst, bindTs_nil, bindTs_cons, add_int, sub_int, mul_int, fdiv_int, mod_int, cmp_int, cmp_str, truth_non, truth_bl, truth_int, truth_tup, truth_lst, gI_non, gI_int, items_tup, items_lst, items_str, zipOf_tup, zipOf_lst, zip3_tup, zipD_map, ixT0, ixT1, ixT2, ixT3, ixT4, ixL0, ixL1, slT_n2, slT_n3, slT_1n, slT_2n, slT_3n, slT_m1, o2_add, o2_sub, o2_mul, o2_fdiv, o2_mod, o2_eq, o2_ne, o2_lt, o2_le, o2_gt, o2_ge, o2_inn, o2_notin, o2_idx, o2_max, o2_min, o1_neg, o1_len, len_tup, len_lst, len_dct, len_scr, o1_tuple_tup, o1_tuple_lst, o1_list_tup, o1_list_lst, o1_list_dct, o1_sorted_tup, o1_sorted_lst, o1_all, o1_abs, o1_int_int, o1_int_bl, o1_rev_tup, o1_rev_lst, o1_isTrue, o1_notTrue, o1_isFalse, o1_notFalse, setE, storeP, thaw, rdO, ofE_some, ofE_none, bind_ok, bind_exc, bind_stuck, nox_ok, of_some, of_none, out_ok, out_exc, out_stuck, then_nx, then_rt, then_exc, then_stuck, Fin_rt, Fin_nx, FinX_exc, Nxt_nx, List.getElem?_cons_zero, List.getElem?_cons_succ, List.set_cons_zero, List.set_cons_succ, wipeE, Option.bind_some, Option.bind_none, Option.map_some, Option.map_none, Option.some.injEq, isNonE, ite_ok, ite_int, ite_bl, Bool.if_true_left, Bool.if_false_right, Bool.if_true_right, Bool.if_false_left, if_true, if_false, Bool.false_eq_true, Bool.true_eq_false, reduceIte, ite_true, ite_false, decide_eq_true_eq, decide_true, decide_false, Bool.not_true, Bool.not_false, Bool.and_true, Bool.true_and, Bool.and_false, Bool.false_and, Bool.not_eq_true', decide_eq_false_iff_not, Bool.decide_eq_true]
theorem mustE {f : Nat} (hT : T f = some (.code c_must)) (s : Store) : callOf (run G T (n + 1)) f [.val (.bl false)] s = .exc 1 s := by
  refine callOf_exc hT rfl rfl ?_
  simp only [c_must, Def.body, Def.slots, Def.params, startE, List.map_cons, List.map_nil, List.cons_append, List.nil_append, List.append_nil, List.reduceReplicate, List.length_cons, List.length_nil, Nat.reduceAdd, Nat.reduceSub, Nat.reduceLT, Nat.reduceLeDiff, Nat.zero_add, execs_nil, execs_cons, sq_nx, sq_rt, sq_exc, sq_stuck, bE_ok, bE_exc, bEs_ok, bEs_exc, bA_ok, bA_exc, bE2_ok, kAnd_ok, kOr_ok, kIf_ok, kIfS_ok, kIfS_exc, kCh_ok, kCh2_ok, kBand_ok, kBor_ok, kSl_ok, kSl2_ok, evEs_nil, evEs_cons, evA_nil, evA_val, evT_and, evT_or, evT_not, evT_v, evT_yes, evI_of, evI_rng1, evI_rng2, evI_enum, evI_zip2, evI_zip3, dsp_some, evE_cst, evE_gl, evE_inR, inR_int, evEvar, evE_peek, gv_val, gp_own, evE_tup, evE_lst, evE_o1, evE_o2, evE_o3, evE_dct, evE_chain, chn_bl, evE_band, bnd_bl, evE_bor, bor_bl, evE_bnot, evE_ifx, evE_slc, evE_call, evE_lc, exec_asg, exec_par, prO_some, exec_own, exec_app, apO_own, exec_ext, exO_lst, exec_seti, stO_own, poO_some, exec_ifs, exec_for, exec_whl, exec_ret, exec_retN, exec_ex, exec_raise, exec_pass, exec_kill, exec_freeze, exec_try, tryO_nx, tryO_rt, tryO_1, tryO_2, tryO_3, tryO_4, tryO_5, tryO_6, fzO_lst, fzO_dct, bindT_v, bindT_tup, bindT_lst, bindTs_nil, bindTs_cons, add_int, sub_int, mul_int, fdiv_int, mod_int, cmp_int, cmp_str, truth_non, truth_bl, truth_int, truth_tup, truth_lst, gI_non, gI_int, items_tup, items_lst, items_str, zipOf_tup, zipOf_lst, zip3_tup, zipD_map, ixT0, ixT1, ixT2, ixT3, ixT4, ixL0, ixL1, slT_n2, slT_n3, slT_1n, slT_2n, slT_3n, slT_m1, o2_add, o2_sub, o2_mul, o2_fdiv, o2_mod, o2_eq, o2_ne, o2_lt, o2_le, o2_gt, o2_ge, o2_inn, o2_notin, o2_idx, o2_max, o2_min, o1_neg, o1_len, len_tup, len_lst, len_dct, len_scr, o1_tuple_tup, o1_tuple_lst, o1_list_tup, o1_list_lst, o1_list_dct, o1_sorted_tup, o1_sorted_lst, o1_all, o1_abs, o1_int_int, o1_int_bl, o1_rev_tup, o1_rev_lst, o1_isTrue, o1_notTrue, o1_isFalse, o1_notFalse, setE, storeP, thaw, rdO, ofE_some, ofE_none, bind_ok, bind_exc, bind_stuck, nox_ok, of_some, of_none, out_ok, out_exc, out_stuck, then_nx, then_rt, then_exc, then_stuck, Fin_rt, Fin_nx, FinX_exc, Nxt_nx, List.getElem?_cons_zero, List.getElem?_cons_succ, List.set_cons_zero, List.set_cons_succ, wipeE, Option.bind_some, Option.bind_none, Option.map_some, Option.map_none, Option.some.injEq, isNonE, ite_ok, ite_int, ite_bl, Bool.if_true_left, Bool.if_false_right, Bool.if_true_right, Bool.if_false_left, if_true, if_false, Bool.false_eq_true, Bool.true_eq_false, reduceIte, ite_true, ite_false, decide_eq_true_eq, decide_true, decide_false, Bool.not_true, Bool.not_false, Bool.and_true, Bool.true_and, Bool.and_false, Bool.false_and, Bool.not_eq_true', decide_eq_false_iff_not, Bool.decide_eq_true]
def nearest (t g : Int) : Int := if t - t / g * g ≤ t / g * g + g - t then t / g * g else t / g * g + g
theorem nearestS {f : Nat} (hT : T f = some (.code c_nearest)) (t g : Int) (s : Store) (h0 : 0 < g) (h1 : g < 18446744073709551616) :
    callOf (run G T (n + 1)) f [.val (.int t), .val (.int g)] s = .ok (.int (nearest t g)) s := by
  refine callOf_ok hT rfl rfl ?_
  have hd := divOk_of h0 h1
  have hm : mulOk (t / g) g = true := mulOk_right (by omega) h1
  by_cases h : t - t / g * g ≤ t / g * g + g - t <;> simp only [c_nearest, Def.body, Def.slots, Def.params, startE, List.map_cons, List.map_nil, List.cons_append, List.nil_append, List.append_nil, List.reduceReplicate, List.length_cons, List.length_nil, Nat.reduceAdd, Nat.reduceSub, Nat.reduceLT, Nat.reduceLeDiff, Nat.zero_add, execs_nil, execs_cons, sq_nx, sq_rt, sq_exc, sq_stuck, bE_ok, bE_exc, bEs_ok, bEs_exc, bA_ok, bA_exc, bE2_ok, kAnd_ok, kOr_ok, kIf_ok, kIfS_ok, kIfS_exc, kCh_ok, kCh2_ok, kBand_ok, kBor_ok, kSl_ok, kSl2_ok, evEs_nil, evEs_cons, evA_nil, evA_val, evT_and, evT_or, evT_not, evT_v, evT_yes, evI_of, evI_rng1, evI_rng2, evI_enum, evI_zip2, evI_zip3, dsp_some, evE_cst, evE_gl, evE_inR, inR_int, evEvar, evE_peek, gv_val, gp_own, evE_tup, evE_lst, evE_o1, evE_o2, evE_o3, evE_dct, evE_chain, chn_bl, evE_band, bnd_bl, evE_bor, bor_bl, evE_bnot, evE_ifx, evE_slc, evE_call, evE_lc, exec_asg, exec_par, prO_some, exec_own, exec_app, apO_own, exec_ext, exO_lst, exec_seti, stO_own, poO_some, exec_ifs, exec_for, exec_whl, exec_ret, exec_retN, exec_ex, exec_raise, exec_pass, exec_kill, exec_freeze, exec_try, tryO_nx, tryO_rt, tryO_1, tryO_2, tryO_3, tryO_4, tryO_5, tryO_6, fzO_lst, fzO_dct, bindT_v, bindT_tup, bindT_lst, bindTs_nil, bindTs_cons, add_int, sub_int, mul_int, fdiv_int, mod_int, cmp_int, cmp_str, truth_non, truth_bl, truth_int, truth_tup, truth_lst, gI_non, gI_int, items_tup, items_lst, items_str, zipOf_tup, zipOf_lst, zip3_tup, zipD_map, ixT0, ixT1, ixT2, ixT3, ixT4, ixL0, ixL1, slT_n2, slT_n3, slT_1n, slT_2n, slT_3n, slT_m1, o2_add, o2_sub, o2_mul, o2_fdiv, o2_mod, o2_eq, o2_ne, o2_lt, o2_le, o2_gt, o2_ge, o2_inn, o2_notin, o2_idx, o2_max, o2_min, o1_neg, o1_len, len_tup, len_lst, len_dct, len_scr, o1_tuple_tup, o1_tuple_lst, o1_list_tup, o1_list_lst, o1_list_dct, o1_sorted_tup, o1_sorted_lst, o1_all, o1_abs, o1_int_int, o1_int_bl, o1_rev_tup, o1_rev_lst, o1_isTrue, o1_notTrue, o1_isFalse, o1_notFalse, setE, storeP, thaw, rdO, ofE_some, ofE_none, bind_ok, bind_exc, bind_stuck, nox_ok, of_some, of_none, out_ok, out_exc, out_stuck, then_nx, then_rt, then_exc, then_stuck, Fin_rt, Fin_nx, FinX_exc, Nxt_nx, List.getElem?_cons_zero, List.getElem?_cons_succ, List.set_cons_zero, List.set_cons_succ, wipeE, Option.bind_some, Option.bind_none, Option.map_some, Option.map_none, Option.some.injEq, isNonE, ite_ok, ite_int, ite_bl, Bool.if_true_left, Bool.if_false_right, Bool.if_true_right, Bool.if_false_left, if_true, if_false, Bool.false_eq_true, Bool.true_eq_false, reduceIte, ite_true, ite_false, decide_eq_true_eq, decide_true, decide_false, Bool.not_true, Bool.not_false, Bool.and_true, Bool.true_and, Bool.and_false, Bool.false_and, Bool.not_eq_true', decide_eq_false_iff_not, Bool.decide_eq_true, hd, hm, nearest, h]
theorem isOnS {f : Nat} (hT : T f = some (.code c_is_on)) (t g : Int) (s : Store) (h0 : 0 < g) (h1 : g < 18446744073709551616) :
    callOf (run G T (n + 1)) f [.val (.int t), .val (.int g)] s = .ok (.bl (decide (t % g = 0))) s := by
  refine callOf_ok hT rfl rfl ?_
  have hd := divOk_of h0 h1
  simp only [c_is_on, Def.body, Def.slots, Def.params, startE, List.map_cons, List.map_nil, List.cons_append, List.nil_append, List.append_nil, List.reduceReplicate, List.length_cons, List.length_nil, Nat.reduceAdd, Nat.reduceSub, Nat.reduceLT, Nat.reduceLeDiff, Nat.zero_add, execs_nil, execs_cons, sq_nx, sq_rt, sq_exc, sq_stuck, bE_ok, bE_exc, bEs_ok, bEs_exc, bA_ok, bA_exc, bE2_ok, kAnd_ok, kOr_ok, kIf_ok, kIfS_ok, kIfS_exc, kCh_ok, kCh2_ok, kBand_ok, kBor_ok, kSl_ok, kSl2_ok, evEs_nil, evEs_cons, evA_nil, evA_val, evT_and, evT_or, evT_not, evT_v, evT_yes, evI_of, evI_rng1, evI_rng2, evI_enum, evI_zip2, evI_zip3, dsp_some, evE_cst, evE_gl, evE_inR, inR_int, evEvar, evE_peek, gv_val, gp_own, evE_tup, evE_lst, evE_o1, evE_o2, evE_o3, evE_dct, evE_chain, chn_bl, evE_band, bnd_bl, evE_bor, bor_bl, evE_bnot, evE_ifx, evE_slc, evE_call, evE_lc, exec_asg, exec_par, prO_some, exec_own, exec_app, apO_own, exec_ext, exO_lst, exec_seti, stO_own, poO_some, exec_ifs, exec_for, exec_whl, exec_ret, exec_retN, exec_ex, exec_raise, exec_pass, exec_kill, exec_freeze, exec_try, tryO_nx, tryO_rt, tryO_1, tryO_2, tryO_3, tryO_4, tryO_5, tryO_6, fzO_lst, fzO_dct, bindT_v, bindT_tup, bindT_lst, bindTs_nil, bindTs_cons, add_int, sub_int, mul_int, fdiv_int, mod_int, cmp_int, cmp_str, truth_non, truth_bl, truth_int, truth_tup, truth_lst, gI_non, gI_int, items_tup, items_lst, items_str, zipOf_tup, zipOf_lst, zip3_tup, zipD_map, ixT0, ixT1, ixT2, ixT3, ixT4, ixL0, ixL1, slT_n2, slT_n3, slT_1n, slT_2n, slT_3n, slT_m1, o2_add, o2_sub, o2_mul, o2_fdiv, o2_mod, o2_eq, o2_ne, o2_lt, o2_le, o2_gt, o2_ge, o2_inn, o2_notin, o2_idx, o2_max, o2_min, o1_neg, o1_len, len_tup, len_lst, len_dct, len_scr, o1_tuple_tup, o1_tuple_lst, o1_list_tup, o1_list_lst, o1_list_dct, o1_sorted_tup, o1_sorted_lst, o1_all, o1_abs, o1_int_int, o1_int_bl, o1_rev_tup, o1_rev_lst, o1_isTrue, o1_notTrue, o1_isFalse, o1_notFalse, setE, storeP, thaw, rdO, ofE_some, ofE_none, bind_ok, bind_exc, bind_stuck, nox_ok, of_some, of_none, out_ok, out_exc, out_stuck, then_nx, then_rt, then_exc, then_stuck, Fin_rt, Fin_nx, FinX_exc, Nxt_nx, List.getElem?_cons_zero, List.getElem?_cons_succ, List.set_cons_zero, List.set_cons_succ, wipeE, Option.bind_some, Option.bind_none, Option.map_some, Option.map_none, Option.some.injEq, isNonE, ite_ok, ite_int, ite_bl, Bool.if_true_left, Bool.if_false_right, Bool.if_true_right, Bool.if_false_left, if_true, if_false, Bool.false_eq_true, Bool.true_eq_false, reduceIte, ite_true, ite_false, decide_eq_true_eq, decide_true, decide_false, Bool.not_true, Bool.not_false, Bool.and_true, Bool.true_and, Bool.and_false, Bool.false_and, Bool.not_eq_true', decide_eq_false_iff_not, Bool.decide_eq_true, hd, eqVal, eqD_int]
def iabs (a : Int) : Int := if a < 0 then -a else a
def moveOf (t g u l : Int) : Int := if nearest t g - t < 0 then 0 - iabs (nearest t g - t) * u / l else iabs (nearest t g - t) * u / l
theorem moveOfS {f f1 : Nat} (hT : T f = some (.code (c_move_of f1))) (h1 : T f1 = some (.code c_nearest)) (t g u l : Int) (s : Store) (hg : 0 < g) (hg1 : g < 18446744073709551616) (hu : 0 ≤ u) (hu1 : u < 18446744073709551616) (hl : 0 < l) (hl1 : l < 18446744073709551616) :
    callOf (run G T (n + 2)) f [.val (.int t), .val (.int g), .val (.int u), .val (.int l)] s = .ok (.int (moveOf t g u l)) s := by
  refine callOf_ok hT rfl rfl ?_
  have hd := divOk_of hl hl1
  have hm : ∀ x, mulOk x u = true := fun x => mulOk_right (by omega) hu1
  by_cases h : nearest t g - t < 0 <;> simp only [c_move_of, Def.body, Def.slots, Def.params, startE, List.map_cons, List.map_nil, List.cons_append, List.nil_append, List.append_nil, List.reduceReplicate, List.length_cons, List.length_nil, Nat.reduceAdd, Nat.reduceSub, Nat.reduceLT, Nat.reduceLeDiff, Nat.zero_add, execs_nil, execs_cons, sq_nx, sq_rt, sq_exc, sq_stuck, bE_ok, bE_exc, bEs_ok, bEs_exc, bA_ok, bA_exc, bE2_ok, kAnd_ok, kOr_ok, kIf_ok, kIfS_ok, kIfS_exc, kCh_ok, kCh2_ok, kBand_ok, kBor_ok, kSl_ok, kSl2_ok, evEs_nil, evEs_cons, evA_nil, evA_val, evT_and, evT_or, evT_not, evT_v, evT_yes, evI_of, evI_rng1, evI_rng2, evI_enum, evI_zip2, evI_zip3, dsp_some, evE_cst, evE_gl, evE_inR, inR_int, evEvar, evE_peek, gv_val, gp_own, evE_tup, evE_lst, evE_o1, evE_o2, evE_o3, evE_dct, evE_chain, chn_bl, evE_band, bnd_bl, evE_bor, bor_bl, evE_bnot, evE_ifx, evE_slc, evE_call, evE_lc, exec_asg, exec_par, prO_some, exec_own, exec_app, apO_own, exec_ext, exO_lst, exec_seti, stO_own, poO_some, exec_ifs, exec_for, exec_whl, exec_ret, exec_retN, exec_ex, exec_raise, exec_pass, exec_kill, exec_freeze, exec_try, tryO_nx, tryO_rt, tryO_1, tryO_2, tryO_3, tryO_4, tryO_5, tryO_6, fzO_lst, fzO_dct, bindT_v, bindT_tup, bindT_lst, bindTs_nil, bindTs_cons, add_int, sub_int, mul_int, fdiv_int, mod_int, cmp_int, cmp_str, truth_non, truth_bl, truth_int, truth_tup, truth_lst, gI_non, gI_int, items_tup, items_lst, items_str, zipOf_tup, zipOf_lst, zip3_tup, zipD_map, ixT0, ixT1, ixT2, ixT3, ixT4, ixL0, ixL1, slT_n2, slT_n3, slT_1n, slT_2n, slT_3n, slT_m1, o2_add, o2_sub, o2_mul, o2_fdiv, o2_mod, o2_eq, o2_ne, o2_lt, o2_le, o2_gt, o2_ge, o2_inn, o2_notin, o2_idx, o2_max, o2_min, o1_neg, o1_len, len_tup, len_lst, len_dct, len_scr, o1_tuple_tup, o1_tuple_lst, o1_list_tup, o1_list_lst, o1_list_dct, o1_sorted_tup, o1_sorted_lst, o1_all, o1_abs, o1_int_int, o1_int_bl, o1_rev_tup, o1_rev_lst, o1_isTrue, o1_notTrue, o1_isFalse, o1_notFalse, setE, storeP, thaw, rdO, ofE_some, ofE_none, bind_ok, bind_exc, bind_stuck, nox_ok, of_some, of_none, out_ok, out_exc, out_stuck, then_nx, then_rt, then_exc, then_stuck, Fin_rt, Fin_nx, FinX_exc, Nxt_nx, List.getElem?_cons_zero, List.getElem?_cons_succ, List.set_cons_zero, List.set_cons_succ, wipeE, Option.bind_some, Option.bind_none, Option.map_some, Option.map_none, Option.some.injEq, isNonE, ite_ok, ite_int, ite_bl, Bool.if_true_left, Bool.if_false_right, Bool.if_true_right, Bool.if_false_left, if_true, if_false, Bool.false_eq_true, Bool.true_eq_false, reduceIte, ite_true, ite_false, decide_eq_true_eq, decide_true, decide_false, Bool.not_true, Bool.not_false, Bool.and_true, Bool.true_and, Bool.and_false, Bool.false_and, Bool.not_eq_true', decide_eq_false_iff_not, Bool.decide_eq_true, nearestS h1 _ _ _ hg hg1, hd, hm, moveOf, iabs, h]
/-- notes: rows of numbers, none empty -/
def hd (l : List Int) : Int := l.headD 0
def NE (l : List (List Int)) : Prop := ∀ x ∈ l, x ≠ []
def moves (l : List (List Int)) (g u lo : Int) : List Int := l.map fun x => moveOf (hd x) g u lo
theorem idx0 {x : List Int} (h : x ≠ []) : idxD (.tup (x.map .int)) (.int 0) = some (.int (hd x)) := by
  cases x with
  | nil => exact absurd rfl h
  | cons a x => simp [idxD, ixOk, atI, ixN, hd]
theorem movesS {f f1 f2 : Nat} (hT : T f = some (.code (c_moves f1))) (h1 : T f1 = some (.code (c_move_of f2))) (h2 : T f2 = some (.code c_nearest)) (l : List (List Int)) (g u lo : Int) (s : Store) (hn : NE l) (hl : l.length ≤ LIM) (hg : 0 < g) (hg1 : g < 18446744073709551616) (hu : 0 ≤ u) (hu1 : u < 18446744073709551616) (hlo : 0 < lo) (hlo1 : lo < 18446744073709551616) :
    callOf (run G T (n + 3)) f [.val (tupN l), .val (.int g), .val (.int u), .val (.int lo)] s = .ok (tupI (moves l g u lo)) s := by
  refine callOf_ok hT rfl rfl ?_
  simp only [c_moves, Def.body, Def.slots, Def.params, startE, List.map_cons, List.map_nil, List.cons_append, List.nil_append, List.append_nil, List.reduceReplicate, List.length_cons, List.length_nil, Nat.reduceAdd, Nat.reduceSub, Nat.reduceLT, Nat.reduceLeDiff, Nat.zero_add, execs_nil, execs_cons, sq_nx, sq_rt, sq_exc, sq_stuck, bE_ok, bE_exc, bEs_ok, bEs_exc, bA_ok, bA_exc, bE2_ok, kAnd_ok, kOr_ok, kIf_ok, kIfS_ok, kIfS_exc, kCh_ok, kCh2_ok, kBand_ok, kBor_ok, kSl_ok, kSl2_ok, evEs_nil, evEs_cons, evA_nil, evA_val, evT_and, evT_or, evT_not, evT_v, evT_yes, evI_of, evI_rng1, evI_rng2, evI_enum, evI_zip2, evI_zip3, dsp_some, evE_cst, evE_gl, evE_inR, inR_int, evEvar, evE_peek, gv_val, gp_own, evE_tup, evE_lst, evE_o1, evE_o2, evE_o3, evE_dct, evE_chain, chn_bl, evE_band, bnd_bl, evE_bor, bor_bl, evE_bnot, evE_ifx, evE_slc, evE_call, evE_lc, exec_asg, exec_par, prO_some, exec_own, exec_app, apO_own, exec_ext, exO_lst, exec_seti, stO_own, poO_some, exec_ifs, exec_for, exec_whl, exec_ret, exec_retN, exec_ex, exec_raise, exec_pass, exec_kill, exec_freeze, exec_try, tryO_nx, tryO_rt, tryO_1, tryO_2, tryO_3, tryO_4, tryO_5, tryO_6, fzO_lst, fzO_dct, bindT_v, bindT_tup, bindT_lst, bindTs_nil, bindTs_cons, add_int, sub_int, mul_int, fdiv_int, mod_int, cmp_int, cmp_str, truth_non, truth_bl, truth_int, truth_tup, truth_lst, gI_non, gI_int, items_tup, items_lst, items_str, zipOf_tup, zipOf_lst, zip3_tup, zipD_map, ixT0, ixT1, ixT2, ixT3, ixT4, ixL0, ixL1, slT_n2, slT_n3, slT_1n, slT_2n, slT_3n, slT_m1, o2_add, o2_sub, o2_mul, o2_fdiv, o2_mod, o2_eq, o2_ne, o2_lt, o2_le, o2_gt, o2_ge, o2_inn, o2_notin, o2_idx, o2_max, o2_min, o1_neg, o1_len, len_tup, len_lst, len_dct, len_scr, o1_tuple_tup, o1_tuple_lst, o1_list_tup, o1_list_lst, o1_list_dct, o1_sorted_tup, o1_sorted_lst, o1_all, o1_abs, o1_int_int, o1_int_bl, o1_rev_tup, o1_rev_lst, o1_isTrue, o1_notTrue, o1_isFalse, o1_notFalse, setE, storeP, thaw, rdO, ofE_some, ofE_none, bind_ok, bind_exc, bind_stuck, nox_ok, of_some, of_none, out_ok, out_exc, out_stuck, then_nx, then_rt, then_exc, then_stuck, Fin_rt, Fin_nx, FinX_exc, Nxt_nx, List.getElem?_cons_zero, List.getElem?_cons_succ, List.set_cons_zero, List.set_cons_succ, wipeE, Option.bind_some, Option.bind_none, Option.map_some, Option.map_none, Option.some.injEq, isNonE, ite_ok, ite_int, ite_bl, Bool.if_true_left, Bool.if_false_right, Bool.if_true_right, Bool.if_false_left, if_true, if_false, Bool.false_eq_true, Bool.true_eq_false, reduceIte, ite_true, ite_false, decide_eq_true_eq, decide_true, decide_false, Bool.not_true, Bool.not_false, Bool.and_true, Bool.true_and, Bool.and_false, Bool.false_and, Bool.not_eq_true', decide_eq_false_iff_not, Bool.decide_eq_true]
  rw [lcL_map (e := tupI) (g := fun x => .int (moveOf (hd x) g u lo)) (fun x hx => ?_) hl]
  · simp only [Def.body, Def.slots, Def.params, startE, List.map_cons, List.map_nil, List.cons_append, List.nil_append, List.append_nil, List.reduceReplicate, List.length_cons, List.length_nil, Nat.reduceAdd, Nat.reduceSub, Nat.reduceLT, Nat.reduceLeDiff, Nat.zero_add, execs_nil, execs_cons, sq_nx, sq_rt, sq_exc, sq_stuck, bE_ok, bE_exc, bEs_ok, bEs_exc, bA_ok, bA_exc, bE2_ok, kAnd_ok, kOr_ok, kIf_ok, kIfS_ok, kIfS_exc, kCh_ok, kCh2_ok, kBand_ok, kBor_ok, kSl_ok, kSl2_ok, evEs_nil, evEs_cons, evA_nil, evA_val, evT_and, evT_or, evT_not, evT_v, evT_yes, evI_of, evI_rng1, evI_rng2, evI_enum, evI_zip2, evI_zip3, dsp_some, evE_cst, evE_gl, evE_inR, inR_int, evEvar, evE_peek, gv_val, gp_own, evE_tup, evE_lst, evE_o1, evE_o2, evE_o3, evE_dct, evE_chain, chn_bl, evE_band, bnd_bl, evE_bor, bor_bl, evE_bnot, evE_ifx, evE_slc, evE_call, evE_lc, exec_asg, exec_par, prO_some, exec_own, exec_app, apO_own, exec_ext, exO_lst, exec_seti, stO_own, poO_some, exec_ifs, exec_for, exec_whl, exec_ret, exec_retN, exec_ex, exec_raise, exec_pass, exec_kill, exec_freeze, exec_try, tryO_nx, tryO_rt, tryO_1, tryO_2, tryO_3, tryO_4, tryO_5, tryO_6, fzO_lst, fzO_dct, bindT_v, bindT_tup, bindT_lst, bindTs_nil, bindTs_cons, add_int, sub_int, mul_int, fdiv_int, mod_int, cmp_int, cmp_str, truth_non, truth_bl, truth_int, truth_tup, truth_lst, gI_non, gI_int, items_tup, items_lst, items_str, zipOf_tup, zipOf_lst, zip3_tup, zipD_map, ixT0, ixT1, ixT2, ixT3, ixT4, ixL0, ixL1, slT_n2, slT_n3, slT_1n, slT_2n, slT_3n, slT_m1, o2_add, o2_sub, o2_mul, o2_fdiv, o2_mod, o2_eq, o2_ne, o2_lt, o2_le, o2_gt, o2_ge, o2_inn, o2_notin, o2_idx, o2_max, o2_min, o1_neg, o1_len, len_tup, len_lst, len_dct, len_scr, o1_tuple_tup, o1_tuple_lst, o1_list_tup, o1_list_lst, o1_list_dct, o1_sorted_tup, o1_sorted_lst, o1_all, o1_abs, o1_int_int, o1_int_bl, o1_rev_tup, o1_rev_lst, o1_isTrue, o1_notTrue, o1_isFalse, o1_notFalse, setE, storeP, thaw, rdO, ofE_some, ofE_none, bind_ok, bind_exc, bind_stuck, nox_ok, of_some, of_none, out_ok, out_exc, out_stuck, then_nx, then_rt, then_exc, then_stuck, Fin_rt, Fin_nx, FinX_exc, Nxt_nx, List.getElem?_cons_zero, List.getElem?_cons_succ, List.set_cons_zero, List.set_cons_succ, wipeE, Option.bind_some, Option.bind_none, Option.map_some, Option.map_none, Option.some.injEq, isNonE, ite_ok, ite_int, ite_bl, Bool.if_true_left, Bool.if_false_right, Bool.if_true_right, Bool.if_false_left, if_true, if_false, Bool.false_eq_true, Bool.true_eq_false, reduceIte, ite_true, ite_false, decide_eq_true_eq, decide_true, decide_false, Bool.not_true, Bool.not_false, Bool.and_true, Bool.true_and, Bool.and_false, Bool.false_and, Bool.not_eq_true', decide_eq_false_iff_not, Bool.decide_eq_true, moves, tupI, List.map_map, Function.comp_def]
  · simp only [lcF_eq, Def.body, Def.slots, Def.params, startE, List.map_cons, List.map_nil, List.cons_append, List.nil_append, List.append_nil, List.reduceReplicate, List.length_cons, List.length_nil, Nat.reduceAdd, Nat.reduceSub, Nat.reduceLT, Nat.reduceLeDiff, Nat.zero_add, execs_nil, execs_cons, sq_nx, sq_rt, sq_exc, sq_stuck, bE_ok, bE_exc, bEs_ok, bEs_exc, bA_ok, bA_exc, bE2_ok, kAnd_ok, kOr_ok, kIf_ok, kIfS_ok, kIfS_exc, kCh_ok, kCh2_ok, kBand_ok, kBor_ok, kSl_ok, kSl2_ok, evEs_nil, evEs_cons, evA_nil, evA_val, evT_and, evT_or, evT_not, evT_v, evT_yes, evI_of, evI_rng1, evI_rng2, evI_enum, evI_zip2, evI_zip3, dsp_some, evE_cst, evE_gl, evE_inR, inR_int, evEvar, evE_peek, gv_val, gp_own, evE_tup, evE_lst, evE_o1, evE_o2, evE_o3, evE_dct, evE_chain, chn_bl, evE_band, bnd_bl, evE_bor, bor_bl, evE_bnot, evE_ifx, evE_slc, evE_call, evE_lc, exec_asg, exec_par, prO_some, exec_own, exec_app, apO_own, exec_ext, exO_lst, exec_seti, stO_own, poO_some, exec_ifs, exec_for, exec_whl, exec_ret, exec_retN, exec_ex, exec_raise, exec_pass, exec_kill, exec_freeze, exec_try, tryO_nx, tryO_rt, tryO_1, tryO_2, tryO_3, tryO_4, tryO_5, tryO_6, fzO_lst, fzO_dct, bindT_v, bindT_tup, bindT_lst, bindTs_nil, bindTs_cons, add_int, sub_int, mul_int, fdiv_int, mod_int, cmp_int, cmp_str, truth_non, truth_bl, truth_int, truth_tup, truth_lst, gI_non, gI_int, items_tup, items_lst, items_str, zipOf_tup, zipOf_lst, zip3_tup, zipD_map, ixT0, ixT1, ixT2, ixT3, ixT4, ixL0, ixL1, slT_n2, slT_n3, slT_1n, slT_2n, slT_3n, slT_m1, o2_add, o2_sub, o2_mul, o2_fdiv, o2_mod, o2_eq, o2_ne, o2_lt, o2_le, o2_gt, o2_ge, o2_inn, o2_notin, o2_idx, o2_max, o2_min, o1_neg, o1_len, len_tup, len_lst, len_dct, len_scr, o1_tuple_tup, o1_tuple_lst, o1_list_tup, o1_list_lst, o1_list_dct, o1_sorted_tup, o1_sorted_lst, o1_all, o1_abs, o1_int_int, o1_int_bl, o1_rev_tup, o1_rev_lst, o1_isTrue, o1_notTrue, o1_isFalse, o1_notFalse, setE, storeP, thaw, rdO, ofE_some, ofE_none, bind_ok, bind_exc, bind_stuck, nox_ok, of_some, of_none, out_ok, out_exc, out_stuck, then_nx, then_rt, then_exc, then_stuck, Fin_rt, Fin_nx, FinX_exc, Nxt_nx, List.getElem?_cons_zero, List.getElem?_cons_succ, List.set_cons_zero, List.set_cons_succ, wipeE, Option.bind_some, Option.bind_none, Option.map_some, Option.map_none, Option.some.injEq, isNonE, ite_ok, ite_int, ite_bl, Bool.if_true_left, Bool.if_false_right, Bool.if_true_right, Bool.if_false_left, if_true, if_false, Bool.false_eq_true, Bool.true_eq_false, reduceIte, ite_true, ite_false, decide_eq_true_eq, decide_true, decide_false, Bool.not_true, Bool.not_false, Bool.and_true, Bool.true_and, Bool.and_false, Bool.false_and, Bool.not_eq_true', decide_eq_false_iff_not, Bool.decide_eq_true, idx0 (hn x hx), moveOfS h1 h2 _ _ _ _ _ hg hg1 hu hu1 hlo hlo1]
/-! ### moved, gridded -/
theorem zip_len {α β : Type} (l : List α) (m : List β) : (l.zip m).length ≤ l.length := by rw [List.length_zip]; omega
theorem allBls_map {α : Type} (p : α → Bool) : ∀ l : List α, allBls (l.map fun x => .bl (p x)) = some (l.map p)
  | [] => rfl
  | a :: l => by simp only [List.map_cons, allBls, allBls_map p l, Option.map_some]
def movedL (l : List (List Int)) (by_ : List Int) : List (List Int) := (l.zip by_).map fun p => (hd p.1 + p.2) :: p.1.tail
theorem slc1 {x : List Int} (h : x ≠ []) : sliceD (tupI x) (.int 1) .non = some (tupI x.tail) := by
  cases x with
  | nil => exact absurd rfl h
  | cons a x =>
    have : ¬ (1 : Int) < 0 := by decide
    simp [sliceD, sliceL, sIx, ixOk, cut, tupI]
    rw [List.take_of_length_le (by simp)]
theorem zip_mem {α β : Type} {l : List α} {m : List β} {p : α × β} (h : p ∈ l.zip m) : p.1 ∈ l := (List.of_mem_zip h).1
theorem movedS {f f1 : Nat} (hT : T f = some (.code (c_moved f1))) (h1 : T f1 = some (.code c_must)) (l : List (List Int)) (b : List Int) (s : Store) (hn : NE l) (hl : l.length ≤ LIM) (hb : ∀ p ∈ l.zip b, 0 ≤ hd p.1 + p.2) (hx : ∀ x ∈ l, x.length ≤ 100) :
    callOf (run G T (n + 2)) f [.val (tupN l), .val (tupI b)] s = .ok (tupN (movedL l b)) s := by
  refine callOf_ok hT rfl rfl ?_
  have hz : (l.zip b).length ≤ LIM := Nat.le_trans (zip_len _ _) hl
  simp only [c_moved, Def.body, Def.slots, Def.params, startE, List.map_cons, List.map_nil, List.cons_append, List.nil_append, List.append_nil, List.reduceReplicate, List.length_cons, List.length_nil, Nat.reduceAdd, Nat.reduceSub, Nat.reduceLT, Nat.reduceLeDiff, Nat.zero_add, execs_nil, execs_cons, sq_nx, sq_rt, sq_exc, sq_stuck, bE_ok, bE_exc, bEs_ok, bEs_exc, bA_ok, bA_exc, bE2_ok, kAnd_ok, kOr_ok, kIf_ok, kIfS_ok, kIfS_exc, kCh_ok, kCh2_ok, kBand_ok, kBor_ok, kSl_ok, kSl2_ok, evEs_nil, evEs_cons, evA_nil, evA_val, evT_and, evT_or, evT_not, evT_v, evT_yes, evI_of, evI_rng1, evI_rng2, evI_enum, evI_zip2, evI_zip3, dsp_some, evE_cst, evE_gl, evE_inR, inR_int, evEvar, evE_peek, gv_val, gp_own, evE_tup, evE_lst, evE_o1, evE_o2, evE_o3, evE_dct, evE_chain, chn_bl, evE_band, bnd_bl, evE_bor, bor_bl, evE_bnot, evE_ifx, evE_slc, evE_call, evE_lc, exec_asg, exec_par, prO_some, exec_own, exec_app, apO_own, exec_ext, exO_lst, exec_seti, stO_own, poO_some, exec_ifs, exec_for, exec_whl, exec_ret, exec_retN, exec_ex, exec_raise, exec_pass, exec_kill, exec_freeze, exec_try, tryO_nx, tryO_rt, tryO_1, tryO_2, tryO_3, tryO_4, tryO_5, tryO_6, fzO_lst, fzO_dct, bindT_v, bindT_tup, bindT_lst, bindTs_nil, bindTs_cons, add_int, sub_int, mul_int, fdiv_int, mod_int, cmp_int, cmp_str, truth_non, truth_bl, truth_int, truth_tup, truth_lst, gI_non, gI_int, items_tup, items_lst, items_str, zipOf_tup, zipOf_lst, zip3_tup, zipD_map, ixT0, ixT1, ixT2, ixT3, ixT4, ixL0, ixL1, slT_n2, slT_n3, slT_1n, slT_2n, slT_3n, slT_m1, o2_add, o2_sub, o2_mul, o2_fdiv, o2_mod, o2_eq, o2_ne, o2_lt, o2_le, o2_gt, o2_ge, o2_inn, o2_notin, o2_idx, o2_max, o2_min, o1_neg, o1_len, len_tup, len_lst, len_dct, len_scr, o1_tuple_tup, o1_tuple_lst, o1_list_tup, o1_list_lst, o1_list_dct, o1_sorted_tup, o1_sorted_lst, o1_all, o1_abs, o1_int_int, o1_int_bl, o1_rev_tup, o1_rev_lst, o1_isTrue, o1_notTrue, o1_isFalse, o1_notFalse, setE, storeP, thaw, rdO, ofE_some, ofE_none, bind_ok, bind_exc, bind_stuck, nox_ok, of_some, of_none, out_ok, out_exc, out_stuck, then_nx, then_rt, then_exc, then_stuck, Fin_rt, Fin_nx, FinX_exc, Nxt_nx, List.getElem?_cons_zero, List.getElem?_cons_succ, List.set_cons_zero, List.set_cons_succ, wipeE, Option.bind_some, Option.bind_none, Option.map_some, Option.map_none, Option.some.injEq, isNonE, ite_ok, ite_int, ite_bl, Bool.if_true_left, Bool.if_false_right, Bool.if_true_right, Bool.if_false_left, if_true, if_false, Bool.false_eq_true, Bool.true_eq_false, reduceIte, ite_true, ite_false, decide_eq_true_eq, decide_true, decide_false, Bool.not_true, Bool.not_false, Bool.and_true, Bool.true_and, Bool.and_false, Bool.false_and, Bool.not_eq_true', decide_eq_false_iff_not, Bool.decide_eq_true, tupN, tupI]
  rw [lcL_map (g := fun p => .bl (decide (hd p.1 + p.2 ≥ 0))) (fun p hp => ?_) hz]
  · simp only [Def.body, Def.slots, Def.params, startE, List.map_cons, List.map_nil, List.cons_append, List.nil_append, List.append_nil, List.reduceReplicate, List.length_cons, List.length_nil, Nat.reduceAdd, Nat.reduceSub, Nat.reduceLT, Nat.reduceLeDiff, Nat.zero_add, execs_nil, execs_cons, sq_nx, sq_rt, sq_exc, sq_stuck, bE_ok, bE_exc, bEs_ok, bEs_exc, bA_ok, bA_exc, bE2_ok, kAnd_ok, kOr_ok, kIf_ok, kIfS_ok, kIfS_exc, kCh_ok, kCh2_ok, kBand_ok, kBor_ok, kSl_ok, kSl2_ok, evEs_nil, evEs_cons, evA_nil, evA_val, evT_and, evT_or, evT_not, evT_v, evT_yes, evI_of, evI_rng1, evI_rng2, evI_enum, evI_zip2, evI_zip3, dsp_some, evE_cst, evE_gl, evE_inR, inR_int, evEvar, evE_peek, gv_val, gp_own, evE_tup, evE_lst, evE_o1, evE_o2, evE_o3, evE_dct, evE_chain, chn_bl, evE_band, bnd_bl, evE_bor, bor_bl, evE_bnot, evE_ifx, evE_slc, evE_call, evE_lc, exec_asg, exec_par, prO_some, exec_own, exec_app, apO_own, exec_ext, exO_lst, exec_seti, stO_own, poO_some, exec_ifs, exec_for, exec_whl, exec_ret, exec_retN, exec_ex, exec_raise, exec_pass, exec_kill, exec_freeze, exec_try, tryO_nx, tryO_rt, tryO_1, tryO_2, tryO_3, tryO_4, tryO_5, tryO_6, fzO_lst, fzO_dct, bindT_v, bindT_tup, bindT_lst, bindTs_nil, bindTs_cons, add_int, sub_int, mul_int, fdiv_int, mod_int, cmp_int, cmp_str, truth_non, truth_bl, truth_int, truth_tup, truth_lst, gI_non, gI_int, items_tup, items_lst, items_str, zipOf_tup, zipOf_lst, zip3_tup, zipD_map, ixT0, ixT1, ixT2, ixT3, ixT4, ixL0, ixL1, slT_n2, slT_n3, slT_1n, slT_2n, slT_3n, slT_m1, o2_add, o2_sub, o2_mul, o2_fdiv, o2_mod, o2_eq, o2_ne, o2_lt, o2_le, o2_gt, o2_ge, o2_inn, o2_notin, o2_idx, o2_max, o2_min, o1_neg, o1_len, len_tup, len_lst, len_dct, len_scr, o1_tuple_tup, o1_tuple_lst, o1_list_tup, o1_list_lst, o1_list_dct, o1_sorted_tup, o1_sorted_lst, o1_all, o1_abs, o1_int_int, o1_int_bl, o1_rev_tup, o1_rev_lst, o1_isTrue, o1_notTrue, o1_isFalse, o1_notFalse, setE, storeP, thaw, rdO, ofE_some, ofE_none, bind_ok, bind_exc, bind_stuck, nox_ok, of_some, of_none, out_ok, out_exc, out_stuck, then_nx, then_rt, then_exc, then_stuck, Fin_rt, Fin_nx, FinX_exc, Nxt_nx, List.getElem?_cons_zero, List.getElem?_cons_succ, List.set_cons_zero, List.set_cons_succ, wipeE, Option.bind_some, Option.bind_none, Option.map_some, Option.map_none, Option.some.injEq, isNonE, ite_ok, ite_int, ite_bl, Bool.if_true_left, Bool.if_false_right, Bool.if_true_right, Bool.if_false_left, if_true, if_false, Bool.false_eq_true, Bool.true_eq_false, reduceIte, ite_true, ite_false, decide_eq_true_eq, decide_true, decide_false, Bool.not_true, Bool.not_false, Bool.and_true, Bool.true_and, Bool.and_false, Bool.false_and, Bool.not_eq_true', decide_eq_false_iff_not, Bool.decide_eq_true, allBls_map]
    have e : ((l.zip b).map fun p => decide (hd p.1 + p.2 ≥ 0)).all id = true := by
      rw [List.all_map, List.all_eq_true]
      intro p hp
      simpa using hb p hp
    rw [e, mustS h1]
    simp only [Def.body, Def.slots, Def.params, startE, List.map_cons, List.map_nil, List.cons_append, List.nil_append, List.append_nil, List.reduceReplicate, List.length_cons, List.length_nil, Nat.reduceAdd, Nat.reduceSub, Nat.reduceLT, Nat.reduceLeDiff, Nat.zero_add, execs_nil, execs_cons, sq_nx, sq_rt, sq_exc, sq_stuck, bE_ok, bE_exc, bEs_ok, bEs_exc, bA_ok, bA_exc, bE2_ok, kAnd_ok, kOr_ok, kIf_ok, kIfS_ok, kIfS_exc, kCh_ok, kCh2_ok, kBand_ok, kBor_ok, kSl_ok, kSl2_ok, evEs_nil, evEs_cons, evA_nil, evA_val, evT_and, evT_or, evT_not, evT_v, evT_yes, evI_of, evI_rng1, evI_rng2, evI_enum, evI_zip2, evI_zip3, dsp_some, evE_cst, evE_gl, evE_inR, inR_int, evEvar, evE_peek, gv_val, gp_own, evE_tup, evE_lst, evE_o1, evE_o2, evE_o3, evE_dct, evE_chain, chn_bl, evE_band, bnd_bl, evE_bor, bor_bl, evE_bnot, evE_ifx, evE_slc, evE_call, evE_lc, exec_asg, exec_par, prO_some, exec_own, exec_app, apO_own, exec_ext, exO_lst, exec_seti, stO_own, poO_some, exec_ifs, exec_for, exec_whl, exec_ret, exec_retN, exec_ex, exec_raise, exec_pass, exec_kill, exec_freeze, exec_try, tryO_nx, tryO_rt, tryO_1, tryO_2, tryO_3, tryO_4, tryO_5, tryO_6, fzO_lst, fzO_dct, bindT_v, bindT_tup, bindT_lst, bindTs_nil, bindTs_cons, add_int, sub_int, mul_int, fdiv_int, mod_int, cmp_int, cmp_str, truth_non, truth_bl, truth_int, truth_tup, truth_lst, gI_non, gI_int, items_tup, items_lst, items_str, zipOf_tup, zipOf_lst, zip3_tup, zipD_map, ixT0, ixT1, ixT2, ixT3, ixT4, ixL0, ixL1, slT_n2, slT_n3, slT_1n, slT_2n, slT_3n, slT_m1, o2_add, o2_sub, o2_mul, o2_fdiv, o2_mod, o2_eq, o2_ne, o2_lt, o2_le, o2_gt, o2_ge, o2_inn, o2_notin, o2_idx, o2_max, o2_min, o1_neg, o1_len, len_tup, len_lst, len_dct, len_scr, o1_tuple_tup, o1_tuple_lst, o1_list_tup, o1_list_lst, o1_list_dct, o1_sorted_tup, o1_sorted_lst, o1_all, o1_abs, o1_int_int, o1_int_bl, o1_rev_tup, o1_rev_lst, o1_isTrue, o1_notTrue, o1_isFalse, o1_notFalse, setE, storeP, thaw, rdO, ofE_some, ofE_none, bind_ok, bind_exc, bind_stuck, nox_ok, of_some, of_none, out_ok, out_exc, out_stuck, then_nx, then_rt, then_exc, then_stuck, Fin_rt, Fin_nx, FinX_exc, Nxt_nx, List.getElem?_cons_zero, List.getElem?_cons_succ, List.set_cons_zero, List.set_cons_succ, wipeE, Option.bind_some, Option.bind_none, Option.map_some, Option.map_none, Option.some.injEq, isNonE, ite_ok, ite_int, ite_bl, Bool.if_true_left, Bool.if_false_right, Bool.if_true_right, Bool.if_false_left, if_true, if_false, Bool.false_eq_true, Bool.true_eq_false, reduceIte, ite_true, ite_false, decide_eq_true_eq, decide_true, decide_false, Bool.not_true, Bool.not_false, Bool.and_true, Bool.true_and, Bool.and_false, Bool.false_and, Bool.not_eq_true', decide_eq_false_iff_not, Bool.decide_eq_true]
    rw [lcL_map (g := fun p => tupI ((hd p.1 + p.2) :: p.1.tail)) (fun p hp => ?_) hz]
    · simp only [Def.body, Def.slots, Def.params, startE, List.map_cons, List.map_nil, List.cons_append, List.nil_append, List.append_nil, List.reduceReplicate, List.length_cons, List.length_nil, Nat.reduceAdd, Nat.reduceSub, Nat.reduceLT, Nat.reduceLeDiff, Nat.zero_add, execs_nil, execs_cons, sq_nx, sq_rt, sq_exc, sq_stuck, bE_ok, bE_exc, bEs_ok, bEs_exc, bA_ok, bA_exc, bE2_ok, kAnd_ok, kOr_ok, kIf_ok, kIfS_ok, kIfS_exc, kCh_ok, kCh2_ok, kBand_ok, kBor_ok, kSl_ok, kSl2_ok, evEs_nil, evEs_cons, evA_nil, evA_val, evT_and, evT_or, evT_not, evT_v, evT_yes, evI_of, evI_rng1, evI_rng2, evI_enum, evI_zip2, evI_zip3, dsp_some, evE_cst, evE_gl, evE_inR, inR_int, evEvar, evE_peek, gv_val, gp_own, evE_tup, evE_lst, evE_o1, evE_o2, evE_o3, evE_dct, evE_chain, chn_bl, evE_band, bnd_bl, evE_bor, bor_bl, evE_bnot, evE_ifx, evE_slc, evE_call, evE_lc, exec_asg, exec_par, prO_some, exec_own, exec_app, apO_own, exec_ext, exO_lst, exec_seti, stO_own, poO_some, exec_ifs, exec_for, exec_whl, exec_ret, exec_retN, exec_ex, exec_raise, exec_pass, exec_kill, exec_freeze, exec_try, tryO_nx, tryO_rt, tryO_1, tryO_2, tryO_3, tryO_4, tryO_5, tryO_6, fzO_lst, fzO_dct, bindT_v, bindT_tup, bindT_lst, bindTs_nil, bindTs_cons, add_int, sub_int, mul_int, fdiv_int, mod_int, cmp_int, cmp_str, truth_non, truth_bl, truth_int, truth_tup, truth_lst, gI_non, gI_int, items_tup, items_lst, items_str, zipOf_tup, zipOf_lst, zip3_tup, zipD_map, ixT0, ixT1, ixT2, ixT3, ixT4, ixL0, ixL1, slT_n2, slT_n3, slT_1n, slT_2n, slT_3n, slT_m1, o2_add, o2_sub, o2_mul, o2_fdiv, o2_mod, o2_eq, o2_ne, o2_lt, o2_le, o2_gt, o2_ge, o2_inn, o2_notin, o2_idx, o2_max, o2_min, o1_neg, o1_len, len_tup, len_lst, len_dct, len_scr, o1_tuple_tup, o1_tuple_lst, o1_list_tup, o1_list_lst, o1_list_dct, o1_sorted_tup, o1_sorted_lst, o1_all, o1_abs, o1_int_int, o1_int_bl, o1_rev_tup, o1_rev_lst, o1_isTrue, o1_notTrue, o1_isFalse, o1_notFalse, setE, storeP, thaw, rdO, ofE_some, ofE_none, bind_ok, bind_exc, bind_stuck, nox_ok, of_some, of_none, out_ok, out_exc, out_stuck, then_nx, then_rt, then_exc, then_stuck, Fin_rt, Fin_nx, FinX_exc, Nxt_nx, List.getElem?_cons_zero, List.getElem?_cons_succ, List.set_cons_zero, List.set_cons_succ, wipeE, Option.bind_some, Option.bind_none, Option.map_some, Option.map_none, Option.some.injEq, isNonE, ite_ok, ite_int, ite_bl, Bool.if_true_left, Bool.if_false_right, Bool.if_true_right, Bool.if_false_left, if_true, if_false, Bool.false_eq_true, Bool.true_eq_false, reduceIte, ite_true, ite_false, decide_eq_true_eq, decide_true, decide_false, Bool.not_true, Bool.not_false, Bool.and_true, Bool.true_and, Bool.and_false, Bool.false_and, Bool.not_eq_true', decide_eq_false_iff_not, Bool.decide_eq_true, movedL, List.map_map, Function.comp_def]
    · simp only [lcF_eq, Def.body, Def.slots, Def.params, startE, List.map_cons, List.map_nil, List.cons_append, List.nil_append, List.append_nil, List.reduceReplicate, List.length_cons, List.length_nil, Nat.reduceAdd, Nat.reduceSub, Nat.reduceLT, Nat.reduceLeDiff, Nat.zero_add, execs_nil, execs_cons, sq_nx, sq_rt, sq_exc, sq_stuck, bE_ok, bE_exc, bEs_ok, bEs_exc, bA_ok, bA_exc, bE2_ok, kAnd_ok, kOr_ok, kIf_ok, kIfS_ok, kIfS_exc, kCh_ok, kCh2_ok, kBand_ok, kBor_ok, kSl_ok, kSl2_ok, evEs_nil, evEs_cons, evA_nil, evA_val, evT_and, evT_or, evT_not, evT_v, evT_yes, evI_of, evI_rng1, evI_rng2, evI_enum, evI_zip2, evI_zip3, dsp_some, evE_cst, evE_gl, evE_inR, inR_int, evEvar, evE_peek, gv_val, gp_own, evE_tup, evE_lst, evE_o1, evE_o2, evE_o3, evE_dct, evE_chain, chn_bl, evE_band, bnd_bl, evE_bor, bor_bl, evE_bnot, evE_ifx, evE_slc, evE_call, evE_lc, exec_asg, exec_par, prO_some, exec_own, exec_app, apO_own, exec_ext, exO_lst, exec_seti, stO_own, poO_some, exec_ifs, exec_for, exec_whl, exec_ret, exec_retN, exec_ex, exec_raise, exec_pass, exec_kill, exec_freeze, exec_try, tryO_nx, tryO_rt, tryO_1, tryO_2, tryO_3, tryO_4, tryO_5, tryO_6, fzO_lst, fzO_dct, bindT_v, bindT_tup, bindT_lst, bindTs_nil, bindTs_cons, add_int, sub_int, mul_int, fdiv_int, mod_int, cmp_int, cmp_str, truth_non, truth_bl, truth_int, truth_tup, truth_lst, gI_non, gI_int, items_tup, items_lst, items_str, zipOf_tup, zipOf_lst, zip3_tup, zipD_map, ixT0, ixT1, ixT2, ixT3, ixT4, ixL0, ixL1, slT_n2, slT_n3, slT_1n, slT_2n, slT_3n, slT_m1, o2_add, o2_sub, o2_mul, o2_fdiv, o2_mod, o2_eq, o2_ne, o2_lt, o2_le, o2_gt, o2_ge, o2_inn, o2_notin, o2_idx, o2_max, o2_min, o1_neg, o1_len, len_tup, len_lst, len_dct, len_scr, o1_tuple_tup, o1_tuple_lst, o1_list_tup, o1_list_lst, o1_list_dct, o1_sorted_tup, o1_sorted_lst, o1_all, o1_abs, o1_int_int, o1_int_bl, o1_rev_tup, o1_rev_lst, o1_isTrue, o1_notTrue, o1_isFalse, o1_notFalse, setE, storeP, thaw, rdO, ofE_some, ofE_none, bind_ok, bind_exc, bind_stuck, nox_ok, of_some, of_none, out_ok, out_exc, out_stuck, then_nx, then_rt, then_exc, then_stuck, Fin_rt, Fin_nx, FinX_exc, Nxt_nx, List.getElem?_cons_zero, List.getElem?_cons_succ, List.set_cons_zero, List.set_cons_succ, wipeE, Option.bind_some, Option.bind_none, Option.map_some, Option.map_none, Option.some.injEq, isNonE, ite_ok, ite_int, ite_bl, Bool.if_true_left, Bool.if_false_right, Bool.if_true_right, Bool.if_false_left, if_true, if_false, Bool.false_eq_true, Bool.true_eq_false, reduceIte, ite_true, ite_false, decide_eq_true_eq, decide_true, decide_false, Bool.not_true, Bool.not_false, Bool.and_true, Bool.true_and, Bool.and_false, Bool.false_and, Bool.not_eq_true', decide_eq_false_iff_not, Bool.decide_eq_true, add_tup, idx0 (hn _ (zip_mem hp)), slc1 (hn _ (zip_mem hp)), List.length_map, List.length_tail, tupI]
      have := hx _ (zip_mem hp)
      rw [if_pos (by simp only [LIM]; omega)]
      simp only [Def.body, Def.slots, Def.params, startE, List.map_cons, List.map_nil, List.cons_append, List.nil_append, List.append_nil, List.reduceReplicate, List.length_cons, List.length_nil, Nat.reduceAdd, Nat.reduceSub, Nat.reduceLT, Nat.reduceLeDiff, Nat.zero_add, execs_nil, execs_cons, sq_nx, sq_rt, sq_exc, sq_stuck, bE_ok, bE_exc, bEs_ok, bEs_exc, bA_ok, bA_exc, bE2_ok, kAnd_ok, kOr_ok, kIf_ok, kIfS_ok, kIfS_exc, kCh_ok, kCh2_ok, kBand_ok, kBor_ok, kSl_ok, kSl2_ok, evEs_nil, evEs_cons, evA_nil, evA_val, evT_and, evT_or, evT_not, evT_v, evT_yes, evI_of, evI_rng1, evI_rng2, evI_enum, evI_zip2, evI_zip3, dsp_some, evE_cst, evE_gl, evE_inR, inR_int, evEvar, evE_peek, gv_val, gp_own, evE_tup, evE_lst, evE_o1, evE_o2, evE_o3, evE_dct, evE_chain, chn_bl, evE_band, bnd_bl, evE_bor, bor_bl, evE_bnot, evE_ifx, evE_slc, evE_call, evE_lc, exec_asg, exec_par, prO_some, exec_own, exec_app, apO_own, exec_ext, exO_lst, exec_seti, stO_own, poO_some, exec_ifs, exec_for, exec_whl, exec_ret, exec_retN, exec_ex, exec_raise, exec_pass, exec_kill, exec_freeze, exec_try, tryO_nx, tryO_rt, tryO_1, tryO_2, tryO_3, tryO_4, tryO_5, tryO_6, fzO_lst, fzO_dct, bindT_v, bindT_tup, bindT_lst, bindTs_nil, bindTs_cons, add_int, sub_int, mul_int, fdiv_int, mod_int, cmp_int, cmp_str, truth_non, truth_bl, truth_int, truth_tup, truth_lst, gI_non, gI_int, items_tup, items_lst, items_str, zipOf_tup, zipOf_lst, zip3_tup, zipD_map, ixT0, ixT1, ixT2, ixT3, ixT4, ixL0, ixL1, slT_n2, slT_n3, slT_1n, slT_2n, slT_3n, slT_m1, o2_add, o2_sub, o2_mul, o2_fdiv, o2_mod, o2_eq, o2_ne, o2_lt, o2_le, o2_gt, o2_ge, o2_inn, o2_notin, o2_idx, o2_max, o2_min, o1_neg, o1_len, len_tup, len_lst, len_dct, len_scr, o1_tuple_tup, o1_tuple_lst, o1_list_tup, o1_list_lst, o1_list_dct, o1_sorted_tup, o1_sorted_lst, o1_all, o1_abs, o1_int_int, o1_int_bl, o1_rev_tup, o1_rev_lst, o1_isTrue, o1_notTrue, o1_isFalse, o1_notFalse, setE, storeP, thaw, rdO, ofE_some, ofE_none, bind_ok, bind_exc, bind_stuck, nox_ok, of_some, of_none, out_ok, out_exc, out_stuck, then_nx, then_rt, then_exc, then_stuck, Fin_rt, Fin_nx, FinX_exc, Nxt_nx, List.getElem?_cons_zero, List.getElem?_cons_succ, List.set_cons_zero, List.set_cons_succ, wipeE, Option.bind_some, Option.bind_none, Option.map_some, Option.map_none, Option.some.injEq, isNonE, ite_ok, ite_int, ite_bl, Bool.if_true_left, Bool.if_false_right, Bool.if_true_right, Bool.if_false_left, if_true, if_false, Bool.false_eq_true, Bool.true_eq_false, reduceIte, ite_true, ite_false, decide_eq_true_eq, decide_true, decide_false, Bool.not_true, Bool.not_false, Bool.and_true, Bool.true_and, Bool.and_false, Bool.false_and, Bool.not_eq_true', decide_eq_false_iff_not, Bool.decide_eq_true]
  · simp only [lcF_eq, Def.body, Def.slots, Def.params, startE, List.map_cons, List.map_nil, List.cons_append, List.nil_append, List.append_nil, List.reduceReplicate, List.length_cons, List.length_nil, Nat.reduceAdd, Nat.reduceSub, Nat.reduceLT, Nat.reduceLeDiff, Nat.zero_add, execs_nil, execs_cons, sq_nx, sq_rt, sq_exc, sq_stuck, bE_ok, bE_exc, bEs_ok, bEs_exc, bA_ok, bA_exc, bE2_ok, kAnd_ok, kOr_ok, kIf_ok, kIfS_ok, kIfS_exc, kCh_ok, kCh2_ok, kBand_ok, kBor_ok, kSl_ok, kSl2_ok, evEs_nil, evEs_cons, evA_nil, evA_val, evT_and, evT_or, evT_not, evT_v, evT_yes, evI_of, evI_rng1, evI_rng2, evI_enum, evI_zip2, evI_zip3, dsp_some, evE_cst, evE_gl, evE_inR, inR_int, evEvar, evE_peek, gv_val, gp_own, evE_tup, evE_lst, evE_o1, evE_o2, evE_o3, evE_dct, evE_chain, chn_bl, evE_band, bnd_bl, evE_bor, bor_bl, evE_bnot, evE_ifx, evE_slc, evE_call, evE_lc, exec_asg, exec_par, prO_some, exec_own, exec_app, apO_own, exec_ext, exO_lst, exec_seti, stO_own, poO_some, exec_ifs, exec_for, exec_whl, exec_ret, exec_retN, exec_ex, exec_raise, exec_pass, exec_kill, exec_freeze, exec_try, tryO_nx, tryO_rt, tryO_1, tryO_2, tryO_3, tryO_4, tryO_5, tryO_6, fzO_lst, fzO_dct, bindT_v, bindT_tup, bindT_lst, bindTs_nil, bindTs_cons, add_int, sub_int, mul_int, fdiv_int, mod_int, cmp_int, cmp_str, truth_non, truth_bl, truth_int, truth_tup, truth_lst, gI_non, gI_int, items_tup, items_lst, items_str, zipOf_tup, zipOf_lst, zip3_tup, zipD_map, ixT0, ixT1, ixT2, ixT3, ixT4, ixL0, ixL1, slT_n2, slT_n3, slT_1n, slT_2n, slT_3n, slT_m1, o2_add, o2_sub, o2_mul, o2_fdiv, o2_mod, o2_eq, o2_ne, o2_lt, o2_le, o2_gt, o2_ge, o2_inn, o2_notin, o2_idx, o2_max, o2_min, o1_neg, o1_len, len_tup, len_lst, len_dct, len_scr, o1_tuple_tup, o1_tuple_lst, o1_list_tup, o1_list_lst, o1_list_dct, o1_sorted_tup, o1_sorted_lst, o1_all, o1_abs, o1_int_int, o1_int_bl, o1_rev_tup, o1_rev_lst, o1_isTrue, o1_notTrue, o1_isFalse, o1_notFalse, setE, storeP, thaw, rdO, ofE_some, ofE_none, bind_ok, bind_exc, bind_stuck, nox_ok, of_some, of_none, out_ok, out_exc, out_stuck, then_nx, then_rt, then_exc, then_stuck, Fin_rt, Fin_nx, FinX_exc, Nxt_nx, List.getElem?_cons_zero, List.getElem?_cons_succ, List.set_cons_zero, List.set_cons_succ, wipeE, Option.bind_some, Option.bind_none, Option.map_some, Option.map_none, Option.some.injEq, isNonE, ite_ok, ite_int, ite_bl, Bool.if_true_left, Bool.if_false_right, Bool.if_true_right, Bool.if_false_left, if_true, if_false, Bool.false_eq_true, Bool.true_eq_false, reduceIte, ite_true, ite_false, decide_eq_true_eq, decide_true, decide_false, Bool.not_true, Bool.not_false, Bool.and_true, Bool.true_and, Bool.and_false, Bool.false_and, Bool.not_eq_true', decide_eq_false_iff_not, Bool.decide_eq_true, idx0 (hn _ (zip_mem hp))]
theorem movedL_NE (l : List (List Int)) (b : List Int) : NE (movedL l b) := by
  intro x hx
  obtain ⟨p, _, rfl⟩ := List.mem_map.mp hx
  simp
theorem movedL_len (l : List (List Int)) (b : List Int) : (movedL l b).length ≤ l.length := by
  rw [movedL, List.length_map]; exact zip_len _ _
def sortN (l : List (List Int)) : List (List Int) := l.mergeSort leB
theorem sortD_N {l : List (List Int)} (hn : NE l) (hl : l.length ≤ LIM) : sortD (l.map tupI) = some ((sortN l).map tupI) := sortD_enc (α := List Int) (by decide) hl (.inl (tupNE (α := Int) hn))
theorem sortD_I {l : List Int} (hl : l.length ≤ LIM) : sortD (l.map .int) = some ((l.mergeSort leB).map .int) := sortD_enc (α := Int) (by decide) hl (.inr (atoms l))
def griddedL (l : List (List Int)) (g u lo : Int) : List (List Int) := sortN (movedL l (moves l g u lo))
theorem griddedS {f f1 f2 f3 f4 f5 : Nat} (hT : T f = some (.code (c_gridded f2 f1))) (h1 : T f1 = some (.code (c_moved f3))) (h2 : T f2 = some (.code (c_moves f4))) (h3 : T f3 = some (.code c_must)) (h4 : T f4 = some (.code (c_move_of f5))) (h5 : T f5 = some (.code c_nearest))
    (l : List (List Int)) (g u lo : Int) (s : Store) (hn : NE l) (hl : l.length ≤ LIM) (hg : 0 < g) (hg1 : g < 18446744073709551616) (hu : 0 ≤ u) (hu1 : u < 18446744073709551616) (hlo : 0 < lo) (hlo1 : lo < 18446744073709551616)
    (hb : ∀ p ∈ l.zip (moves l g u lo), 0 ≤ hd p.1 + p.2) (hx : ∀ x ∈ l, x.length ≤ 100) :
    callOf (run G T (n + 4)) f [.val (tupN l), .val (.int g), .val (.int u), .val (.int lo)] s = .ok (tupN (griddedL l g u lo)) s := by
  refine callOf_ok hT rfl rfl ?_
  simp only [c_gridded, Def.body, Def.slots, Def.params, startE, List.map_cons, List.map_nil, List.cons_append, List.nil_append, List.append_nil, List.reduceReplicate, List.length_cons, List.length_nil, Nat.reduceAdd, Nat.reduceSub, Nat.reduceLT, Nat.reduceLeDiff, Nat.zero_add, execs_nil, execs_cons, sq_nx, sq_rt, sq_exc, sq_stuck, bE_ok, bE_exc, bEs_ok, bEs_exc, bA_ok, bA_exc, bE2_ok, kAnd_ok, kOr_ok, kIf_ok, kIfS_ok, kIfS_exc, kCh_ok, kCh2_ok, kBand_ok, kBor_ok, kSl_ok, kSl2_ok, evEs_nil, evEs_cons, evA_nil, evA_val, evT_and, evT_or, evT_not, evT_v, evT_yes, evI_of, evI_rng1, evI_rng2, evI_enum, evI_zip2, evI_zip3, dsp_some, evE_cst, evE_gl, evE_inR, inR_int, evEvar, evE_peek, gv_val, gp_own, evE_tup, evE_lst, evE_o1, evE_o2, evE_o3, evE_dct, evE_chain, chn_bl, evE_band, bnd_bl, evE_bor, bor_bl, evE_bnot, evE_ifx, evE_slc, evE_call, evE_lc, exec_asg, exec_par, prO_some, exec_own, exec_app, apO_own, exec_ext, exO_lst, exec_seti, stO_own, poO_some, exec_ifs, exec_for, exec_whl, exec_ret, exec_retN, exec_ex, exec_raise, exec_pass, exec_kill, exec_freeze, exec_try, tryO_nx, tryO_rt, tryO_1, tryO_2, tryO_3, tryO_4, tryO_5, tryO_6, fzO_lst, fzO_dct, bindT_v, bindT_tup, bindT_lst, bindTs_nil, bindTs_cons, add_int, sub_int, mul_int, fdiv_int, mod_int, cmp_int, cmp_str, truth_non, truth_bl, truth_int, truth_tup, truth_lst, gI_non, gI_int, items_tup, items_lst, items_str, zipOf_tup, zipOf_lst, zip3_tup, zipD_map, ixT0, ixT1, ixT2, ixT3, ixT4, ixL0, ixL1, slT_n2, slT_n3, slT_1n, slT_2n, slT_3n, slT_m1, o2_add, o2_sub, o2_mul, o2_fdiv, o2_mod, o2_eq, o2_ne, o2_lt, o2_le, o2_gt, o2_ge, o2_inn, o2_notin, o2_idx, o2_max, o2_min, o1_neg, o1_len, len_tup, len_lst, len_dct, len_scr, o1_tuple_tup, o1_tuple_lst, o1_list_tup, o1_list_lst, o1_list_dct, o1_sorted_tup, o1_sorted_lst, o1_all, o1_abs, o1_int_int, o1_int_bl, o1_rev_tup, o1_rev_lst, o1_isTrue, o1_notTrue, o1_isFalse, o1_notFalse, setE, storeP, thaw, rdO, ofE_some, ofE_none, bind_ok, bind_exc, bind_stuck, nox_ok, of_some, of_none, out_ok, out_exc, out_stuck, then_nx, then_rt, then_exc, then_stuck, Fin_rt, Fin_nx, FinX_exc, Nxt_nx, List.getElem?_cons_zero, List.getElem?_cons_succ, List.set_cons_zero, List.set_cons_succ, wipeE, Option.bind_some, Option.bind_none, Option.map_some, Option.map_none, Option.some.injEq, isNonE, ite_ok, ite_int, ite_bl, Bool.if_true_left, Bool.if_false_right, Bool.if_true_right, Bool.if_false_left, if_true, if_false, Bool.false_eq_true, Bool.true_eq_false, reduceIte, ite_true, ite_false, decide_eq_true_eq, decide_true, decide_false, Bool.not_true, Bool.not_false, Bool.and_true, Bool.true_and, Bool.and_false, Bool.false_and, Bool.not_eq_true', decide_eq_false_iff_not, Bool.decide_eq_true, movesS h2 h4 h5 l g u lo _ hn hl hg hg1 hu hu1 hlo hlo1, movedS h1 h3 l _ _ hn hl hb hx, sortD_N (movedL_NE _ _) (Nat.le_trans (movedL_len _ _) hl)]
  exact Fin_rt
def swung (t g b : Int) : Int := if t % (2 * g) < g then t / (2 * g) * 2 * g + t % (2 * g) * (g + b) / g else t / (2 * g) * 2 * g + g + b + (t % (2 * g) - g) * (g - b) / g
theorem swungS {f : Nat} (hT : T f = some (.code c_swung)) (t g b : Int) (s : Store) (h0 : 0 < g) (h1 : g < 1000000) (hb : 0 ≤ b) (hb1 : b ≤ g) :
    callOf (run G T (n + 1)) f [.val (.int t), .val (.int g), .val (.int b)] s = .ok (.int (swung t g b)) s := by
  refine callOf_ok hT rfl rfl ?_
  have hd := divOk_of (b := 2 * g) (by omega) (by omega)
  have hd2 := divOk_of (b := g) (by omega) (by omega)
  have e1 : mulOk 2 g = true := mulOk_left (by decide) (by decide)
  have e2 : ∀ x, mulOk x 2 = true := fun x => mulOk_right (by decide) (by decide)
  have e3 : ∀ x, mulOk x g = true := fun x => mulOk_right (by omega) (by omega)
  have e4 : ∀ x, mulOk x (g + b) = true := fun x => mulOk_right (by omega) (by omega)
  have e5 : ∀ x, mulOk x (g - b) = true := fun x => mulOk_right (by omega) (by omega)
  by_cases h : t % (2 * g) < g <;> simp only [c_swung, Def.body, Def.slots, Def.params, startE, List.map_cons, List.map_nil, List.cons_append, List.nil_append, List.append_nil, List.reduceReplicate, List.length_cons, List.length_nil, Nat.reduceAdd, Nat.reduceSub, Nat.reduceLT, Nat.reduceLeDiff, Nat.zero_add, execs_nil, execs_cons, sq_nx, sq_rt, sq_exc, sq_stuck, bE_ok, bE_exc, bEs_ok, bEs_exc, bA_ok, bA_exc, bE2_ok, kAnd_ok, kOr_ok, kIf_ok, kIfS_ok, kIfS_exc, kCh_ok, kCh2_ok, kBand_ok, kBor_ok, kSl_ok, kSl2_ok, evEs_nil, evEs_cons, evA_nil, evA_val, evT_and, evT_or, evT_not, evT_v, evT_yes, evI_of, evI_rng1, evI_rng2, evI_enum, evI_zip2, evI_zip3, dsp_some, evE_cst, evE_gl, evE_inR, inR_int, evEvar, evE_peek, gv_val, gp_own, evE_tup, evE_lst, evE_o1, evE_o2, evE_o3, evE_dct, evE_chain, chn_bl, evE_band, bnd_bl, evE_bor, bor_bl, evE_bnot, evE_ifx, evE_slc, evE_call, evE_lc, exec_asg, exec_par, prO_some, exec_own, exec_app, apO_own, exec_ext, exO_lst, exec_seti, stO_own, poO_some, exec_ifs, exec_for, exec_whl, exec_ret, exec_retN, exec_ex, exec_raise, exec_pass, exec_kill, exec_freeze, exec_try, tryO_nx, tryO_rt, tryO_1, tryO_2, tryO_3, tryO_4, tryO_5, tryO_6, fzO_lst, fzO_dct, bindT_v, bindT_tup, bindT_lst, bindTs_nil, bindTs_cons, add_int, sub_int, mul_int, fdiv_int, mod_int, cmp_int, cmp_str, truth_non, truth_bl, truth_int, truth_tup, truth_lst, gI_non, gI_int, items_tup, items_lst, items_str, zipOf_tup, zipOf_lst, zip3_tup, zipD_map, ixT0, ixT1, ixT2, ixT3, ixT4, ixL0, ixL1, slT_n2, slT_n3, slT_1n, slT_2n, slT_3n, slT_m1, o2_add, o2_sub, o2_mul, o2_fdiv, o2_mod, o2_eq, o2_ne, o2_lt, o2_le, o2_gt, o2_ge, o2_inn, o2_notin, o2_idx, o2_max, o2_min, o1_neg, o1_len, len_tup, len_lst, len_dct, len_scr, o1_tuple_tup, o1_tuple_lst, o1_list_tup, o1_list_lst, o1_list_dct, o1_sorted_tup, o1_sorted_lst, o1_all, o1_abs, o1_int_int, o1_int_bl, o1_rev_tup, o1_rev_lst, o1_isTrue, o1_notTrue, o1_isFalse, o1_notFalse, setE, storeP, thaw, rdO, ofE_some, ofE_none, bind_ok, bind_exc, bind_stuck, nox_ok, of_some, of_none, out_ok, out_exc, out_stuck, then_nx, then_rt, then_exc, then_stuck, Fin_rt, Fin_nx, FinX_exc, Nxt_nx, List.getElem?_cons_zero, List.getElem?_cons_succ, List.set_cons_zero, List.set_cons_succ, wipeE, Option.bind_some, Option.bind_none, Option.map_some, Option.map_none, Option.some.injEq, isNonE, ite_ok, ite_int, ite_bl, Bool.if_true_left, Bool.if_false_right, Bool.if_true_right, Bool.if_false_left, if_true, if_false, Bool.false_eq_true, Bool.true_eq_false, reduceIte, ite_true, ite_false, decide_eq_true_eq, decide_true, decide_false, Bool.not_true, Bool.not_false, Bool.and_true, Bool.true_and, Bool.and_false, Bool.false_and, Bool.not_eq_true', decide_eq_false_iff_not, Bool.decide_eq_true, hd, hd2, e1, e2, e3, e4, e5, swung, h]
end Nt
set_option autoImplicit false
set_option linter.all false
set_option maxRecDepth 10000
/-! S2: _law_same -/
namespace Nt
variable {G : Glob} {T : Table} {n : Nat}
/-- data that _law_same tells to be itself -/
def sameN : Nat → D → Bool
  | 0, _ => false
  | n + 1, d =>
    match d with
    | .non => true
    | .bl _ => true
    | .int _ => true
    | .str x => x.all (fun c => decide (c < 1114112))
    | .tup ds => decide (ds.length ≤ LIM) && allL (sameN n) ds
    | _ => false
theorem zipD_self : ∀ l : List D, zipD l l = l.map fun x => .tup [x, x]
  | [] => rfl
  | a :: l => by rw [zipD, zipD_self l]; rfl
theorem sameS {f : Nat} (hT : T f = some (.code (c__law_same f))) : ∀ (m : Nat) {n : Nat} (d : D) (s : Store), m ≤ n → sameN m d = true → callOf (run G T n) f [.val d, .val d] s = .ok (.bl true) s
  | 0, _, _, _, _, h => by simp [sameN] at h
  | m + 1, n, d, s, hn, h => by
    obtain ⟨n, rfl⟩ : ∃ k, n = k + 1 := ⟨n - 1, by omega⟩
    refine callOf_ok hT rfl rfl ?_
    cases d with
    | non => simp only [c__law_same, Def.body, Def.slots, Def.params, startE, List.map_cons, List.map_nil, List.cons_append, List.nil_append, List.append_nil, List.reduceReplicate, List.length_cons, List.length_nil, Nat.reduceAdd, Nat.reduceSub, Nat.reduceLT, Nat.reduceLeDiff, Nat.zero_add, execs_nil, execs_cons, sq_nx, sq_rt, sq_exc, sq_stuck, bE_ok, bE_exc, bEs_ok, bEs_exc, bA_ok, bA_exc, bE2_ok, kAnd_ok, kOr_ok, kIf_ok, kIfS_ok, kIfS_exc, kCh_ok, kCh2_ok, kBand_ok, kBor_ok, kSl_ok, kSl2_ok, evEs_nil, evEs_cons, evA_nil, evA_val, evT_and, evT_or, evT_not, evT_v, evT_yes, evI_of, evI_rng1, evI_rng2, evI_enum, evI_zip2, evI_zip3, dsp_some, evE_cst, evE_gl, evE_inR, inR_int, evEvar, evE_peek, gv_val, gp_own, evE_tup, evE_lst, evE_o1, evE_o2, evE_o3, evE_dct, evE_chain, chn_bl, evE_band, bnd_bl, evE_bor, bor_bl, evE_bnot, evE_ifx, evE_slc, evE_call, evE_lc, exec_asg, exec_par, prO_some, exec_own, exec_app, apO_own, exec_ext, exO_lst, exec_seti, stO_own, poO_some, exec_ifs, exec_for, exec_whl, exec_ret, exec_retN, exec_ex, exec_raise, exec_pass, exec_kill, exec_freeze, exec_try, tryO_nx, tryO_rt, tryO_1, tryO_2, tryO_3, tryO_4, tryO_5, tryO_6, fzO_lst, fzO_dct, bindT_v, bindT_tup, bindT_lst, bindTs_nil, bindTs_cons, add_int, sub_int, mul_int, fdiv_int, mod_int, cmp_int, cmp_str, truth_non, truth_bl, truth_int, truth_tup, truth_lst, gI_non, gI_int, items_tup, items_lst, items_str, zipOf_tup, zipOf_lst, zip3_tup, zipD_map, ixT0, ixT1, ixT2, ixT3, ixT4, ixL0, ixL1, slT_n2, slT_n3, slT_1n, slT_2n, slT_3n, slT_m1, o2_add, o2_sub, o2_mul, o2_fdiv, o2_mod, o2_eq, o2_ne, o2_lt, o2_le, o2_gt, o2_ge, o2_inn, o2_notin, o2_idx, o2_max, o2_min, o1_neg, o1_len, len_tup, len_lst, len_dct, len_scr, o1_tuple_tup, o1_tuple_lst, o1_list_tup, o1_list_lst, o1_list_dct, o1_sorted_tup, o1_sorted_lst, o1_all, o1_abs, o1_int_int, o1_int_bl, o1_rev_tup, o1_rev_lst, o1_isTrue, o1_notTrue, o1_isFalse, o1_notFalse, setE, storeP, thaw, rdO, ofE_some, ofE_none, bind_ok, bind_exc, bind_stuck, nox_ok, of_some, of_none, out_ok, out_exc, out_stuck, then_nx, then_rt, then_exc, then_stuck, Fin_rt, Fin_nx, FinX_exc, Nxt_nx, List.getElem?_cons_zero, List.getElem?_cons_succ, List.set_cons_zero, List.set_cons_succ, wipeE, Option.bind_some, Option.bind_none, Option.map_some, Option.map_none, Option.some.injEq, isNonE, ite_ok, ite_int, ite_bl, Bool.if_true_left, Bool.if_false_right, Bool.if_true_right, Bool.if_false_left, if_true, if_false, Bool.false_eq_true, Bool.true_eq_false, reduceIte, ite_true, ite_false, decide_eq_true_eq, decide_true, decide_false, Bool.not_true, Bool.not_false, Bool.and_true, Bool.true_and, Bool.and_false, Bool.false_and, Bool.not_eq_true', decide_eq_false_iff_not, Bool.decide_eq_true, op1]
    | bl b => simp only [c__law_same, Def.body, Def.slots, Def.params, startE, List.map_cons, List.map_nil, List.cons_append, List.nil_append, List.append_nil, List.reduceReplicate, List.length_cons, List.length_nil, Nat.reduceAdd, Nat.reduceSub, Nat.reduceLT, Nat.reduceLeDiff, Nat.zero_add, execs_nil, execs_cons, sq_nx, sq_rt, sq_exc, sq_stuck, bE_ok, bE_exc, bEs_ok, bEs_exc, bA_ok, bA_exc, bE2_ok, kAnd_ok, kOr_ok, kIf_ok, kIfS_ok, kIfS_exc, kCh_ok, kCh2_ok, kBand_ok, kBor_ok, kSl_ok, kSl2_ok, evEs_nil, evEs_cons, evA_nil, evA_val, evT_and, evT_or, evT_not, evT_v, evT_yes, evI_of, evI_rng1, evI_rng2, evI_enum, evI_zip2, evI_zip3, dsp_some, evE_cst, evE_gl, evE_inR, inR_int, evEvar, evE_peek, gv_val, gp_own, evE_tup, evE_lst, evE_o1, evE_o2, evE_o3, evE_dct, evE_chain, chn_bl, evE_band, bnd_bl, evE_bor, bor_bl, evE_bnot, evE_ifx, evE_slc, evE_call, evE_lc, exec_asg, exec_par, prO_some, exec_own, exec_app, apO_own, exec_ext, exO_lst, exec_seti, stO_own, poO_some, exec_ifs, exec_for, exec_whl, exec_ret, exec_retN, exec_ex, exec_raise, exec_pass, exec_kill, exec_freeze, exec_try, tryO_nx, tryO_rt, tryO_1, tryO_2, tryO_3, tryO_4, tryO_5, tryO_6, fzO_lst, fzO_dct, bindT_v, bindT_tup, bindT_lst, bindTs_nil, bindTs_cons, add_int, sub_int, mul_int, fdiv_int, mod_int, cmp_int, cmp_str, truth_non, truth_bl, truth_int, truth_tup, truth_lst, gI_non, gI_int, items_tup, items_lst, items_str, zipOf_tup, zipOf_lst, zip3_tup, zipD_map, ixT0, ixT1, ixT2, ixT3, ixT4, ixL0, ixL1, slT_n2, slT_n3, slT_1n, slT_2n, slT_3n, slT_m1, o2_add, o2_sub, o2_mul, o2_fdiv, o2_mod, o2_eq, o2_ne, o2_lt, o2_le, o2_gt, o2_ge, o2_inn, o2_notin, o2_idx, o2_max, o2_min, o1_neg, o1_len, len_tup, len_lst, len_dct, len_scr, o1_tuple_tup, o1_tuple_lst, o1_list_tup, o1_list_lst, o1_list_dct, o1_sorted_tup, o1_sorted_lst, o1_all, o1_abs, o1_int_int, o1_int_bl, o1_rev_tup, o1_rev_lst, o1_isTrue, o1_notTrue, o1_isFalse, o1_notFalse, setE, storeP, thaw, rdO, ofE_some, ofE_none, bind_ok, bind_exc, bind_stuck, nox_ok, of_some, of_none, out_ok, out_exc, out_stuck, then_nx, then_rt, then_exc, then_stuck, Fin_rt, Fin_nx, FinX_exc, Nxt_nx, List.getElem?_cons_zero, List.getElem?_cons_succ, List.set_cons_zero, List.set_cons_succ, wipeE, Option.bind_some, Option.bind_none, Option.map_some, Option.map_none, Option.some.injEq, isNonE, ite_ok, ite_int, ite_bl, Bool.if_true_left, Bool.if_false_right, Bool.if_true_right, Bool.if_false_left, if_true, if_false, Bool.false_eq_true, Bool.true_eq_false, reduceIte, ite_true, ite_false, decide_eq_true_eq, decide_true, decide_false, Bool.not_true, Bool.not_false, Bool.and_true, Bool.true_and, Bool.and_false, Bool.false_and, Bool.not_eq_true', decide_eq_false_iff_not, Bool.decide_eq_true, op1, eqVal_self (d := .bl b) rfl]
    | int i => simp only [c__law_same, Def.body, Def.slots, Def.params, startE, List.map_cons, List.map_nil, List.cons_append, List.nil_append, List.append_nil, List.reduceReplicate, List.length_cons, List.length_nil, Nat.reduceAdd, Nat.reduceSub, Nat.reduceLT, Nat.reduceLeDiff, Nat.zero_add, execs_nil, execs_cons, sq_nx, sq_rt, sq_exc, sq_stuck, bE_ok, bE_exc, bEs_ok, bEs_exc, bA_ok, bA_exc, bE2_ok, kAnd_ok, kOr_ok, kIf_ok, kIfS_ok, kIfS_exc, kCh_ok, kCh2_ok, kBand_ok, kBor_ok, kSl_ok, kSl2_ok, evEs_nil, evEs_cons, evA_nil, evA_val, evT_and, evT_or, evT_not, evT_v, evT_yes, evI_of, evI_rng1, evI_rng2, evI_enum, evI_zip2, evI_zip3, dsp_some, evE_cst, evE_gl, evE_inR, inR_int, evEvar, evE_peek, gv_val, gp_own, evE_tup, evE_lst, evE_o1, evE_o2, evE_o3, evE_dct, evE_chain, chn_bl, evE_band, bnd_bl, evE_bor, bor_bl, evE_bnot, evE_ifx, evE_slc, evE_call, evE_lc, exec_asg, exec_par, prO_some, exec_own, exec_app, apO_own, exec_ext, exO_lst, exec_seti, stO_own, poO_some, exec_ifs, exec_for, exec_whl, exec_ret, exec_retN, exec_ex, exec_raise, exec_pass, exec_kill, exec_freeze, exec_try, tryO_nx, tryO_rt, tryO_1, tryO_2, tryO_3, tryO_4, tryO_5, tryO_6, fzO_lst, fzO_dct, bindT_v, bindT_tup, bindT_lst, bindTs_nil, bindTs_cons, add_int, sub_int, mul_int, fdiv_int, mod_int, cmp_int, cmp_str, truth_non, truth_bl, truth_int, truth_tup, truth_lst, gI_non, gI_int, items_tup, items_lst, items_str, zipOf_tup, zipOf_lst, zip3_tup, zipD_map, ixT0, ixT1, ixT2, ixT3, ixT4, ixL0, ixL1, slT_n2, slT_n3, slT_1n, slT_2n, slT_3n, slT_m1, o2_add, o2_sub, o2_mul, o2_fdiv, o2_mod, o2_eq, o2_ne, o2_lt, o2_le, o2_gt, o2_ge, o2_inn, o2_notin, o2_idx, o2_max, o2_min, o1_neg, o1_len, len_tup, len_lst, len_dct, len_scr, o1_tuple_tup, o1_tuple_lst, o1_list_tup, o1_list_lst, o1_list_dct, o1_sorted_tup, o1_sorted_lst, o1_all, o1_abs, o1_int_int, o1_int_bl, o1_rev_tup, o1_rev_lst, o1_isTrue, o1_notTrue, o1_isFalse, o1_notFalse, setE, storeP, thaw, rdO, ofE_some, ofE_none, bind_ok, bind_exc, bind_stuck, nox_ok, of_some, of_none, out_ok, out_exc, out_stuck, then_nx, then_rt, then_exc, then_stuck, Fin_rt, Fin_nx, FinX_exc, Nxt_nx, List.getElem?_cons_zero, List.getElem?_cons_succ, List.set_cons_zero, List.set_cons_succ, wipeE, Option.bind_some, Option.bind_none, Option.map_some, Option.map_none, Option.some.injEq, isNonE, ite_ok, ite_int, ite_bl, Bool.if_true_left, Bool.if_false_right, Bool.if_true_right, Bool.if_false_left, if_true, if_false, Bool.false_eq_true, Bool.true_eq_false, reduceIte, ite_true, ite_false, decide_eq_true_eq, decide_true, decide_false, Bool.not_true, Bool.not_false, Bool.and_true, Bool.true_and, Bool.and_false, Bool.false_and, Bool.not_eq_true', decide_eq_false_iff_not, Bool.decide_eq_true, op1, eqVal_self (d := .int i) rfl]
    | str x =>
      have p : plainN DEP (.str x) = true := h
      simp only [c__law_same, Def.body, Def.slots, Def.params, startE, List.map_cons, List.map_nil, List.cons_append, List.nil_append, List.append_nil, List.reduceReplicate, List.length_cons, List.length_nil, Nat.reduceAdd, Nat.reduceSub, Nat.reduceLT, Nat.reduceLeDiff, Nat.zero_add, execs_nil, execs_cons, sq_nx, sq_rt, sq_exc, sq_stuck, bE_ok, bE_exc, bEs_ok, bEs_exc, bA_ok, bA_exc, bE2_ok, kAnd_ok, kOr_ok, kIf_ok, kIfS_ok, kIfS_exc, kCh_ok, kCh2_ok, kBand_ok, kBor_ok, kSl_ok, kSl2_ok, evEs_nil, evEs_cons, evA_nil, evA_val, evT_and, evT_or, evT_not, evT_v, evT_yes, evI_of, evI_rng1, evI_rng2, evI_enum, evI_zip2, evI_zip3, dsp_some, evE_cst, evE_gl, evE_inR, inR_int, evEvar, evE_peek, gv_val, gp_own, evE_tup, evE_lst, evE_o1, evE_o2, evE_o3, evE_dct, evE_chain, chn_bl, evE_band, bnd_bl, evE_bor, bor_bl, evE_bnot, evE_ifx, evE_slc, evE_call, evE_lc, exec_asg, exec_par, prO_some, exec_own, exec_app, apO_own, exec_ext, exO_lst, exec_seti, stO_own, poO_some, exec_ifs, exec_for, exec_whl, exec_ret, exec_retN, exec_ex, exec_raise, exec_pass, exec_kill, exec_freeze, exec_try, tryO_nx, tryO_rt, tryO_1, tryO_2, tryO_3, tryO_4, tryO_5, tryO_6, fzO_lst, fzO_dct, bindT_v, bindT_tup, bindT_lst, bindTs_nil, bindTs_cons, add_int, sub_int, mul_int, fdiv_int, mod_int, cmp_int, cmp_str, truth_non, truth_bl, truth_int, truth_tup, truth_lst, gI_non, gI_int, items_tup, items_lst, items_str, zipOf_tup, zipOf_lst, zip3_tup, zipD_map, ixT0, ixT1, ixT2, ixT3, ixT4, ixL0, ixL1, slT_n2, slT_n3, slT_1n, slT_2n, slT_3n, slT_m1, o2_add, o2_sub, o2_mul, o2_fdiv, o2_mod, o2_eq, o2_ne, o2_lt, o2_le, o2_gt, o2_ge, o2_inn, o2_notin, o2_idx, o2_max, o2_min, o1_neg, o1_len, len_tup, len_lst, len_dct, len_scr, o1_tuple_tup, o1_tuple_lst, o1_list_tup, o1_list_lst, o1_list_dct, o1_sorted_tup, o1_sorted_lst, o1_all, o1_abs, o1_int_int, o1_int_bl, o1_rev_tup, o1_rev_lst, o1_isTrue, o1_notTrue, o1_isFalse, o1_notFalse, setE, storeP, thaw, rdO, ofE_some, ofE_none, bind_ok, bind_exc, bind_stuck, nox_ok, of_some, of_none, out_ok, out_exc, out_stuck, then_nx, then_rt, then_exc, then_stuck, Fin_rt, Fin_nx, FinX_exc, Nxt_nx, List.getElem?_cons_zero, List.getElem?_cons_succ, List.set_cons_zero, List.set_cons_succ, wipeE, Option.bind_some, Option.bind_none, Option.map_some, Option.map_none, Option.some.injEq, isNonE, ite_ok, ite_int, ite_bl, Bool.if_true_left, Bool.if_false_right, Bool.if_true_right, Bool.if_false_left, if_true, if_false, Bool.false_eq_true, Bool.true_eq_false, reduceIte, ite_true, ite_false, decide_eq_true_eq, decide_true, decide_false, Bool.not_true, Bool.not_false, Bool.and_true, Bool.true_and, Bool.and_false, Bool.false_and, Bool.not_eq_true', decide_eq_false_iff_not, Bool.decide_eq_true, op1, eqVal_self p]
    | tup ds =>
      simp only [sameN, Bool.and_eq_true, decide_eq_true_eq] at h
      obtain ⟨h1, h2⟩ := h
      rw [allL_all, List.all_eq_true] at h2
      simp only [c__law_same, Def.body, Def.slots, Def.params, startE, List.map_cons, List.map_nil, List.cons_append, List.nil_append, List.append_nil, List.reduceReplicate, List.length_cons, List.length_nil, Nat.reduceAdd, Nat.reduceSub, Nat.reduceLT, Nat.reduceLeDiff, Nat.zero_add, execs_nil, execs_cons, sq_nx, sq_rt, sq_exc, sq_stuck, bE_ok, bE_exc, bEs_ok, bEs_exc, bA_ok, bA_exc, bE2_ok, kAnd_ok, kOr_ok, kIf_ok, kIfS_ok, kIfS_exc, kCh_ok, kCh2_ok, kBand_ok, kBor_ok, kSl_ok, kSl2_ok, evEs_nil, evEs_cons, evA_nil, evA_val, evT_and, evT_or, evT_not, evT_v, evT_yes, evI_of, evI_rng1, evI_rng2, evI_enum, evI_zip2, evI_zip3, dsp_some, evE_cst, evE_gl, evE_inR, inR_int, evEvar, evE_peek, gv_val, gp_own, evE_tup, evE_lst, evE_o1, evE_o2, evE_o3, evE_dct, evE_chain, chn_bl, evE_band, bnd_bl, evE_bor, bor_bl, evE_bnot, evE_ifx, evE_slc, evE_call, evE_lc, exec_asg, exec_par, prO_some, exec_own, exec_app, apO_own, exec_ext, exO_lst, exec_seti, stO_own, poO_some, exec_ifs, exec_for, exec_whl, exec_ret, exec_retN, exec_ex, exec_raise, exec_pass, exec_kill, exec_freeze, exec_try, tryO_nx, tryO_rt, tryO_1, tryO_2, tryO_3, tryO_4, tryO_5, tryO_6, fzO_lst, fzO_dct, bindT_v, bindT_tup, bindT_lst, bindTs_nil, bindTs_cons, add_int, sub_int, mul_int, fdiv_int, mod_int, cmp_int, cmp_str, truth_non, truth_bl, truth_int, truth_tup, truth_lst, gI_non, gI_int, items_tup, items_lst, items_str, zipOf_tup, zipOf_lst, zip3_tup, zipD_map, ixT0, ixT1, ixT2, ixT3, ixT4, ixL0, ixL1, slT_n2, slT_n3, slT_1n, slT_2n, slT_3n, slT_m1, o2_add, o2_sub, o2_mul, o2_fdiv, o2_mod, o2_eq, o2_ne, o2_lt, o2_le, o2_gt, o2_ge, o2_inn, o2_notin, o2_idx, o2_max, o2_min, o1_neg, o1_len, len_tup, len_lst, len_dct, len_scr, o1_tuple_tup, o1_tuple_lst, o1_list_tup, o1_list_lst, o1_list_dct, o1_sorted_tup, o1_sorted_lst, o1_all, o1_abs, o1_int_int, o1_int_bl, o1_rev_tup, o1_rev_lst, o1_isTrue, o1_notTrue, o1_isFalse, o1_notFalse, setE, storeP, thaw, rdO, ofE_some, ofE_none, bind_ok, bind_exc, bind_stuck, nox_ok, of_some, of_none, out_ok, out_exc, out_stuck, then_nx, then_rt, then_exc, then_stuck, Fin_rt, Fin_nx, FinX_exc, Nxt_nx, List.getElem?_cons_zero, List.getElem?_cons_succ, List.set_cons_zero, List.set_cons_succ, wipeE, Option.bind_some, Option.bind_none, Option.map_some, Option.map_none, Option.some.injEq, isNonE, ite_ok, ite_int, ite_bl, Bool.if_true_left, Bool.if_false_right, Bool.if_true_right, Bool.if_false_left, if_true, if_false, Bool.false_eq_true, Bool.true_eq_false, reduceIte, ite_true, ite_false, decide_eq_true_eq, decide_true, decide_false, Bool.not_true, Bool.not_false, Bool.and_true, Bool.true_and, Bool.and_false, Bool.false_and, Bool.not_eq_true', decide_eq_false_iff_not, Bool.decide_eq_true, op1, neVal_self (d := .int ds.length) rfl, zipD_self]
      rw [lcL_map (g := fun _ => .bl true) (fun x hx => ?_) h1]
      · have e : allBls (ds.map fun _ => D.bl true) = some (ds.map fun _ => true) := allBls_map (fun _ => true) ds
        simp only [Def.body, Def.slots, Def.params, startE, List.map_cons, List.map_nil, List.cons_append, List.nil_append, List.append_nil, List.reduceReplicate, List.length_cons, List.length_nil, Nat.reduceAdd, Nat.reduceSub, Nat.reduceLT, Nat.reduceLeDiff, Nat.zero_add, execs_nil, execs_cons, sq_nx, sq_rt, sq_exc, sq_stuck, bE_ok, bE_exc, bEs_ok, bEs_exc, bA_ok, bA_exc, bE2_ok, kAnd_ok, kOr_ok, kIf_ok, kIfS_ok, kIfS_exc, kCh_ok, kCh2_ok, kBand_ok, kBor_ok, kSl_ok, kSl2_ok, evEs_nil, evEs_cons, evA_nil, evA_val, evT_and, evT_or, evT_not, evT_v, evT_yes, evI_of, evI_rng1, evI_rng2, evI_enum, evI_zip2, evI_zip3, dsp_some, evE_cst, evE_gl, evE_inR, inR_int, evEvar, evE_peek, gv_val, gp_own, evE_tup, evE_lst, evE_o1, evE_o2, evE_o3, evE_dct, evE_chain, chn_bl, evE_band, bnd_bl, evE_bor, bor_bl, evE_bnot, evE_ifx, evE_slc, evE_call, evE_lc, exec_asg, exec_par, prO_some, exec_own, exec_app, apO_own, exec_ext, exO_lst, exec_seti, stO_own, poO_some, exec_ifs, exec_for, exec_whl, exec_ret, exec_retN, exec_ex, exec_raise, exec_pass, exec_kill, exec_freeze, exec_try, tryO_nx, tryO_rt, tryO_1, tryO_2, tryO_3, tryO_4, tryO_5, tryO_6, fzO_lst, fzO_dct, bindT_v, bindT_tup, bindT_lst, bindTs_nil, bindTs_cons, add_int, sub_int, mul_int, fdiv_int, mod_int, cmp_int, cmp_str, truth_non, truth_bl, truth_int, truth_tup, truth_lst, gI_non, gI_int, items_tup, items_lst, items_str, zipOf_tup, zipOf_lst, zip3_tup, zipD_map, ixT0, ixT1, ixT2, ixT3, ixT4, ixL0, ixL1, slT_n2, slT_n3, slT_1n, slT_2n, slT_3n, slT_m1, o2_add, o2_sub, o2_mul, o2_fdiv, o2_mod, o2_eq, o2_ne, o2_lt, o2_le, o2_gt, o2_ge, o2_inn, o2_notin, o2_idx, o2_max, o2_min, o1_neg, o1_len, len_tup, len_lst, len_dct, len_scr, o1_tuple_tup, o1_tuple_lst, o1_list_tup, o1_list_lst, o1_list_dct, o1_sorted_tup, o1_sorted_lst, o1_all, o1_abs, o1_int_int, o1_int_bl, o1_rev_tup, o1_rev_lst, o1_isTrue, o1_notTrue, o1_isFalse, o1_notFalse, setE, storeP, thaw, rdO, ofE_some, ofE_none, bind_ok, bind_exc, bind_stuck, nox_ok, of_some, of_none, out_ok, out_exc, out_stuck, then_nx, then_rt, then_exc, then_stuck, Fin_rt, Fin_nx, FinX_exc, Nxt_nx, List.getElem?_cons_zero, List.getElem?_cons_succ, List.set_cons_zero, List.set_cons_succ, wipeE, Option.bind_some, Option.bind_none, Option.map_some, Option.map_none, Option.some.injEq, isNonE, ite_ok, ite_int, ite_bl, Bool.if_true_left, Bool.if_false_right, Bool.if_true_right, Bool.if_false_left, if_true, if_false, Bool.false_eq_true, Bool.true_eq_false, reduceIte, ite_true, ite_false, decide_eq_true_eq, decide_true, decide_false, Bool.not_true, Bool.not_false, Bool.and_true, Bool.true_and, Bool.and_false, Bool.false_and, Bool.not_eq_true', decide_eq_false_iff_not, Bool.decide_eq_true, e]
        have e2 : (ds.map fun _ => true).all id = true := by
          rw [List.all_map, List.all_eq_true]
          intro _ _
          rfl
        rw [e2]
        exact Fin_rt
      · have q := fun s => sameS hT m (n := n) x s (by omega) (h2 x hx)
        simp only [lcF_eq, Def.body, Def.slots, Def.params, startE, List.map_cons, List.map_nil, List.cons_append, List.nil_append, List.append_nil, List.reduceReplicate, List.length_cons, List.length_nil, Nat.reduceAdd, Nat.reduceSub, Nat.reduceLT, Nat.reduceLeDiff, Nat.zero_add, execs_nil, execs_cons, sq_nx, sq_rt, sq_exc, sq_stuck, bE_ok, bE_exc, bEs_ok, bEs_exc, bA_ok, bA_exc, bE2_ok, kAnd_ok, kOr_ok, kIf_ok, kIfS_ok, kIfS_exc, kCh_ok, kCh2_ok, kBand_ok, kBor_ok, kSl_ok, kSl2_ok, evEs_nil, evEs_cons, evA_nil, evA_val, evT_and, evT_or, evT_not, evT_v, evT_yes, evI_of, evI_rng1, evI_rng2, evI_enum, evI_zip2, evI_zip3, dsp_some, evE_cst, evE_gl, evE_inR, inR_int, evEvar, evE_peek, gv_val, gp_own, evE_tup, evE_lst, evE_o1, evE_o2, evE_o3, evE_dct, evE_chain, chn_bl, evE_band, bnd_bl, evE_bor, bor_bl, evE_bnot, evE_ifx, evE_slc, evE_call, evE_lc, exec_asg, exec_par, prO_some, exec_own, exec_app, apO_own, exec_ext, exO_lst, exec_seti, stO_own, poO_some, exec_ifs, exec_for, exec_whl, exec_ret, exec_retN, exec_ex, exec_raise, exec_pass, exec_kill, exec_freeze, exec_try, tryO_nx, tryO_rt, tryO_1, tryO_2, tryO_3, tryO_4, tryO_5, tryO_6, fzO_lst, fzO_dct, bindT_v, bindT_tup, bindT_lst, bindTs_nil, bindTs_cons, add_int, sub_int, mul_int, fdiv_int, mod_int, cmp_int, cmp_str, truth_non, truth_bl, truth_int, truth_tup, truth_lst, gI_non, gI_int, items_tup, items_lst, items_str, zipOf_tup, zipOf_lst, zip3_tup, zipD_map, ixT0, ixT1, ixT2, ixT3, ixT4, ixL0, ixL1, slT_n2, slT_n3, slT_1n, slT_2n, slT_3n, slT_m1, o2_add, o2_sub, o2_mul, o2_fdiv, o2_mod, o2_eq, o2_ne, o2_lt, o2_le, o2_gt, o2_ge, o2_inn, o2_notin, o2_idx, o2_max, o2_min, o1_neg, o1_len, len_tup, len_lst, len_dct, len_scr, o1_tuple_tup, o1_tuple_lst, o1_list_tup, o1_list_lst, o1_list_dct, o1_sorted_tup, o1_sorted_lst, o1_all, o1_abs, o1_int_int, o1_int_bl, o1_rev_tup, o1_rev_lst, o1_isTrue, o1_notTrue, o1_isFalse, o1_notFalse, setE, storeP, thaw, rdO, ofE_some, ofE_none, bind_ok, bind_exc, bind_stuck, nox_ok, of_some, of_none, out_ok, out_exc, out_stuck, then_nx, then_rt, then_exc, then_stuck, Fin_rt, Fin_nx, FinX_exc, Nxt_nx, List.getElem?_cons_zero, List.getElem?_cons_succ, List.set_cons_zero, List.set_cons_succ, wipeE, Option.bind_some, Option.bind_none, Option.map_some, Option.map_none, Option.some.injEq, isNonE, ite_ok, ite_int, ite_bl, Bool.if_true_left, Bool.if_false_right, Bool.if_true_right, Bool.if_false_left, if_true, if_false, Bool.false_eq_true, Bool.true_eq_false, reduceIte, ite_true, ite_false, decide_eq_true_eq, decide_true, decide_false, Bool.not_true, Bool.not_false, Bool.and_true, Bool.true_and, Bool.and_false, Bool.false_and, Bool.not_eq_true', decide_eq_false_iff_not, Bool.decide_eq_true, q]
    | _ => simp [sameN] at h
theorem same_int (m : Nat) (i : Int) : sameN (m + 1) (.int i) = true := rfl
theorem same_tI (m : Nat) {l : List Int} (h : l.length ≤ LIM) : sameN (m + 2) (tupI l) = true := by
  show (decide ((l.map D.int).length ≤ LIM) && allL (sameN (m + 1)) (l.map D.int)) = true
  rw [List.length_map, decide_eq_true h, allL_map fun _ _ => rfl]
  rfl
theorem same_tN (m : Nat) {l : List (List Int)} (h : l.length ≤ LIM) (h2 : ∀ x ∈ l, x.length ≤ LIM) : sameN (m + 3) (tupN l) = true := by
  show (decide ((l.map tupI).length ≤ LIM) && allL (sameN (m + 2)) (l.map tupI)) = true
  rw [List.length_map, decide_eq_true h, allL_map fun x hx => same_tI m (h2 x hx)]
  rfl
/-! ### words of errors -/
def ntW : List Nat := [110, 111, 32, 116, 114, 97, 99, 107]
def neW : List Nat := [110, 111, 32, 101, 118, 101, 110, 116]
end Nt
set_option autoImplicit false
set_option linter.all false
set_option maxRecDepth 10000
/-! S3: deeds, tracks -/
namespace Nt
variable {G : Glob} {T : Table} {n : Nat}
abbrev Ltr := _root_.Fin 26
inductive Deed
  | on (c k f : Int) | off (c k : Int) | set (c k v : Int) | voice (c k : Int) | tempo (m : Int) | time (u l : Int) | word (w : List (Ltr))
  deriving DecidableEq
def letters (w : List (Ltr)) : List Nat := w.map fun i => 97 + i.val
def encD : Deed → D
  | .on c k f => .tup [.str [111, 110], .int c, .int k, .int f]
  | .off c k => .tup [.str [111, 102, 102], .int c, .int k]
  | .set c k v => .tup [.str [115, 101, 116], .int c, .int k, .int v]
  | .voice c k => .tup [.str [118, 111, 105, 99, 101], .int c, .int k]
  | .tempo m => .tup [.str [116, 101, 109, 112, 111], .int m]
  | .time u l => .tup [.str [116, 105, 109, 101], .int u, .int l]
  | .word w => .tup [.str [119, 111, 114, 100], .str (letters w)]
theorem letters_inj {a b : List (Ltr)} : letters a = letters b ↔ a = b := by
  constructor
  · intro h
    refine (List.map_inj_right (f := fun i : Ltr => 97 + i.val) fun x y h => ?_).mp h
    exact _root_.Fin.ext (by omega)
  · intro h; rw [h]
theorem letters_ok (w : List (Ltr)) : (letters w).all (fun c => decide (c < 1114112)) = true := by
  rw [letters, List.all_map, List.all_eq_true]
  intro x _
  have := x.isLt
  simp; omega
instance instDeed : Enc Deed where
  enc := encD
  dep := 2
  plain n a h := by
    obtain ⟨m, rfl⟩ : ∃ m, n = m + 2 := ⟨n - 2, by omega⟩
    cases a <;> simp [encD, plainN, allL]
    exact fun x hx => by simpa using (List.all_eq_true.mp (letters_ok _) x hx)
  eq n a b h := by
    obtain ⟨m, rfl⟩ : ∃ m, n = m + 2 := ⟨n - 2, by omega⟩
    rw [Bool.eq_iff_iff]
    cases a <;> cases b <;> simp [encD, eqN, eqL, letters_inj, and_assoc]
abbrev Ev := Int × Deed
def encE (p : Ev) : D := .tup [.int p.1, encD p.2]
instance instEv : Enc Ev where
  enc := encE
  dep := 3
  plain n a h := by
    obtain ⟨m, rfl⟩ : ∃ m, n = m + 2 := ⟨n - 2, by omega⟩
    have := Enc.plain (α := Deed) (m + 1) a.2 (by show 2 ≤ m + 1; omega)
    show plainN (m + 2) (.tup [.int a.1, encD a.2]) = true
    simp only [plainN, allL, Bool.true_and, Bool.and_true]
    exact this
  eq n a b h := by
    obtain ⟨m, rfl⟩ : ∃ m, n = m + 2 := ⟨n - 2, by omega⟩
    have := Enc.eq (α := Deed) (m + 1) a.2 b.2 (by show 2 ≤ m + 1; omega)
    have e : eqN (m + 1) (encD a.2) (encD b.2) = decide (a.2 = b.2) := this
    show ((a.1 == b.1) && (eqN (m + 1) (encD a.2) (encD b.2) && true)) = _
    rw [e]
    obtain ⟨a1, a2⟩ := a
    obtain ⟨b1, b2⟩ := b
    rw [Bool.eq_iff_iff]
    simp
abbrev tupE (l : List Ev) : D := .tup (l.map encE)
theorem eqD_D (a b : Deed) : eqD (encD a) (encD b) = some (decide (a = b)) := eqD_enc (α := Deed) (by decide) a b
theorem eqD_E (a b : Ev) : eqD (encE a) (encE b) = some (decide (a = b)) := eqD_enc (α := Ev) (by decide) a b
theorem eqD_tE (a b : List Ev) : eqD (tupE a) (tupE b) = some (decide (a = b)) := eqD_enc (α := List Ev) (by decide) a b
theorem plain_D (a : Deed) : plainN DEP (encD a) = true := plain_enc (α := Deed) (by decide) a
theorem plain_E (a : Ev) : plainN DEP (encE a) = true := plain_enc (α := Ev) (by decide) a
theorem plain_tE (a : List Ev) : plainN DEP (tupE a) = true := plain_enc (α := List Ev) (by decide) a
theorem same_D (m : Nat) (d : Deed) : sameN (m + 2) (encD d) = true := by
  cases d <;> try rfl
  rename_i w
  show (decide (2 ≤ LIM) && (true && ((letters w).all (fun c => decide (c < 1114112)) && true))) = true
  rw [letters_ok]; rfl
theorem same_E (m : Nat) (p : Ev) : sameN (m + 3) (encE p) = true := by
  show (decide (2 ≤ LIM) && (true && (sameN (m + 2) (encD p.2) && true))) = true
  rw [same_D]; rfl
theorem same_tE (m : Nat) {l : List Ev} (h : l.length ≤ LIM) : sameN (m + 4) (tupE l) = true := by
  show (decide ((l.map encE).length ≤ LIM) && allL (sameN (m + 3)) (l.map encE)) = true
  rw [List.length_map, decide_eq_true h, allL_map fun x _ => same_E m x]; rfl
theorem same_tD (m : Nat) {l : List Deed} (h : l.length ≤ LIM) : sameN (m + 3) (.tup (l.map encD)) = true := by
  show (decide ((l.map encD).length ≤ LIM) && allL (sameN (m + 2)) (l.map encD)) = true
  rw [List.length_map, decide_eq_true h, allL_map fun x _ => same_D m x]; rfl
theorem same_two (m : Nat) {a b : D} (ha : sameN m a = true) (hb : sameN m b = true) : sameN (m + 1) (.tup [a, b]) = true := by
  show (decide (2 ≤ LIM) && (sameN m a && (sameN m b && true))) = true
  rw [ha, hb]; rfl
theorem encE_eq (t : Int) (d : Deed) : encE (t, d) = .tup [.int t, encD d] := rfl
/-! ### drawn deeds -/
def words : List (List (Ltr)) := [[0], [25, 25], [11, 0], [4, 8, 6, 7, 19, 11, 4, 19]]
def wordAt (m : Int) : List (Ltr) := words[m.toNat]?.getD [0]
def lawDeed (c : Int) : Deed :=
  if mix c 9973 16 < 6 then .on (mix c 9967 2) (60 + mix c 9949 3) (pick [1, 64, 127, 64] (mix c 9941 4))
  else if mix c 9973 16 < 11 then .off (mix c 9967 2) (60 + mix c 9949 3)
  else if mix c 9973 16 = 11 then .set (mix c 9967 2) (pick [7, 64] (mix c 9931 2)) (pick [0, 127, 90] (mix c 9929 3))
  else if mix c 9973 16 = 12 then .voice (mix c 9967 2) (pick [0, 40, 127] (mix c 9923 3))
  else if mix c 9973 16 = 13 then .tempo (pick [500000, 250000, 1, 9999999, 333333] (mix c 9907 5))
  else if mix c 9973 16 = 14 then .time (1 + mix c 9901 12) (pick [1, 2, 4, 8] (mix c 9887 4))
  else .word (wordAt (mix c 9883 4))
theorem idxWord {m : Int} (h0 : 0 ≤ m) (h1 : m < 4) : idxD (.tup [.str [97], .str [122, 122], .str [108, 97], .str [101, 105, 103, 104, 116, 108, 101, 116]]) (.int m) = some (.str (letters (wordAt m))) := by
  rcases (by omega : m = 0 ∨ m = 1 ∨ m = 2 ∨ m = 3) with rfl | rfl | rfl | rfl <;> rfl
theorem eqv_int (a b : Int) : eqVal (.int a) (.int b) = some (.bl (decide (a = b))) := by rw [eqVal, eqD_int]; rfl
theorem nev_int (a b : Int) : neVal (.int a) (.int b) = some (.bl (!decide (a = b))) := by rw [neVal, eqD_int]; rfl
theorem lawDeedS {f f1 : Nat} (hT : T f = some (.code (c__law_deed f1))) (h1 : T f1 = some (.code c__law_mix)) (c : Int) (s : Store) :
    callOf (run G T (n + 2)) f [.val (.int c)] s = .ok (encD (lawDeed c)) s := by
  refine callOf_ok hT rfl rfl ?_
  have m := fun c p mm s (h0 : 0 < p) (h2 : p < 18446744073709551616) (h3 : 0 < mm) (h4 : mm < 18446744073709551616) => mixS (G := G) (n := n) h1 c p mm s h0 h2 h3 h4
  have p1 := idxPick [1, 64, 127, 64] (mix_nonneg c 9941 4 (by decide)) (mix_lt _ _ _ (by decide)) (by decide)
  have p2 := idxPick [7, 64] (mix_nonneg c 9931 2 (by decide)) (mix_lt _ _ _ (by decide)) (by decide)
  have p3 := idxPick [0, 127, 90] (mix_nonneg c 9929 3 (by decide)) (mix_lt _ _ _ (by decide)) (by decide)
  have p4 := idxPick [0, 40, 127] (mix_nonneg c 9923 3 (by decide)) (mix_lt _ _ _ (by decide)) (by decide)
  have p5 := idxPick [500000, 250000, 1, 9999999, 333333] (mix_nonneg c 9907 5 (by decide)) (mix_lt _ _ _ (by decide)) (by decide)
  have p6 := idxPick [1, 2, 4, 8] (mix_nonneg c 9887 4 (by decide)) (mix_lt _ _ _ (by decide)) (by decide)
  simp only [List.map_cons, List.map_nil] at p1 p2 p3 p4 p5 p6
  have p7 := idxWord (mix_nonneg c 9883 4 (by decide)) (mix_lt _ _ _ (by decide))
  simp only [c__law_deed, Def.body, Def.slots, Def.params, startE, List.map_cons, List.map_nil, List.cons_append, List.nil_append, List.append_nil, List.reduceReplicate, List.length_cons, List.length_nil, Nat.reduceAdd, Nat.reduceSub, Nat.reduceLT, Nat.reduceLeDiff, Nat.zero_add, execs_nil, execs_cons, sq_nx, sq_rt, sq_exc, sq_stuck, bE_ok, bE_exc, bEs_ok, bEs_exc, bA_ok, bA_exc, bE2_ok, kAnd_ok, kOr_ok, kIf_ok, kIfS_ok, kIfS_exc, kCh_ok, kCh2_ok, kBand_ok, kBor_ok, kSl_ok, kSl2_ok, evEs_nil, evEs_cons, evA_nil, evA_val, evT_and, evT_or, evT_not, evT_v, evT_yes, evI_of, evI_rng1, evI_rng2, evI_enum, evI_zip2, evI_zip3, dsp_some, evE_cst, evE_gl, evE_inR, inR_int, evEvar, evE_peek, gv_val, gp_own, evE_tup, evE_lst, evE_o1, evE_o2, evE_o3, evE_dct, evE_chain, chn_bl, evE_band, bnd_bl, evE_bor, bor_bl, evE_bnot, evE_ifx, evE_slc, evE_call, evE_lc, exec_asg, exec_par, prO_some, exec_own, exec_app, apO_own, exec_ext, exO_lst, exec_seti, stO_own, poO_some, exec_ifs, exec_for, exec_whl, exec_ret, exec_retN, exec_ex, exec_raise, exec_pass, exec_kill, exec_freeze, exec_try, tryO_nx, tryO_rt, tryO_1, tryO_2, tryO_3, tryO_4, tryO_5, tryO_6, fzO_lst, fzO_dct, bindT_v, bindT_tup, bindT_lst, bindTs_nil, bindTs_cons, add_int, sub_int, mul_int, fdiv_int, mod_int, cmp_int, cmp_str, truth_non, truth_bl, truth_int, truth_tup, truth_lst, gI_non, gI_int, items_tup, items_lst, items_str, zipOf_tup, zipOf_lst, zip3_tup, zipD_map, ixT0, ixT1, ixT2, ixT3, ixT4, ixL0, ixL1, slT_n2, slT_n3, slT_1n, slT_2n, slT_3n, slT_m1, o2_add, o2_sub, o2_mul, o2_fdiv, o2_mod, o2_eq, o2_ne, o2_lt, o2_le, o2_gt, o2_ge, o2_inn, o2_notin, o2_idx, o2_max, o2_min, o1_neg, o1_len, len_tup, len_lst, len_dct, len_scr, o1_tuple_tup, o1_tuple_lst, o1_list_tup, o1_list_lst, o1_list_dct, o1_sorted_tup, o1_sorted_lst, o1_all, o1_abs, o1_int_int, o1_int_bl, o1_rev_tup, o1_rev_lst, o1_isTrue, o1_notTrue, o1_isFalse, o1_notFalse, setE, storeP, thaw, rdO, ofE_some, ofE_none, bind_ok, bind_exc, bind_stuck, nox_ok, of_some, of_none, out_ok, out_exc, out_stuck, then_nx, then_rt, then_exc, then_stuck, Fin_rt, Fin_nx, FinX_exc, Nxt_nx, List.getElem?_cons_zero, List.getElem?_cons_succ, List.set_cons_zero, List.set_cons_succ, wipeE, Option.bind_some, Option.bind_none, Option.map_some, Option.map_none, Option.some.injEq, isNonE, ite_ok, ite_int, ite_bl, Bool.if_true_left, Bool.if_false_right, Bool.if_true_right, Bool.if_false_left, if_true, if_false, Bool.false_eq_true, Bool.true_eq_false, reduceIte, ite_true, ite_false, decide_eq_true_eq, decide_true, decide_false, Bool.not_true, Bool.not_false, Bool.and_true, Bool.true_and, Bool.and_false, Bool.false_and, Bool.not_eq_true', decide_eq_false_iff_not, Bool.decide_eq_true, m c 9973 16 _ (by decide) (by decide) (by decide) (by decide), m c 9967 2 _ (by decide) (by decide) (by decide) (by decide), m c 9949 3 _ (by decide) (by decide) (by decide) (by decide)]
  unfold lawDeed
  by_cases a1 : mix c 9973 16 < 6
  · simp only [Def.body, Def.slots, Def.params, startE, List.map_cons, List.map_nil, List.cons_append, List.nil_append, List.append_nil, List.reduceReplicate, List.length_cons, List.length_nil, Nat.reduceAdd, Nat.reduceSub, Nat.reduceLT, Nat.reduceLeDiff, Nat.zero_add, execs_nil, execs_cons, sq_nx, sq_rt, sq_exc, sq_stuck, bE_ok, bE_exc, bEs_ok, bEs_exc, bA_ok, bA_exc, bE2_ok, kAnd_ok, kOr_ok, kIf_ok, kIfS_ok, kIfS_exc, kCh_ok, kCh2_ok, kBand_ok, kBor_ok, kSl_ok, kSl2_ok, evEs_nil, evEs_cons, evA_nil, evA_val, evT_and, evT_or, evT_not, evT_v, evT_yes, evI_of, evI_rng1, evI_rng2, evI_enum, evI_zip2, evI_zip3, dsp_some, evE_cst, evE_gl, evE_inR, inR_int, evEvar, evE_peek, gv_val, gp_own, evE_tup, evE_lst, evE_o1, evE_o2, evE_o3, evE_dct, evE_chain, chn_bl, evE_band, bnd_bl, evE_bor, bor_bl, evE_bnot, evE_ifx, evE_slc, evE_call, evE_lc, exec_asg, exec_par, prO_some, exec_own, exec_app, apO_own, exec_ext, exO_lst, exec_seti, stO_own, poO_some, exec_ifs, exec_for, exec_whl, exec_ret, exec_retN, exec_ex, exec_raise, exec_pass, exec_kill, exec_freeze, exec_try, tryO_nx, tryO_rt, tryO_1, tryO_2, tryO_3, tryO_4, tryO_5, tryO_6, fzO_lst, fzO_dct, bindT_v, bindT_tup, bindT_lst, bindTs_nil, bindTs_cons, add_int, sub_int, mul_int, fdiv_int, mod_int, cmp_int, cmp_str, truth_non, truth_bl, truth_int, truth_tup, truth_lst, gI_non, gI_int, items_tup, items_lst, items_str, zipOf_tup, zipOf_lst, zip3_tup, zipD_map, ixT0, ixT1, ixT2, ixT3, ixT4, ixL0, ixL1, slT_n2, slT_n3, slT_1n, slT_2n, slT_3n, slT_m1, o2_add, o2_sub, o2_mul, o2_fdiv, o2_mod, o2_eq, o2_ne, o2_lt, o2_le, o2_gt, o2_ge, o2_inn, o2_notin, o2_idx, o2_max, o2_min, o1_neg, o1_len, len_tup, len_lst, len_dct, len_scr, o1_tuple_tup, o1_tuple_lst, o1_list_tup, o1_list_lst, o1_list_dct, o1_sorted_tup, o1_sorted_lst, o1_all, o1_abs, o1_int_int, o1_int_bl, o1_rev_tup, o1_rev_lst, o1_isTrue, o1_notTrue, o1_isFalse, o1_notFalse, setE, storeP, thaw, rdO, ofE_some, ofE_none, bind_ok, bind_exc, bind_stuck, nox_ok, of_some, of_none, out_ok, out_exc, out_stuck, then_nx, then_rt, then_exc, then_stuck, Fin_rt, Fin_nx, FinX_exc, Nxt_nx, List.getElem?_cons_zero, List.getElem?_cons_succ, List.set_cons_zero, List.set_cons_succ, wipeE, Option.bind_some, Option.bind_none, Option.map_some, Option.map_none, Option.some.injEq, isNonE, ite_ok, ite_int, ite_bl, Bool.if_true_left, Bool.if_false_right, Bool.if_true_right, Bool.if_false_left, if_true, if_false, Bool.false_eq_true, Bool.true_eq_false, reduceIte, ite_true, ite_false, decide_eq_true_eq, decide_true, decide_false, Bool.not_true, Bool.not_false, Bool.and_true, Bool.true_and, Bool.and_false, Bool.false_and, Bool.not_eq_true', decide_eq_false_iff_not, Bool.decide_eq_true, a1, m c 9941 4 _ (by decide) (by decide) (by decide) (by decide), p1, encD]
  · by_cases a2 : mix c 9973 16 < 11
    · simp only [Def.body, Def.slots, Def.params, startE, List.map_cons, List.map_nil, List.cons_append, List.nil_append, List.append_nil, List.reduceReplicate, List.length_cons, List.length_nil, Nat.reduceAdd, Nat.reduceSub, Nat.reduceLT, Nat.reduceLeDiff, Nat.zero_add, execs_nil, execs_cons, sq_nx, sq_rt, sq_exc, sq_stuck, bE_ok, bE_exc, bEs_ok, bEs_exc, bA_ok, bA_exc, bE2_ok, kAnd_ok, kOr_ok, kIf_ok, kIfS_ok, kIfS_exc, kCh_ok, kCh2_ok, kBand_ok, kBor_ok, kSl_ok, kSl2_ok, evEs_nil, evEs_cons, evA_nil, evA_val, evT_and, evT_or, evT_not, evT_v, evT_yes, evI_of, evI_rng1, evI_rng2, evI_enum, evI_zip2, evI_zip3, dsp_some, evE_cst, evE_gl, evE_inR, inR_int, evEvar, evE_peek, gv_val, gp_own, evE_tup, evE_lst, evE_o1, evE_o2, evE_o3, evE_dct, evE_chain, chn_bl, evE_band, bnd_bl, evE_bor, bor_bl, evE_bnot, evE_ifx, evE_slc, evE_call, evE_lc, exec_asg, exec_par, prO_some, exec_own, exec_app, apO_own, exec_ext, exO_lst, exec_seti, stO_own, poO_some, exec_ifs, exec_for, exec_whl, exec_ret, exec_retN, exec_ex, exec_raise, exec_pass, exec_kill, exec_freeze, exec_try, tryO_nx, tryO_rt, tryO_1, tryO_2, tryO_3, tryO_4, tryO_5, tryO_6, fzO_lst, fzO_dct, bindT_v, bindT_tup, bindT_lst, bindTs_nil, bindTs_cons, add_int, sub_int, mul_int, fdiv_int, mod_int, cmp_int, cmp_str, truth_non, truth_bl, truth_int, truth_tup, truth_lst, gI_non, gI_int, items_tup, items_lst, items_str, zipOf_tup, zipOf_lst, zip3_tup, zipD_map, ixT0, ixT1, ixT2, ixT3, ixT4, ixL0, ixL1, slT_n2, slT_n3, slT_1n, slT_2n, slT_3n, slT_m1, o2_add, o2_sub, o2_mul, o2_fdiv, o2_mod, o2_eq, o2_ne, o2_lt, o2_le, o2_gt, o2_ge, o2_inn, o2_notin, o2_idx, o2_max, o2_min, o1_neg, o1_len, len_tup, len_lst, len_dct, len_scr, o1_tuple_tup, o1_tuple_lst, o1_list_tup, o1_list_lst, o1_list_dct, o1_sorted_tup, o1_sorted_lst, o1_all, o1_abs, o1_int_int, o1_int_bl, o1_rev_tup, o1_rev_lst, o1_isTrue, o1_notTrue, o1_isFalse, o1_notFalse, setE, storeP, thaw, rdO, ofE_some, ofE_none, bind_ok, bind_exc, bind_stuck, nox_ok, of_some, of_none, out_ok, out_exc, out_stuck, then_nx, then_rt, then_exc, then_stuck, Fin_rt, Fin_nx, FinX_exc, Nxt_nx, List.getElem?_cons_zero, List.getElem?_cons_succ, List.set_cons_zero, List.set_cons_succ, wipeE, Option.bind_some, Option.bind_none, Option.map_some, Option.map_none, Option.some.injEq, isNonE, ite_ok, ite_int, ite_bl, Bool.if_true_left, Bool.if_false_right, Bool.if_true_right, Bool.if_false_left, if_true, if_false, Bool.false_eq_true, Bool.true_eq_false, reduceIte, ite_true, ite_false, decide_eq_true_eq, decide_true, decide_false, Bool.not_true, Bool.not_false, Bool.and_true, Bool.true_and, Bool.and_false, Bool.false_and, Bool.not_eq_true', decide_eq_false_iff_not, Bool.decide_eq_true, a1, a2, encD]
    · by_cases a3 : mix c 9973 16 = 11
      · simp only [Def.body, Def.slots, Def.params, startE, List.map_cons, List.map_nil, List.cons_append, List.nil_append, List.append_nil, List.reduceReplicate, List.length_cons, List.length_nil, Nat.reduceAdd, Nat.reduceSub, Nat.reduceLT, Nat.reduceLeDiff, Nat.zero_add, execs_nil, execs_cons, sq_nx, sq_rt, sq_exc, sq_stuck, bE_ok, bE_exc, bEs_ok, bEs_exc, bA_ok, bA_exc, bE2_ok, kAnd_ok, kOr_ok, kIf_ok, kIfS_ok, kIfS_exc, kCh_ok, kCh2_ok, kBand_ok, kBor_ok, kSl_ok, kSl2_ok, evEs_nil, evEs_cons, evA_nil, evA_val, evT_and, evT_or, evT_not, evT_v, evT_yes, evI_of, evI_rng1, evI_rng2, evI_enum, evI_zip2, evI_zip3, dsp_some, evE_cst, evE_gl, evE_inR, inR_int, evEvar, evE_peek, gv_val, gp_own, evE_tup, evE_lst, evE_o1, evE_o2, evE_o3, evE_dct, evE_chain, chn_bl, evE_band, bnd_bl, evE_bor, bor_bl, evE_bnot, evE_ifx, evE_slc, evE_call, evE_lc, exec_asg, exec_par, prO_some, exec_own, exec_app, apO_own, exec_ext, exO_lst, exec_seti, stO_own, poO_some, exec_ifs, exec_for, exec_whl, exec_ret, exec_retN, exec_ex, exec_raise, exec_pass, exec_kill, exec_freeze, exec_try, tryO_nx, tryO_rt, tryO_1, tryO_2, tryO_3, tryO_4, tryO_5, tryO_6, fzO_lst, fzO_dct, bindT_v, bindT_tup, bindT_lst, bindTs_nil, bindTs_cons, add_int, sub_int, mul_int, fdiv_int, mod_int, cmp_int, cmp_str, truth_non, truth_bl, truth_int, truth_tup, truth_lst, gI_non, gI_int, items_tup, items_lst, items_str, zipOf_tup, zipOf_lst, zip3_tup, zipD_map, ixT0, ixT1, ixT2, ixT3, ixT4, ixL0, ixL1, slT_n2, slT_n3, slT_1n, slT_2n, slT_3n, slT_m1, o2_add, o2_sub, o2_mul, o2_fdiv, o2_mod, o2_eq, o2_ne, o2_lt, o2_le, o2_gt, o2_ge, o2_inn, o2_notin, o2_idx, o2_max, o2_min, o1_neg, o1_len, len_tup, len_lst, len_dct, len_scr, o1_tuple_tup, o1_tuple_lst, o1_list_tup, o1_list_lst, o1_list_dct, o1_sorted_tup, o1_sorted_lst, o1_all, o1_abs, o1_int_int, o1_int_bl, o1_rev_tup, o1_rev_lst, o1_isTrue, o1_notTrue, o1_isFalse, o1_notFalse, setE, storeP, thaw, rdO, ofE_some, ofE_none, bind_ok, bind_exc, bind_stuck, nox_ok, of_some, of_none, out_ok, out_exc, out_stuck, then_nx, then_rt, then_exc, then_stuck, Fin_rt, Fin_nx, FinX_exc, Nxt_nx, List.getElem?_cons_zero, List.getElem?_cons_succ, List.set_cons_zero, List.set_cons_succ, wipeE, Option.bind_some, Option.bind_none, Option.map_some, Option.map_none, Option.some.injEq, isNonE, ite_ok, ite_int, ite_bl, Bool.if_true_left, Bool.if_false_right, Bool.if_true_right, Bool.if_false_left, if_true, if_false, Bool.false_eq_true, Bool.true_eq_false, reduceIte, ite_true, ite_false, decide_eq_true_eq, decide_true, decide_false, Bool.not_true, Bool.not_false, Bool.and_true, Bool.true_and, Bool.and_false, Bool.false_and, Bool.not_eq_true', decide_eq_false_iff_not, Bool.decide_eq_true, a1, a2, a3, Int.reduceLT, Int.reduceEq, eqv_int, m c 9931 2 _ (by decide) (by decide) (by decide) (by decide), m c 9929 3 _ (by decide) (by decide) (by decide) (by decide), p2, p3, encD]
      · by_cases a4 : mix c 9973 16 = 12
        · simp only [Def.body, Def.slots, Def.params, startE, List.map_cons, List.map_nil, List.cons_append, List.nil_append, List.append_nil, List.reduceReplicate, List.length_cons, List.length_nil, Nat.reduceAdd, Nat.reduceSub, Nat.reduceLT, Nat.reduceLeDiff, Nat.zero_add, execs_nil, execs_cons, sq_nx, sq_rt, sq_exc, sq_stuck, bE_ok, bE_exc, bEs_ok, bEs_exc, bA_ok, bA_exc, bE2_ok, kAnd_ok, kOr_ok, kIf_ok, kIfS_ok, kIfS_exc, kCh_ok, kCh2_ok, kBand_ok, kBor_ok, kSl_ok, kSl2_ok, evEs_nil, evEs_cons, evA_nil, evA_val, evT_and, evT_or, evT_not, evT_v, evT_yes, evI_of, evI_rng1, evI_rng2, evI_enum, evI_zip2, evI_zip3, dsp_some, evE_cst, evE_gl, evE_inR, inR_int, evEvar, evE_peek, gv_val, gp_own, evE_tup, evE_lst, evE_o1, evE_o2, evE_o3, evE_dct, evE_chain, chn_bl, evE_band, bnd_bl, evE_bor, bor_bl, evE_bnot, evE_ifx, evE_slc, evE_call, evE_lc, exec_asg, exec_par, prO_some, exec_own, exec_app, apO_own, exec_ext, exO_lst, exec_seti, stO_own, poO_some, exec_ifs, exec_for, exec_whl, exec_ret, exec_retN, exec_ex, exec_raise, exec_pass, exec_kill, exec_freeze, exec_try, tryO_nx, tryO_rt, tryO_1, tryO_2, tryO_3, tryO_4, tryO_5, tryO_6, fzO_lst, fzO_dct, bindT_v, bindT_tup, bindT_lst, bindTs_nil, bindTs_cons, add_int, sub_int, mul_int, fdiv_int, mod_int, cmp_int, cmp_str, truth_non, truth_bl, truth_int, truth_tup, truth_lst, gI_non, gI_int, items_tup, items_lst, items_str, zipOf_tup, zipOf_lst, zip3_tup, zipD_map, ixT0, ixT1, ixT2, ixT3, ixT4, ixL0, ixL1, slT_n2, slT_n3, slT_1n, slT_2n, slT_3n, slT_m1, o2_add, o2_sub, o2_mul, o2_fdiv, o2_mod, o2_eq, o2_ne, o2_lt, o2_le, o2_gt, o2_ge, o2_inn, o2_notin, o2_idx, o2_max, o2_min, o1_neg, o1_len, len_tup, len_lst, len_dct, len_scr, o1_tuple_tup, o1_tuple_lst, o1_list_tup, o1_list_lst, o1_list_dct, o1_sorted_tup, o1_sorted_lst, o1_all, o1_abs, o1_int_int, o1_int_bl, o1_rev_tup, o1_rev_lst, o1_isTrue, o1_notTrue, o1_isFalse, o1_notFalse, setE, storeP, thaw, rdO, ofE_some, ofE_none, bind_ok, bind_exc, bind_stuck, nox_ok, of_some, of_none, out_ok, out_exc, out_stuck, then_nx, then_rt, then_exc, then_stuck, Fin_rt, Fin_nx, FinX_exc, Nxt_nx, List.getElem?_cons_zero, List.getElem?_cons_succ, List.set_cons_zero, List.set_cons_succ, wipeE, Option.bind_some, Option.bind_none, Option.map_some, Option.map_none, Option.some.injEq, isNonE, ite_ok, ite_int, ite_bl, Bool.if_true_left, Bool.if_false_right, Bool.if_true_right, Bool.if_false_left, if_true, if_false, Bool.false_eq_true, Bool.true_eq_false, reduceIte, ite_true, ite_false, decide_eq_true_eq, decide_true, decide_false, Bool.not_true, Bool.not_false, Bool.and_true, Bool.true_and, Bool.and_false, Bool.false_and, Bool.not_eq_true', decide_eq_false_iff_not, Bool.decide_eq_true, a1, a2, a3, a4, Int.reduceLT, Int.reduceEq, eqv_int, m c 9923 3 _ (by decide) (by decide) (by decide) (by decide), p4, encD]
        · by_cases a5 : mix c 9973 16 = 13
          · simp only [Def.body, Def.slots, Def.params, startE, List.map_cons, List.map_nil, List.cons_append, List.nil_append, List.append_nil, List.reduceReplicate, List.length_cons, List.length_nil, Nat.reduceAdd, Nat.reduceSub, Nat.reduceLT, Nat.reduceLeDiff, Nat.zero_add, execs_nil, execs_cons, sq_nx, sq_rt, sq_exc, sq_stuck, bE_ok, bE_exc, bEs_ok, bEs_exc, bA_ok, bA_exc, bE2_ok, kAnd_ok, kOr_ok, kIf_ok, kIfS_ok, kIfS_exc, kCh_ok, kCh2_ok, kBand_ok, kBor_ok, kSl_ok, kSl2_ok, evEs_nil, evEs_cons, evA_nil, evA_val, evT_and, evT_or, evT_not, evT_v, evT_yes, evI_of, evI_rng1, evI_rng2, evI_enum, evI_zip2, evI_zip3, dsp_some, evE_cst, evE_gl, evE_inR, inR_int, evEvar, evE_peek, gv_val, gp_own, evE_tup, evE_lst, evE_o1, evE_o2, evE_o3, evE_dct, evE_chain, chn_bl, evE_band, bnd_bl, evE_bor, bor_bl, evE_bnot, evE_ifx, evE_slc, evE_call, evE_lc, exec_asg, exec_par, prO_some, exec_own, exec_app, apO_own, exec_ext, exO_lst, exec_seti, stO_own, poO_some, exec_ifs, exec_for, exec_whl, exec_ret, exec_retN, exec_ex, exec_raise, exec_pass, exec_kill, exec_freeze, exec_try, tryO_nx, tryO_rt, tryO_1, tryO_2, tryO_3, tryO_4, tryO_5, tryO_6, fzO_lst, fzO_dct, bindT_v, bindT_tup, bindT_lst, bindTs_nil, bindTs_cons, add_int, sub_int, mul_int, fdiv_int, mod_int, cmp_int, cmp_str, truth_non, truth_bl, truth_int, truth_tup, truth_lst, gI_non, gI_int, items_tup, items_lst, items_str, zipOf_tup, zipOf_lst, zip3_tup, zipD_map, ixT0, ixT1, ixT2, ixT3, ixT4, ixL0, ixL1, slT_n2, slT_n3, slT_1n, slT_2n, slT_3n, slT_m1, o2_add, o2_sub, o2_mul, o2_fdiv, o2_mod, o2_eq, o2_ne, o2_lt, o2_le, o2_gt, o2_ge, o2_inn, o2_notin, o2_idx, o2_max, o2_min, o1_neg, o1_len, len_tup, len_lst, len_dct, len_scr, o1_tuple_tup, o1_tuple_lst, o1_list_tup, o1_list_lst, o1_list_dct, o1_sorted_tup, o1_sorted_lst, o1_all, o1_abs, o1_int_int, o1_int_bl, o1_rev_tup, o1_rev_lst, o1_isTrue, o1_notTrue, o1_isFalse, o1_notFalse, setE, storeP, thaw, rdO, ofE_some, ofE_none, bind_ok, bind_exc, bind_stuck, nox_ok, of_some, of_none, out_ok, out_exc, out_stuck, then_nx, then_rt, then_exc, then_stuck, Fin_rt, Fin_nx, FinX_exc, Nxt_nx, List.getElem?_cons_zero, List.getElem?_cons_succ, List.set_cons_zero, List.set_cons_succ, wipeE, Option.bind_some, Option.bind_none, Option.map_some, Option.map_none, Option.some.injEq, isNonE, ite_ok, ite_int, ite_bl, Bool.if_true_left, Bool.if_false_right, Bool.if_true_right, Bool.if_false_left, if_true, if_false, Bool.false_eq_true, Bool.true_eq_false, reduceIte, ite_true, ite_false, decide_eq_true_eq, decide_true, decide_false, Bool.not_true, Bool.not_false, Bool.and_true, Bool.true_and, Bool.and_false, Bool.false_and, Bool.not_eq_true', decide_eq_false_iff_not, Bool.decide_eq_true, a1, a2, a3, a4, a5, Int.reduceLT, Int.reduceEq, eqv_int, m c 9907 5 _ (by decide) (by decide) (by decide) (by decide), p5, encD]
          · by_cases a6 : mix c 9973 16 = 14
            · simp only [Def.body, Def.slots, Def.params, startE, List.map_cons, List.map_nil, List.cons_append, List.nil_append, List.append_nil, List.reduceReplicate, List.length_cons, List.length_nil, Nat.reduceAdd, Nat.reduceSub, Nat.reduceLT, Nat.reduceLeDiff, Nat.zero_add, execs_nil, execs_cons, sq_nx, sq_rt, sq_exc, sq_stuck, bE_ok, bE_exc, bEs_ok, bEs_exc, bA_ok, bA_exc, bE2_ok, kAnd_ok, kOr_ok, kIf_ok, kIfS_ok, kIfS_exc, kCh_ok, kCh2_ok, kBand_ok, kBor_ok, kSl_ok, kSl2_ok, evEs_nil, evEs_cons, evA_nil, evA_val, evT_and, evT_or, evT_not, evT_v, evT_yes, evI_of, evI_rng1, evI_rng2, evI_enum, evI_zip2, evI_zip3, dsp_some, evE_cst, evE_gl, evE_inR, inR_int, evEvar, evE_peek, gv_val, gp_own, evE_tup, evE_lst, evE_o1, evE_o2, evE_o3, evE_dct, evE_chain, chn_bl, evE_band, bnd_bl, evE_bor, bor_bl, evE_bnot, evE_ifx, evE_slc, evE_call, evE_lc, exec_asg, exec_par, prO_some, exec_own, exec_app, apO_own, exec_ext, exO_lst, exec_seti, stO_own, poO_some, exec_ifs, exec_for, exec_whl, exec_ret, exec_retN, exec_ex, exec_raise, exec_pass, exec_kill, exec_freeze, exec_try, tryO_nx, tryO_rt, tryO_1, tryO_2, tryO_3, tryO_4, tryO_5, tryO_6, fzO_lst, fzO_dct, bindT_v, bindT_tup, bindT_lst, bindTs_nil, bindTs_cons, add_int, sub_int, mul_int, fdiv_int, mod_int, cmp_int, cmp_str, truth_non, truth_bl, truth_int, truth_tup, truth_lst, gI_non, gI_int, items_tup, items_lst, items_str, zipOf_tup, zipOf_lst, zip3_tup, zipD_map, ixT0, ixT1, ixT2, ixT3, ixT4, ixL0, ixL1, slT_n2, slT_n3, slT_1n, slT_2n, slT_3n, slT_m1, o2_add, o2_sub, o2_mul, o2_fdiv, o2_mod, o2_eq, o2_ne, o2_lt, o2_le, o2_gt, o2_ge, o2_inn, o2_notin, o2_idx, o2_max, o2_min, o1_neg, o1_len, len_tup, len_lst, len_dct, len_scr, o1_tuple_tup, o1_tuple_lst, o1_list_tup, o1_list_lst, o1_list_dct, o1_sorted_tup, o1_sorted_lst, o1_all, o1_abs, o1_int_int, o1_int_bl, o1_rev_tup, o1_rev_lst, o1_isTrue, o1_notTrue, o1_isFalse, o1_notFalse, setE, storeP, thaw, rdO, ofE_some, ofE_none, bind_ok, bind_exc, bind_stuck, nox_ok, of_some, of_none, out_ok, out_exc, out_stuck, then_nx, then_rt, then_exc, then_stuck, Fin_rt, Fin_nx, FinX_exc, Nxt_nx, List.getElem?_cons_zero, List.getElem?_cons_succ, List.set_cons_zero, List.set_cons_succ, wipeE, Option.bind_some, Option.bind_none, Option.map_some, Option.map_none, Option.some.injEq, isNonE, ite_ok, ite_int, ite_bl, Bool.if_true_left, Bool.if_false_right, Bool.if_true_right, Bool.if_false_left, if_true, if_false, Bool.false_eq_true, Bool.true_eq_false, reduceIte, ite_true, ite_false, decide_eq_true_eq, decide_true, decide_false, Bool.not_true, Bool.not_false, Bool.and_true, Bool.true_and, Bool.and_false, Bool.false_and, Bool.not_eq_true', decide_eq_false_iff_not, Bool.decide_eq_true, a1, a2, a3, a4, a5, a6, Int.reduceLT, Int.reduceEq, eqv_int, m c 9901 12 _ (by decide) (by decide) (by decide) (by decide), m c 9887 4 _ (by decide) (by decide) (by decide) (by decide), p6, encD]
            · simp only [Def.body, Def.slots, Def.params, startE, List.map_cons, List.map_nil, List.cons_append, List.nil_append, List.append_nil, List.reduceReplicate, List.length_cons, List.length_nil, Nat.reduceAdd, Nat.reduceSub, Nat.reduceLT, Nat.reduceLeDiff, Nat.zero_add, execs_nil, execs_cons, sq_nx, sq_rt, sq_exc, sq_stuck, bE_ok, bE_exc, bEs_ok, bEs_exc, bA_ok, bA_exc, bE2_ok, kAnd_ok, kOr_ok, kIf_ok, kIfS_ok, kIfS_exc, kCh_ok, kCh2_ok, kBand_ok, kBor_ok, kSl_ok, kSl2_ok, evEs_nil, evEs_cons, evA_nil, evA_val, evT_and, evT_or, evT_not, evT_v, evT_yes, evI_of, evI_rng1, evI_rng2, evI_enum, evI_zip2, evI_zip3, dsp_some, evE_cst, evE_gl, evE_inR, inR_int, evEvar, evE_peek, gv_val, gp_own, evE_tup, evE_lst, evE_o1, evE_o2, evE_o3, evE_dct, evE_chain, chn_bl, evE_band, bnd_bl, evE_bor, bor_bl, evE_bnot, evE_ifx, evE_slc, evE_call, evE_lc, exec_asg, exec_par, prO_some, exec_own, exec_app, apO_own, exec_ext, exO_lst, exec_seti, stO_own, poO_some, exec_ifs, exec_for, exec_whl, exec_ret, exec_retN, exec_ex, exec_raise, exec_pass, exec_kill, exec_freeze, exec_try, tryO_nx, tryO_rt, tryO_1, tryO_2, tryO_3, tryO_4, tryO_5, tryO_6, fzO_lst, fzO_dct, bindT_v, bindT_tup, bindT_lst, bindTs_nil, bindTs_cons, add_int, sub_int, mul_int, fdiv_int, mod_int, cmp_int, cmp_str, truth_non, truth_bl, truth_int, truth_tup, truth_lst, gI_non, gI_int, items_tup, items_lst, items_str, zipOf_tup, zipOf_lst, zip3_tup, zipD_map, ixT0, ixT1, ixT2, ixT3, ixT4, ixL0, ixL1, slT_n2, slT_n3, slT_1n, slT_2n, slT_3n, slT_m1, o2_add, o2_sub, o2_mul, o2_fdiv, o2_mod, o2_eq, o2_ne, o2_lt, o2_le, o2_gt, o2_ge, o2_inn, o2_notin, o2_idx, o2_max, o2_min, o1_neg, o1_len, len_tup, len_lst, len_dct, len_scr, o1_tuple_tup, o1_tuple_lst, o1_list_tup, o1_list_lst, o1_list_dct, o1_sorted_tup, o1_sorted_lst, o1_all, o1_abs, o1_int_int, o1_int_bl, o1_rev_tup, o1_rev_lst, o1_isTrue, o1_notTrue, o1_isFalse, o1_notFalse, setE, storeP, thaw, rdO, ofE_some, ofE_none, bind_ok, bind_exc, bind_stuck, nox_ok, of_some, of_none, out_ok, out_exc, out_stuck, then_nx, then_rt, then_exc, then_stuck, Fin_rt, Fin_nx, FinX_exc, Nxt_nx, List.getElem?_cons_zero, List.getElem?_cons_succ, List.set_cons_zero, List.set_cons_succ, wipeE, Option.bind_some, Option.bind_none, Option.map_some, Option.map_none, Option.some.injEq, isNonE, ite_ok, ite_int, ite_bl, Bool.if_true_left, Bool.if_false_right, Bool.if_true_right, Bool.if_false_left, if_true, if_false, Bool.false_eq_true, Bool.true_eq_false, reduceIte, ite_true, ite_false, decide_eq_true_eq, decide_true, decide_false, Bool.not_true, Bool.not_false, Bool.and_true, Bool.true_and, Bool.and_false, Bool.false_and, Bool.not_eq_true', decide_eq_false_iff_not, Bool.decide_eq_true, a1, a2, a3, a4, a5, a6, Int.reduceLT, Int.reduceEq, eqv_int, m c 9883 4 _ (by decide) (by decide) (by decide) (by decide), p7, encD]
def lawFar (c : Int) : Deed :=
  if mix c 9871 4 = 0 then .on (mix c 9851 4) (mix c 9859 128) (if 1 < mix c 9857 128 then mix c 9857 128 else 1)
  else if mix c 9871 4 = 1 then .off (mix c 9851 4) (mix c 9859 128)
  else if mix c 9871 4 = 2 then .set (mix c 9851 4) (mix c 9859 128) (mix c 9857 128)
  else .voice (mix c 9851 4) (mix c 9859 128)
theorem lawFarS {f f1 : Nat} (hT : T f = some (.code (c__law_far_deed f1))) (h1 : T f1 = some (.code c__law_mix)) (c : Int) (s : Store) :
    callOf (run G T (n + 2)) f [.val (.int c)] s = .ok (encD (lawFar c)) s := by
  refine callOf_ok hT rfl rfl ?_
  have m := fun c p mm s (h0 : 0 < p) (h2 : p < 18446744073709551616) (h3 : 0 < mm) (h4 : mm < 18446744073709551616) => mixS (G := G) (n := n) h1 c p mm s h0 h2 h3 h4
  simp only [c__law_far_deed, Def.body, Def.slots, Def.params, startE, List.map_cons, List.map_nil, List.cons_append, List.nil_append, List.append_nil, List.reduceReplicate, List.length_cons, List.length_nil, Nat.reduceAdd, Nat.reduceSub, Nat.reduceLT, Nat.reduceLeDiff, Nat.zero_add, execs_nil, execs_cons, sq_nx, sq_rt, sq_exc, sq_stuck, bE_ok, bE_exc, bEs_ok, bEs_exc, bA_ok, bA_exc, bE2_ok, kAnd_ok, kOr_ok, kIf_ok, kIfS_ok, kIfS_exc, kCh_ok, kCh2_ok, kBand_ok, kBor_ok, kSl_ok, kSl2_ok, evEs_nil, evEs_cons, evA_nil, evA_val, evT_and, evT_or, evT_not, evT_v, evT_yes, evI_of, evI_rng1, evI_rng2, evI_enum, evI_zip2, evI_zip3, dsp_some, evE_cst, evE_gl, evE_inR, inR_int, evEvar, evE_peek, gv_val, gp_own, evE_tup, evE_lst, evE_o1, evE_o2, evE_o3, evE_dct, evE_chain, chn_bl, evE_band, bnd_bl, evE_bor, bor_bl, evE_bnot, evE_ifx, evE_slc, evE_call, evE_lc, exec_asg, exec_par, prO_some, exec_own, exec_app, apO_own, exec_ext, exO_lst, exec_seti, stO_own, poO_some, exec_ifs, exec_for, exec_whl, exec_ret, exec_retN, exec_ex, exec_raise, exec_pass, exec_kill, exec_freeze, exec_try, tryO_nx, tryO_rt, tryO_1, tryO_2, tryO_3, tryO_4, tryO_5, tryO_6, fzO_lst, fzO_dct, bindT_v, bindT_tup, bindT_lst, bindTs_nil, bindTs_cons, add_int, sub_int, mul_int, fdiv_int, mod_int, cmp_int, cmp_str, truth_non, truth_bl, truth_int, truth_tup, truth_lst, gI_non, gI_int, items_tup, items_lst, items_str, zipOf_tup, zipOf_lst, zip3_tup, zipD_map, ixT0, ixT1, ixT2, ixT3, ixT4, ixL0, ixL1, slT_n2, slT_n3, slT_1n, slT_2n, slT_3n, slT_m1, o2_add, o2_sub, o2_mul, o2_fdiv, o2_mod, o2_eq, o2_ne, o2_lt, o2_le, o2_gt, o2_ge, o2_inn, o2_notin, o2_idx, o2_max, o2_min, o1_neg, o1_len, len_tup, len_lst, len_dct, len_scr, o1_tuple_tup, o1_tuple_lst, o1_list_tup, o1_list_lst, o1_list_dct, o1_sorted_tup, o1_sorted_lst, o1_all, o1_abs, o1_int_int, o1_int_bl, o1_rev_tup, o1_rev_lst, o1_isTrue, o1_notTrue, o1_isFalse, o1_notFalse, setE, storeP, thaw, rdO, ofE_some, ofE_none, bind_ok, bind_exc, bind_stuck, nox_ok, of_some, of_none, out_ok, out_exc, out_stuck, then_nx, then_rt, then_exc, then_stuck, Fin_rt, Fin_nx, FinX_exc, Nxt_nx, List.getElem?_cons_zero, List.getElem?_cons_succ, List.set_cons_zero, List.set_cons_succ, wipeE, Option.bind_some, Option.bind_none, Option.map_some, Option.map_none, Option.some.injEq, isNonE, ite_ok, ite_int, ite_bl, Bool.if_true_left, Bool.if_false_right, Bool.if_true_right, Bool.if_false_left, if_true, if_false, Bool.false_eq_true, Bool.true_eq_false, reduceIte, ite_true, ite_false, decide_eq_true_eq, decide_true, decide_false, Bool.not_true, Bool.not_false, Bool.and_true, Bool.true_and, Bool.and_false, Bool.false_and, Bool.not_eq_true', decide_eq_false_iff_not, Bool.decide_eq_true, m c 9871 4 _ (by decide) (by decide) (by decide) (by decide), m c 9859 128 _ (by decide) (by decide) (by decide) (by decide), m c 9857 128 _ (by decide) (by decide) (by decide) (by decide), m c 9851 4 _ (by decide) (by decide) (by decide) (by decide)]
  unfold lawFar
  by_cases a1 : mix c 9871 4 = 0
  · simp only [Def.body, Def.slots, Def.params, startE, List.map_cons, List.map_nil, List.cons_append, List.nil_append, List.append_nil, List.reduceReplicate, List.length_cons, List.length_nil, Nat.reduceAdd, Nat.reduceSub, Nat.reduceLT, Nat.reduceLeDiff, Nat.zero_add, execs_nil, execs_cons, sq_nx, sq_rt, sq_exc, sq_stuck, bE_ok, bE_exc, bEs_ok, bEs_exc, bA_ok, bA_exc, bE2_ok, kAnd_ok, kOr_ok, kIf_ok, kIfS_ok, kIfS_exc, kCh_ok, kCh2_ok, kBand_ok, kBor_ok, kSl_ok, kSl2_ok, evEs_nil, evEs_cons, evA_nil, evA_val, evT_and, evT_or, evT_not, evT_v, evT_yes, evI_of, evI_rng1, evI_rng2, evI_enum, evI_zip2, evI_zip3, dsp_some, evE_cst, evE_gl, evE_inR, inR_int, evEvar, evE_peek, gv_val, gp_own, evE_tup, evE_lst, evE_o1, evE_o2, evE_o3, evE_dct, evE_chain, chn_bl, evE_band, bnd_bl, evE_bor, bor_bl, evE_bnot, evE_ifx, evE_slc, evE_call, evE_lc, exec_asg, exec_par, prO_some, exec_own, exec_app, apO_own, exec_ext, exO_lst, exec_seti, stO_own, poO_some, exec_ifs, exec_for, exec_whl, exec_ret, exec_retN, exec_ex, exec_raise, exec_pass, exec_kill, exec_freeze, exec_try, tryO_nx, tryO_rt, tryO_1, tryO_2, tryO_3, tryO_4, tryO_5, tryO_6, fzO_lst, fzO_dct, bindT_v, bindT_tup, bindT_lst, bindTs_nil, bindTs_cons, add_int, sub_int, mul_int, fdiv_int, mod_int, cmp_int, cmp_str, truth_non, truth_bl, truth_int, truth_tup, truth_lst, gI_non, gI_int, items_tup, items_lst, items_str, zipOf_tup, zipOf_lst, zip3_tup, zipD_map, ixT0, ixT1, ixT2, ixT3, ixT4, ixL0, ixL1, slT_n2, slT_n3, slT_1n, slT_2n, slT_3n, slT_m1, o2_add, o2_sub, o2_mul, o2_fdiv, o2_mod, o2_eq, o2_ne, o2_lt, o2_le, o2_gt, o2_ge, o2_inn, o2_notin, o2_idx, o2_max, o2_min, o1_neg, o1_len, len_tup, len_lst, len_dct, len_scr, o1_tuple_tup, o1_tuple_lst, o1_list_tup, o1_list_lst, o1_list_dct, o1_sorted_tup, o1_sorted_lst, o1_all, o1_abs, o1_int_int, o1_int_bl, o1_rev_tup, o1_rev_lst, o1_isTrue, o1_notTrue, o1_isFalse, o1_notFalse, setE, storeP, thaw, rdO, ofE_some, ofE_none, bind_ok, bind_exc, bind_stuck, nox_ok, of_some, of_none, out_ok, out_exc, out_stuck, then_nx, then_rt, then_exc, then_stuck, Fin_rt, Fin_nx, FinX_exc, Nxt_nx, List.getElem?_cons_zero, List.getElem?_cons_succ, List.set_cons_zero, List.set_cons_succ, wipeE, Option.bind_some, Option.bind_none, Option.map_some, Option.map_none, Option.some.injEq, isNonE, ite_ok, ite_int, ite_bl, Bool.if_true_left, Bool.if_false_right, Bool.if_true_right, Bool.if_false_left, if_true, if_false, Bool.false_eq_true, Bool.true_eq_false, reduceIte, ite_true, ite_false, decide_eq_true_eq, decide_true, decide_false, Bool.not_true, Bool.not_false, Bool.and_true, Bool.true_and, Bool.and_false, Bool.false_and, Bool.not_eq_true', decide_eq_false_iff_not, Bool.decide_eq_true, a1, eqv_int, encD]
  · by_cases a2 : mix c 9871 4 = 1
    · simp only [Def.body, Def.slots, Def.params, startE, List.map_cons, List.map_nil, List.cons_append, List.nil_append, List.append_nil, List.reduceReplicate, List.length_cons, List.length_nil, Nat.reduceAdd, Nat.reduceSub, Nat.reduceLT, Nat.reduceLeDiff, Nat.zero_add, execs_nil, execs_cons, sq_nx, sq_rt, sq_exc, sq_stuck, bE_ok, bE_exc, bEs_ok, bEs_exc, bA_ok, bA_exc, bE2_ok, kAnd_ok, kOr_ok, kIf_ok, kIfS_ok, kIfS_exc, kCh_ok, kCh2_ok, kBand_ok, kBor_ok, kSl_ok, kSl2_ok, evEs_nil, evEs_cons, evA_nil, evA_val, evT_and, evT_or, evT_not, evT_v, evT_yes, evI_of, evI_rng1, evI_rng2, evI_enum, evI_zip2, evI_zip3, dsp_some, evE_cst, evE_gl, evE_inR, inR_int, evEvar, evE_peek, gv_val, gp_own, evE_tup, evE_lst, evE_o1, evE_o2, evE_o3, evE_dct, evE_chain, chn_bl, evE_band, bnd_bl, evE_bor, bor_bl, evE_bnot, evE_ifx, evE_slc, evE_call, evE_lc, exec_asg, exec_par, prO_some, exec_own, exec_app, apO_own, exec_ext, exO_lst, exec_seti, stO_own, poO_some, exec_ifs, exec_for, exec_whl, exec_ret, exec_retN, exec_ex, exec_raise, exec_pass, exec_kill, exec_freeze, exec_try, tryO_nx, tryO_rt, tryO_1, tryO_2, tryO_3, tryO_4, tryO_5, tryO_6, fzO_lst, fzO_dct, bindT_v, bindT_tup, bindT_lst, bindTs_nil, bindTs_cons, add_int, sub_int, mul_int, fdiv_int, mod_int, cmp_int, cmp_str, truth_non, truth_bl, truth_int, truth_tup, truth_lst, gI_non, gI_int, items_tup, items_lst, items_str, zipOf_tup, zipOf_lst, zip3_tup, zipD_map, ixT0, ixT1, ixT2, ixT3, ixT4, ixL0, ixL1, slT_n2, slT_n3, slT_1n, slT_2n, slT_3n, slT_m1, o2_add, o2_sub, o2_mul, o2_fdiv, o2_mod, o2_eq, o2_ne, o2_lt, o2_le, o2_gt, o2_ge, o2_inn, o2_notin, o2_idx, o2_max, o2_min, o1_neg, o1_len, len_tup, len_lst, len_dct, len_scr, o1_tuple_tup, o1_tuple_lst, o1_list_tup, o1_list_lst, o1_list_dct, o1_sorted_tup, o1_sorted_lst, o1_all, o1_abs, o1_int_int, o1_int_bl, o1_rev_tup, o1_rev_lst, o1_isTrue, o1_notTrue, o1_isFalse, o1_notFalse, setE, storeP, thaw, rdO, ofE_some, ofE_none, bind_ok, bind_exc, bind_stuck, nox_ok, of_some, of_none, out_ok, out_exc, out_stuck, then_nx, then_rt, then_exc, then_stuck, Fin_rt, Fin_nx, FinX_exc, Nxt_nx, List.getElem?_cons_zero, List.getElem?_cons_succ, List.set_cons_zero, List.set_cons_succ, wipeE, Option.bind_some, Option.bind_none, Option.map_some, Option.map_none, Option.some.injEq, isNonE, ite_ok, ite_int, ite_bl, Bool.if_true_left, Bool.if_false_right, Bool.if_true_right, Bool.if_false_left, if_true, if_false, Bool.false_eq_true, Bool.true_eq_false, reduceIte, ite_true, ite_false, decide_eq_true_eq, decide_true, decide_false, Bool.not_true, Bool.not_false, Bool.and_true, Bool.true_and, Bool.and_false, Bool.false_and, Bool.not_eq_true', decide_eq_false_iff_not, Bool.decide_eq_true, a1, a2, Int.reduceLT, Int.reduceEq, eqv_int, encD]
    · by_cases a3 : mix c 9871 4 = 2
      · simp only [Def.body, Def.slots, Def.params, startE, List.map_cons, List.map_nil, List.cons_append, List.nil_append, List.append_nil, List.reduceReplicate, List.length_cons, List.length_nil, Nat.reduceAdd, Nat.reduceSub, Nat.reduceLT, Nat.reduceLeDiff, Nat.zero_add, execs_nil, execs_cons, sq_nx, sq_rt, sq_exc, sq_stuck, bE_ok, bE_exc, bEs_ok, bEs_exc, bA_ok, bA_exc, bE2_ok, kAnd_ok, kOr_ok, kIf_ok, kIfS_ok, kIfS_exc, kCh_ok, kCh2_ok, kBand_ok, kBor_ok, kSl_ok, kSl2_ok, evEs_nil, evEs_cons, evA_nil, evA_val, evT_and, evT_or, evT_not, evT_v, evT_yes, evI_of, evI_rng1, evI_rng2, evI_enum, evI_zip2, evI_zip3, dsp_some, evE_cst, evE_gl, evE_inR, inR_int, evEvar, evE_peek, gv_val, gp_own, evE_tup, evE_lst, evE_o1, evE_o2, evE_o3, evE_dct, evE_chain, chn_bl, evE_band, bnd_bl, evE_bor, bor_bl, evE_bnot, evE_ifx, evE_slc, evE_call, evE_lc, exec_asg, exec_par, prO_some, exec_own, exec_app, apO_own, exec_ext, exO_lst, exec_seti, stO_own, poO_some, exec_ifs, exec_for, exec_whl, exec_ret, exec_retN, exec_ex, exec_raise, exec_pass, exec_kill, exec_freeze, exec_try, tryO_nx, tryO_rt, tryO_1, tryO_2, tryO_3, tryO_4, tryO_5, tryO_6, fzO_lst, fzO_dct, bindT_v, bindT_tup, bindT_lst, bindTs_nil, bindTs_cons, add_int, sub_int, mul_int, fdiv_int, mod_int, cmp_int, cmp_str, truth_non, truth_bl, truth_int, truth_tup, truth_lst, gI_non, gI_int, items_tup, items_lst, items_str, zipOf_tup, zipOf_lst, zip3_tup, zipD_map, ixT0, ixT1, ixT2, ixT3, ixT4, ixL0, ixL1, slT_n2, slT_n3, slT_1n, slT_2n, slT_3n, slT_m1, o2_add, o2_sub, o2_mul, o2_fdiv, o2_mod, o2_eq, o2_ne, o2_lt, o2_le, o2_gt, o2_ge, o2_inn, o2_notin, o2_idx, o2_max, o2_min, o1_neg, o1_len, len_tup, len_lst, len_dct, len_scr, o1_tuple_tup, o1_tuple_lst, o1_list_tup, o1_list_lst, o1_list_dct, o1_sorted_tup, o1_sorted_lst, o1_all, o1_abs, o1_int_int, o1_int_bl, o1_rev_tup, o1_rev_lst, o1_isTrue, o1_notTrue, o1_isFalse, o1_notFalse, setE, storeP, thaw, rdO, ofE_some, ofE_none, bind_ok, bind_exc, bind_stuck, nox_ok, of_some, of_none, out_ok, out_exc, out_stuck, then_nx, then_rt, then_exc, then_stuck, Fin_rt, Fin_nx, FinX_exc, Nxt_nx, List.getElem?_cons_zero, List.getElem?_cons_succ, List.set_cons_zero, List.set_cons_succ, wipeE, Option.bind_some, Option.bind_none, Option.map_some, Option.map_none, Option.some.injEq, isNonE, ite_ok, ite_int, ite_bl, Bool.if_true_left, Bool.if_false_right, Bool.if_true_right, Bool.if_false_left, if_true, if_false, Bool.false_eq_true, Bool.true_eq_false, reduceIte, ite_true, ite_false, decide_eq_true_eq, decide_true, decide_false, Bool.not_true, Bool.not_false, Bool.and_true, Bool.true_and, Bool.and_false, Bool.false_and, Bool.not_eq_true', decide_eq_false_iff_not, Bool.decide_eq_true, a1, a2, a3, Int.reduceLT, Int.reduceEq, eqv_int, encD]
      · simp only [Def.body, Def.slots, Def.params, startE, List.map_cons, List.map_nil, List.cons_append, List.nil_append, List.append_nil, List.reduceReplicate, List.length_cons, List.length_nil, Nat.reduceAdd, Nat.reduceSub, Nat.reduceLT, Nat.reduceLeDiff, Nat.zero_add, execs_nil, execs_cons, sq_nx, sq_rt, sq_exc, sq_stuck, bE_ok, bE_exc, bEs_ok, bEs_exc, bA_ok, bA_exc, bE2_ok, kAnd_ok, kOr_ok, kIf_ok, kIfS_ok, kIfS_exc, kCh_ok, kCh2_ok, kBand_ok, kBor_ok, kSl_ok, kSl2_ok, evEs_nil, evEs_cons, evA_nil, evA_val, evT_and, evT_or, evT_not, evT_v, evT_yes, evI_of, evI_rng1, evI_rng2, evI_enum, evI_zip2, evI_zip3, dsp_some, evE_cst, evE_gl, evE_inR, inR_int, evEvar, evE_peek, gv_val, gp_own, evE_tup, evE_lst, evE_o1, evE_o2, evE_o3, evE_dct, evE_chain, chn_bl, evE_band, bnd_bl, evE_bor, bor_bl, evE_bnot, evE_ifx, evE_slc, evE_call, evE_lc, exec_asg, exec_par, prO_some, exec_own, exec_app, apO_own, exec_ext, exO_lst, exec_seti, stO_own, poO_some, exec_ifs, exec_for, exec_whl, exec_ret, exec_retN, exec_ex, exec_raise, exec_pass, exec_kill, exec_freeze, exec_try, tryO_nx, tryO_rt, tryO_1, tryO_2, tryO_3, tryO_4, tryO_5, tryO_6, fzO_lst, fzO_dct, bindT_v, bindT_tup, bindT_lst, bindTs_nil, bindTs_cons, add_int, sub_int, mul_int, fdiv_int, mod_int, cmp_int, cmp_str, truth_non, truth_bl, truth_int, truth_tup, truth_lst, gI_non, gI_int, items_tup, items_lst, items_str, zipOf_tup, zipOf_lst, zip3_tup, zipD_map, ixT0, ixT1, ixT2, ixT3, ixT4, ixL0, ixL1, slT_n2, slT_n3, slT_1n, slT_2n, slT_3n, slT_m1, o2_add, o2_sub, o2_mul, o2_fdiv, o2_mod, o2_eq, o2_ne, o2_lt, o2_le, o2_gt, o2_ge, o2_inn, o2_notin, o2_idx, o2_max, o2_min, o1_neg, o1_len, len_tup, len_lst, len_dct, len_scr, o1_tuple_tup, o1_tuple_lst, o1_list_tup, o1_list_lst, o1_list_dct, o1_sorted_tup, o1_sorted_lst, o1_all, o1_abs, o1_int_int, o1_int_bl, o1_rev_tup, o1_rev_lst, o1_isTrue, o1_notTrue, o1_isFalse, o1_notFalse, setE, storeP, thaw, rdO, ofE_some, ofE_none, bind_ok, bind_exc, bind_stuck, nox_ok, of_some, of_none, out_ok, out_exc, out_stuck, then_nx, then_rt, then_exc, then_stuck, Fin_rt, Fin_nx, FinX_exc, Nxt_nx, List.getElem?_cons_zero, List.getElem?_cons_succ, List.set_cons_zero, List.set_cons_succ, wipeE, Option.bind_some, Option.bind_none, Option.map_some, Option.map_none, Option.some.injEq, isNonE, ite_ok, ite_int, ite_bl, Bool.if_true_left, Bool.if_false_right, Bool.if_true_right, Bool.if_false_left, if_true, if_false, Bool.false_eq_true, Bool.true_eq_false, reduceIte, ite_true, ite_false, decide_eq_true_eq, decide_true, decide_false, Bool.not_true, Bool.not_false, Bool.and_true, Bool.true_and, Bool.and_false, Bool.false_and, Bool.not_eq_true', decide_eq_false_iff_not, Bool.decide_eq_true, a1, a2, a3, Int.reduceLT, Int.reduceEq, eqv_int, encD]
/-! ### drawn tracks -/
def seedAt (c j : Int) : Int := (c + 41 * j) * (c + 41 * j + 17)
def stepAt (c j : Int) : Int := pick [0, 0, 0, 1, 3, 6, 24, 100] (mix (seedAt c j) 9833 8)
def deedAt (c j : Int) : Deed := if mix (seedAt c j) 9829 9 = 0 then lawFar (seedAt c j) else lawDeed (seedAt c j)
def trk (c : Int) : Int → List Int → List Ev
  | _, [] => []
  | t, j :: js => (t + stepAt c j, deedAt c j) :: trk c (t + stepAt c j) js
def trkEnd (c : Int) : Int → List Int → Int
  | t, [] => t
  | t, j :: js => trkEnd c (t + stepAt c j) js
def trackOf (c most : Int) : List Ev := trk c 0 (rangeZ 0 (mix c 9839 (most + 1)).toNat)
theorem trk_snoc (c x : Int) : ∀ (l : List Int) (t : Int), trk c t (l ++ [x]) = trk c t l ++ [(trkEnd c t l + stepAt c x, deedAt c x)]
  | [], t => rfl
  | j :: js, t => by rw [List.cons_append, trk, trk_snoc c x js, trk, trkEnd, List.cons_append]
theorem trkEnd_snoc (c x : Int) : ∀ (l : List Int) (t : Int), trkEnd c t (l ++ [x]) = trkEnd c t l + stepAt c x
  | [], t => rfl
  | j :: js, t => by rw [List.cons_append, trkEnd, trkEnd_snoc c x js, trkEnd]
theorem trk_len (c : Int) : ∀ (l : List Int) (t : Int), (trk c t l).length = l.length
  | [], t => rfl
  | j :: js, t => by rw [trk, List.length_cons, trk_len c js, List.length_cons]
theorem trackOf_len (c : Int) {most : Int} (h : 0 ≤ most) : ((trackOf c most).length : Int) ≤ most := by
  have h1 := mix_lt c 9839 (most + 1) (by omega)
  have h2 := mix_nonneg c 9839 (most + 1) (by omega)
  rw [trackOf, trk_len, len_rangeZ]; omega
theorem lawTrackS {f fm ff fd : Nat} (hT : T f = some (.code (c__law_track fm ff fd))) (hm : T fm = some (.code c__law_mix)) (hf : T ff = some (.code (c__law_far_deed fm))) (hd : T fd = some (.code (c__law_deed fm))) (c most : Int) (s : Store) (hc : Bits c 2000000) (h0 : 0 ≤ most) (h1 : most < 1000) :
    callOf (run G T (n + 3)) f [.val (.int c), .val (.int most)] s = .ok (tupE (trackOf c most)) s := by
  refine callOf_ok hT rfl rfl ?_
  have m := fun c p mm s (h0 : 0 < p) (h2 : p < 18446744073709551616) (h3 : 0 < mm) (h4 : mm < 18446744073709551616) => mixS (G := G) (n := n + 1) hm c p mm s h0 h2 h3 h4
  have d1 := fun c s => lawFarS (G := G) (n := n) hf hm c s
  have d2 := fun c s => lawDeedS (G := G) (n := n) hd hm c s
  have b0 := mix_nonneg c 9839 (most + 1) (by omega)
  have b1 := mix_lt c 9839 (most + 1) (by omega)
  simp only [c__law_track, Def.body, Def.slots, Def.params, startE, List.map_cons, List.map_nil, List.cons_append, List.nil_append, List.append_nil, List.reduceReplicate, List.length_cons, List.length_nil, Nat.reduceAdd, Nat.reduceSub, Nat.reduceLT, Nat.reduceLeDiff, Nat.zero_add, execs_nil, execs_cons, sq_nx, sq_rt, sq_exc, sq_stuck, bE_ok, bE_exc, bEs_ok, bEs_exc, bA_ok, bA_exc, bE2_ok, kAnd_ok, kOr_ok, kIf_ok, kIfS_ok, kIfS_exc, kCh_ok, kCh2_ok, kBand_ok, kBor_ok, kSl_ok, kSl2_ok, evEs_nil, evEs_cons, evA_nil, evA_val, evT_and, evT_or, evT_not, evT_v, evT_yes, evI_of, evI_rng1, evI_rng2, evI_enum, evI_zip2, evI_zip3, dsp_some, evE_cst, evE_gl, evE_inR, inR_int, evEvar, evE_peek, gv_val, gp_own, evE_tup, evE_lst, evE_o1, evE_o2, evE_o3, evE_dct, evE_chain, chn_bl, evE_band, bnd_bl, evE_bor, bor_bl, evE_bnot, evE_ifx, evE_slc, evE_call, evE_lc, exec_asg, exec_par, prO_some, exec_own, exec_app, apO_own, exec_ext, exO_lst, exec_seti, stO_own, poO_some, exec_ifs, exec_for, exec_whl, exec_ret, exec_retN, exec_ex, exec_raise, exec_pass, exec_kill, exec_freeze, exec_try, tryO_nx, tryO_rt, tryO_1, tryO_2, tryO_3, tryO_4, tryO_5, tryO_6, fzO_lst, fzO_dct, bindT_v, bindT_tup, bindT_lst, bindTs_nil, bindTs_cons, add_int, sub_int, mul_int, fdiv_int, mod_int, cmp_int, cmp_str, truth_non, truth_bl, truth_int, truth_tup, truth_lst, gI_non, gI_int, items_tup, items_lst, items_str, zipOf_tup, zipOf_lst, zip3_tup, zipD_map, ixT0, ixT1, ixT2, ixT3, ixT4, ixL0, ixL1, slT_n2, slT_n3, slT_1n, slT_2n, slT_3n, slT_m1, o2_add, o2_sub, o2_mul, o2_fdiv, o2_mod, o2_eq, o2_ne, o2_lt, o2_le, o2_gt, o2_ge, o2_inn, o2_notin, o2_idx, o2_max, o2_min, o1_neg, o1_len, len_tup, len_lst, len_dct, len_scr, o1_tuple_tup, o1_tuple_lst, o1_list_tup, o1_list_lst, o1_list_dct, o1_sorted_tup, o1_sorted_lst, o1_all, o1_abs, o1_int_int, o1_int_bl, o1_rev_tup, o1_rev_lst, o1_isTrue, o1_notTrue, o1_isFalse, o1_notFalse, setE, storeP, thaw, rdO, ofE_some, ofE_none, bind_ok, bind_exc, bind_stuck, nox_ok, of_some, of_none, out_ok, out_exc, out_stuck, then_nx, then_rt, then_exc, then_stuck, Fin_rt, Fin_nx, FinX_exc, Nxt_nx, List.getElem?_cons_zero, List.getElem?_cons_succ, List.set_cons_zero, List.set_cons_succ, wipeE, Option.bind_some, Option.bind_none, Option.map_some, Option.map_none, Option.some.injEq, isNonE, ite_ok, ite_int, ite_bl, Bool.if_true_left, Bool.if_false_right, Bool.if_true_right, Bool.if_false_left, if_true, if_false, Bool.false_eq_true, Bool.true_eq_false, reduceIte, ite_true, ite_false, decide_eq_true_eq, decide_true, decide_false, Bool.not_true, Bool.not_false, Bool.and_true, Bool.true_and, Bool.and_false, Bool.false_and, Bool.not_eq_true', decide_eq_false_iff_not, Bool.decide_eq_true, m c 9839 (most + 1) _ (by decide) (by decide) (by omega) (by omega), rng1_int (b := mix c 9839 (most + 1)) (by omega) (by omega)]
  refine forL_go (fun a e s => ∃ o4 o5, e = [some (.val (.int c)), some (.val (.int most)), some (.own (.lst ((trk c 0 a).map encE))), some (.val (.int (trkEnd c 0 a))), o4, o5]) ⟨_, _, rfl⟩ ?_ ?_
  · rintro a x b e s hl ⟨o4, o5, rfl⟩
    have hx : x ∈ rangeZ 0 (mix c 9839 (most + 1)).toNat := by rw [hl]; simp
    rw [mem_rangeZ] at hx
    have hla : a.length < 1000 := by
      have : a.length < (rangeZ 0 (mix c 9839 (most + 1)).toNat).length := by rw [hl]; simp
      rw [len_rangeZ] at this; omega
    have e1 : mulOk 41 x = true := mulOk_left (by decide) (by decide)
    have e2 : mulOk (c + 41 * x) (c + 41 * x + 17) = true := by
      have q1 : Bits (c + 41 * x) 2000001 := hc.add ((Bits.small (by omega) (by omega)).mono (by omega))
      exact mulOk_bits q1 (q1.add ((Bits.small (by omega) (by omega)).mono (by omega))) (by omega)
    have hs : (c + 41 * x) * (c + 41 * x + 17) = seedAt c x := rfl
    have e3 := idxPick [0, 0, 0, 1, 3, 6, 24, 100] (mix_nonneg (seedAt c x) 9833 8 (by decide)) (mix_lt _ _ _ (by decide)) (by decide)
    simp only [List.map_cons, List.map_nil] at e3
    have e4 : (trk c 0 a).length < 1000000 := by rw [trk_len]; omega
    have hst : pick [0, 0, 0, 1, 3, 6, 24, 100] (mix (seedAt c x) 9833 8) = stepAt c x := rfl
    by_cases c9 : mix (seedAt c x) 9829 9 = 0
    · simp only [forF_eq, Def.body, Def.slots, Def.params, startE, List.map_cons, List.map_nil, List.cons_append, List.nil_append, List.append_nil, List.reduceReplicate, List.length_cons, List.length_nil, Nat.reduceAdd, Nat.reduceSub, Nat.reduceLT, Nat.reduceLeDiff, Nat.zero_add, execs_nil, execs_cons, sq_nx, sq_rt, sq_exc, sq_stuck, bE_ok, bE_exc, bEs_ok, bEs_exc, bA_ok, bA_exc, bE2_ok, kAnd_ok, kOr_ok, kIf_ok, kIfS_ok, kIfS_exc, kCh_ok, kCh2_ok, kBand_ok, kBor_ok, kSl_ok, kSl2_ok, evEs_nil, evEs_cons, evA_nil, evA_val, evT_and, evT_or, evT_not, evT_v, evT_yes, evI_of, evI_rng1, evI_rng2, evI_enum, evI_zip2, evI_zip3, dsp_some, evE_cst, evE_gl, evE_inR, inR_int, evEvar, evE_peek, gv_val, gp_own, evE_tup, evE_lst, evE_o1, evE_o2, evE_o3, evE_dct, evE_chain, chn_bl, evE_band, bnd_bl, evE_bor, bor_bl, evE_bnot, evE_ifx, evE_slc, evE_call, evE_lc, exec_asg, exec_par, prO_some, exec_own, exec_app, apO_own, exec_ext, exO_lst, exec_seti, stO_own, poO_some, exec_ifs, exec_for, exec_whl, exec_ret, exec_retN, exec_ex, exec_raise, exec_pass, exec_kill, exec_freeze, exec_try, tryO_nx, tryO_rt, tryO_1, tryO_2, tryO_3, tryO_4, tryO_5, tryO_6, fzO_lst, fzO_dct, bindT_v, bindT_tup, bindT_lst, bindTs_nil, bindTs_cons, add_int, sub_int, mul_int, fdiv_int, mod_int, cmp_int, cmp_str, truth_non, truth_bl, truth_int, truth_tup, truth_lst, gI_non, gI_int, items_tup, items_lst, items_str, zipOf_tup, zipOf_lst, zip3_tup, zipD_map, ixT0, ixT1, ixT2, ixT3, ixT4, ixL0, ixL1, slT_n2, slT_n3, slT_1n, slT_2n, slT_3n, slT_m1, o2_add, o2_sub, o2_mul, o2_fdiv, o2_mod, o2_eq, o2_ne, o2_lt, o2_le, o2_gt, o2_ge, o2_inn, o2_notin, o2_idx, o2_max, o2_min, o1_neg, o1_len, len_tup, len_lst, len_dct, len_scr, o1_tuple_tup, o1_tuple_lst, o1_list_tup, o1_list_lst, o1_list_dct, o1_sorted_tup, o1_sorted_lst, o1_all, o1_abs, o1_int_int, o1_int_bl, o1_rev_tup, o1_rev_lst, o1_isTrue, o1_notTrue, o1_isFalse, o1_notFalse, setE, storeP, thaw, rdO, ofE_some, ofE_none, bind_ok, bind_exc, bind_stuck, nox_ok, of_some, of_none, out_ok, out_exc, out_stuck, then_nx, then_rt, then_exc, then_stuck, Fin_rt, Fin_nx, FinX_exc, Nxt_nx, List.getElem?_cons_zero, List.getElem?_cons_succ, List.set_cons_zero, List.set_cons_succ, wipeE, Option.bind_some, Option.bind_none, Option.map_some, Option.map_none, Option.some.injEq, isNonE, ite_ok, ite_int, ite_bl, Bool.if_true_left, Bool.if_false_right, Bool.if_true_right, Bool.if_false_left, if_true, if_false, Bool.false_eq_true, Bool.true_eq_false, reduceIte, ite_true, ite_false, decide_eq_true_eq, decide_true, decide_false, Bool.not_true, Bool.not_false, Bool.and_true, Bool.true_and, Bool.and_false, Bool.false_and, Bool.not_eq_true', decide_eq_false_iff_not, Bool.decide_eq_true, e1, e2, hs, e3, hst, m _ 9833 8 _ (by decide) (by decide) (by decide) (by decide), m _ 9829 9 _ (by decide) (by decide) (by decide) (by decide), c9, eqv_int, d1, List.length_map, LIM, e4, trk_snoc, trkEnd_snoc, List.map_append, encE, deedAt]
      exact ⟨_, _, rfl⟩
    · simp only [forF_eq, Def.body, Def.slots, Def.params, startE, List.map_cons, List.map_nil, List.cons_append, List.nil_append, List.append_nil, List.reduceReplicate, List.length_cons, List.length_nil, Nat.reduceAdd, Nat.reduceSub, Nat.reduceLT, Nat.reduceLeDiff, Nat.zero_add, execs_nil, execs_cons, sq_nx, sq_rt, sq_exc, sq_stuck, bE_ok, bE_exc, bEs_ok, bEs_exc, bA_ok, bA_exc, bE2_ok, kAnd_ok, kOr_ok, kIf_ok, kIfS_ok, kIfS_exc, kCh_ok, kCh2_ok, kBand_ok, kBor_ok, kSl_ok, kSl2_ok, evEs_nil, evEs_cons, evA_nil, evA_val, evT_and, evT_or, evT_not, evT_v, evT_yes, evI_of, evI_rng1, evI_rng2, evI_enum, evI_zip2, evI_zip3, dsp_some, evE_cst, evE_gl, evE_inR, inR_int, evEvar, evE_peek, gv_val, gp_own, evE_tup, evE_lst, evE_o1, evE_o2, evE_o3, evE_dct, evE_chain, chn_bl, evE_band, bnd_bl, evE_bor, bor_bl, evE_bnot, evE_ifx, evE_slc, evE_call, evE_lc, exec_asg, exec_par, prO_some, exec_own, exec_app, apO_own, exec_ext, exO_lst, exec_seti, stO_own, poO_some, exec_ifs, exec_for, exec_whl, exec_ret, exec_retN, exec_ex, exec_raise, exec_pass, exec_kill, exec_freeze, exec_try, tryO_nx, tryO_rt, tryO_1, tryO_2, tryO_3, tryO_4, tryO_5, tryO_6, fzO_lst, fzO_dct, bindT_v, bindT_tup, bindT_lst, bindTs_nil, bindTs_cons, add_int, sub_int, mul_int, fdiv_int, mod_int, cmp_int, cmp_str, truth_non, truth_bl, truth_int, truth_tup, truth_lst, gI_non, gI_int, items_tup, items_lst, items_str, zipOf_tup, zipOf_lst, zip3_tup, zipD_map, ixT0, ixT1, ixT2, ixT3, ixT4, ixL0, ixL1, slT_n2, slT_n3, slT_1n, slT_2n, slT_3n, slT_m1, o2_add, o2_sub, o2_mul, o2_fdiv, o2_mod, o2_eq, o2_ne, o2_lt, o2_le, o2_gt, o2_ge, o2_inn, o2_notin, o2_idx, o2_max, o2_min, o1_neg, o1_len, len_tup, len_lst, len_dct, len_scr, o1_tuple_tup, o1_tuple_lst, o1_list_tup, o1_list_lst, o1_list_dct, o1_sorted_tup, o1_sorted_lst, o1_all, o1_abs, o1_int_int, o1_int_bl, o1_rev_tup, o1_rev_lst, o1_isTrue, o1_notTrue, o1_isFalse, o1_notFalse, setE, storeP, thaw, rdO, ofE_some, ofE_none, bind_ok, bind_exc, bind_stuck, nox_ok, of_some, of_none, out_ok, out_exc, out_stuck, then_nx, then_rt, then_exc, then_stuck, Fin_rt, Fin_nx, FinX_exc, Nxt_nx, List.getElem?_cons_zero, List.getElem?_cons_succ, List.set_cons_zero, List.set_cons_succ, wipeE, Option.bind_some, Option.bind_none, Option.map_some, Option.map_none, Option.some.injEq, isNonE, ite_ok, ite_int, ite_bl, Bool.if_true_left, Bool.if_false_right, Bool.if_true_right, Bool.if_false_left, if_true, if_false, Bool.false_eq_true, Bool.true_eq_false, reduceIte, ite_true, ite_false, decide_eq_true_eq, decide_true, decide_false, Bool.not_true, Bool.not_false, Bool.and_true, Bool.true_and, Bool.and_false, Bool.false_and, Bool.not_eq_true', decide_eq_false_iff_not, Bool.decide_eq_true, e1, e2, hs, e3, hst, m _ 9833 8 _ (by decide) (by decide) (by decide) (by decide), m _ 9829 9 _ (by decide) (by decide) (by decide) (by decide), c9, eqv_int, d2, List.length_map, LIM, e4, trk_snoc, trkEnd_snoc, List.map_append, encE, deedAt]
      exact ⟨_, _, rfl⟩
  · rintro e s ⟨o4, o5, rfl⟩
    simp only [Def.body, Def.slots, Def.params, startE, List.map_cons, List.map_nil, List.cons_append, List.nil_append, List.append_nil, List.reduceReplicate, List.length_cons, List.length_nil, Nat.reduceAdd, Nat.reduceSub, Nat.reduceLT, Nat.reduceLeDiff, Nat.zero_add, execs_nil, execs_cons, sq_nx, sq_rt, sq_exc, sq_stuck, bE_ok, bE_exc, bEs_ok, bEs_exc, bA_ok, bA_exc, bE2_ok, kAnd_ok, kOr_ok, kIf_ok, kIfS_ok, kIfS_exc, kCh_ok, kCh2_ok, kBand_ok, kBor_ok, kSl_ok, kSl2_ok, evEs_nil, evEs_cons, evA_nil, evA_val, evT_and, evT_or, evT_not, evT_v, evT_yes, evI_of, evI_rng1, evI_rng2, evI_enum, evI_zip2, evI_zip3, dsp_some, evE_cst, evE_gl, evE_inR, inR_int, evEvar, evE_peek, gv_val, gp_own, evE_tup, evE_lst, evE_o1, evE_o2, evE_o3, evE_dct, evE_chain, chn_bl, evE_band, bnd_bl, evE_bor, bor_bl, evE_bnot, evE_ifx, evE_slc, evE_call, evE_lc, exec_asg, exec_par, prO_some, exec_own, exec_app, apO_own, exec_ext, exO_lst, exec_seti, stO_own, poO_some, exec_ifs, exec_for, exec_whl, exec_ret, exec_retN, exec_ex, exec_raise, exec_pass, exec_kill, exec_freeze, exec_try, tryO_nx, tryO_rt, tryO_1, tryO_2, tryO_3, tryO_4, tryO_5, tryO_6, fzO_lst, fzO_dct, bindT_v, bindT_tup, bindT_lst, bindTs_nil, bindTs_cons, add_int, sub_int, mul_int, fdiv_int, mod_int, cmp_int, cmp_str, truth_non, truth_bl, truth_int, truth_tup, truth_lst, gI_non, gI_int, items_tup, items_lst, items_str, zipOf_tup, zipOf_lst, zip3_tup, zipD_map, ixT0, ixT1, ixT2, ixT3, ixT4, ixL0, ixL1, slT_n2, slT_n3, slT_1n, slT_2n, slT_3n, slT_m1, o2_add, o2_sub, o2_mul, o2_fdiv, o2_mod, o2_eq, o2_ne, o2_lt, o2_le, o2_gt, o2_ge, o2_inn, o2_notin, o2_idx, o2_max, o2_min, o1_neg, o1_len, len_tup, len_lst, len_dct, len_scr, o1_tuple_tup, o1_tuple_lst, o1_list_tup, o1_list_lst, o1_list_dct, o1_sorted_tup, o1_sorted_lst, o1_all, o1_abs, o1_int_int, o1_int_bl, o1_rev_tup, o1_rev_lst, o1_isTrue, o1_notTrue, o1_isFalse, o1_notFalse, setE, storeP, thaw, rdO, ofE_some, ofE_none, bind_ok, bind_exc, bind_stuck, nox_ok, of_some, of_none, out_ok, out_exc, out_stuck, then_nx, then_rt, then_exc, then_stuck, Fin_rt, Fin_nx, FinX_exc, Nxt_nx, List.getElem?_cons_zero, List.getElem?_cons_succ, List.set_cons_zero, List.set_cons_succ, wipeE, Option.bind_some, Option.bind_none, Option.map_some, Option.map_none, Option.some.injEq, isNonE, ite_ok, ite_int, ite_bl, Bool.if_true_left, Bool.if_false_right, Bool.if_true_right, Bool.if_false_left, if_true, if_false, Bool.false_eq_true, Bool.true_eq_false, reduceIte, ite_true, ite_false, decide_eq_true_eq, decide_true, decide_false, Bool.not_true, Bool.not_false, Bool.and_true, Bool.true_and, Bool.and_false, Bool.false_and, Bool.not_eq_true', decide_eq_false_iff_not, Bool.decide_eq_true, trackOf]
/-! ### what is known of drawn tracks -/
theorem stepAt_bd (c j : Int) : 0 ≤ stepAt c j ∧ stepAt c j ≤ 100 := by
  have := pick_mem (l := [0, 0, 0, 1, 3, 6, 24, 100]) (mix_nonneg (seedAt c j) 9833 8 (by decide)) (mix_lt _ _ _ (by decide))
  unfold stepAt
  simp at this
  omega
/-- ticks do not fall, from t on -/
def Rise : Int → List Ev → Prop
  | _, [] => True
  | t, (u, _) :: l => t ≤ u ∧ Rise u l
theorem trk_rise (c : Int) : ∀ (l : List Int) (t : Int), Rise t (trk c t l)
  | [], t => trivial
  | j :: js, t => ⟨by have := stepAt_bd c j; omega, trk_rise c js _⟩
theorem trk_most (c : Int) : ∀ (l : List Int) (t : Int), ∀ p ∈ trk c t l, t ≤ p.1 ∧ p.1 ≤ t + 100 * l.length
  | [], t, p, h => by cases h
  | j :: js, t, p, h => by
    have b := stepAt_bd c j
    rw [List.length_cons]
    rcases List.mem_cons.mp h with rfl | h
    · show t ≤ t + stepAt c j ∧ t + stepAt c j ≤ _
      omega
    · have := trk_most c js _ p h
      omega
theorem trackOf_rise (c most : Int) : Rise 0 (trackOf c most) := trk_rise c _ 0
theorem trackOf_most (c : Int) {most : Int} (h : 0 ≤ most) : ∀ p ∈ trackOf c most, 0 ≤ p.1 ∧ p.1 ≤ 100 * most := by
  intro p hp
  have h1 := mix_lt c 9839 (most + 1) (by omega)
  have h2 := mix_nonneg c 9839 (most + 1) (by omega)
  have := trk_most c _ 0 p hp
  rw [len_rangeZ] at this
  omega
end Nt
set_option autoImplicit false
set_option linter.all false
set_option maxRecDepth 10000
/-! S03: the defs of law k03 -/
namespace Nt
variable {G : Glob} {T : Table} {n : Nat}
theorem cell_bits {ns : List Int} (h : ∀ z ∈ ns, Bits z 1048576) (k : Nat) : Bits (cell ns k) 1048576 := by
  unfold cell
  cases hk : ns[k]? with
  | none => exact Bits.zero
  | some z => exact h z (List.mem_of_getElem? hk)
/-! ### deltas -/
def dlt : Int → List Ev → List Ev
  | _, [] => []
  | t, (u, d) :: l => (u - t, d) :: dlt u l
def lastT : Int → List Ev → Int
  | t, [] => t
  | _, (u, _) :: l => lastT u l
theorem dlt_snoc (p : Ev) : ∀ (l : List Ev) (t : Int), dlt t (l ++ [p]) = dlt t l ++ [(p.1 - lastT t l, p.2)]
  | [], t => rfl
  | (u, d) :: l, t => by rw [List.cons_append, dlt, dlt_snoc p l u, dlt, lastT, List.cons_append]
theorem lastT_snoc (p : Ev) : ∀ (l : List Ev) (t : Int), lastT t (l ++ [p]) = p.1
  | [], t => rfl
  | (u, d) :: l, t => by rw [List.cons_append, lastT, lastT_snoc p l u]
theorem dlt_len : ∀ (l : List Ev) (t : Int), (dlt t l).length = l.length
  | [], t => rfl
  | (u, d) :: l, t => by rw [dlt, List.length_cons, dlt_len l u, List.length_cons]
theorem deltasS {f : Nat} (hT : T f = some (.code c_deltas)) (l : List Ev) (s : Store) (hl : l.length < 1000) :
    callOf (run G T (n + 1)) f [.val (tupE l)] s = .ok (tupE (dlt 0 l)) s := by
  refine callOf_ok hT rfl rfl ?_
  simp only [c_deltas, Def.body, Def.slots, Def.params, startE, List.map_cons, List.map_nil, List.cons_append, List.nil_append, List.append_nil, List.reduceReplicate, List.length_cons, List.length_nil, Nat.reduceAdd, Nat.reduceSub, Nat.reduceLT, Nat.reduceLeDiff, Nat.zero_add, execs_nil, execs_cons, sq_nx, sq_rt, sq_exc, sq_stuck, bE_ok, bE_exc, bEs_ok, bEs_exc, bA_ok, bA_exc, bE2_ok, kAnd_ok, kOr_ok, kIf_ok, kIfS_ok, kIfS_exc, kCh_ok, kCh2_ok, kBand_ok, kBor_ok, kSl_ok, kSl2_ok, evEs_nil, evEs_cons, evA_nil, evA_val, evT_and, evT_or, evT_not, evT_v, evT_yes, evI_of, evI_rng1, evI_rng2, evI_enum, evI_zip2, evI_zip3, dsp_some, evE_cst, evE_gl, evE_inR, inR_int, evEvar, evE_peek, gv_val, gp_own, evE_tup, evE_lst, evE_o1, evE_o2, evE_o3, evE_dct, evE_chain, chn_bl, evE_band, bnd_bl, evE_bor, bor_bl, evE_bnot, evE_ifx, evE_slc, evE_call, evE_lc, exec_asg, exec_par, prO_some, exec_own, exec_app, apO_own, exec_ext, exO_lst, exec_seti, stO_own, poO_some, exec_ifs, exec_for, exec_whl, exec_ret, exec_retN, exec_ex, exec_raise, exec_pass, exec_kill, exec_freeze, exec_try, tryO_nx, tryO_rt, tryO_1, tryO_2, tryO_3, tryO_4, tryO_5, tryO_6, fzO_lst, fzO_dct, bindT_v, bindT_tup, bindT_lst, bindTs_nil, bindTs_cons, add_int, sub_int, mul_int, fdiv_int, mod_int, cmp_int, cmp_str, truth_non, truth_bl, truth_int, truth_tup, truth_lst, gI_non, gI_int, items_tup, items_lst, items_str, zipOf_tup, zipOf_lst, zip3_tup, zipD_map, ixT0, ixT1, ixT2, ixT3, ixT4, ixL0, ixL1, slT_n2, slT_n3, slT_1n, slT_2n, slT_3n, slT_m1, o2_add, o2_sub, o2_mul, o2_fdiv, o2_mod, o2_eq, o2_ne, o2_lt, o2_le, o2_gt, o2_ge, o2_inn, o2_notin, o2_idx, o2_max, o2_min, o1_neg, o1_len, len_tup, len_lst, len_dct, len_scr, o1_tuple_tup, o1_tuple_lst, o1_list_tup, o1_list_lst, o1_list_dct, o1_sorted_tup, o1_sorted_lst, o1_all, o1_abs, o1_int_int, o1_int_bl, o1_rev_tup, o1_rev_lst, o1_isTrue, o1_notTrue, o1_isFalse, o1_notFalse, setE, storeP, thaw, rdO, ofE_some, ofE_none, bind_ok, bind_exc, bind_stuck, nox_ok, of_some, of_none, out_ok, out_exc, out_stuck, then_nx, then_rt, then_exc, then_stuck, Fin_rt, Fin_nx, FinX_exc, Nxt_nx, List.getElem?_cons_zero, List.getElem?_cons_succ, List.set_cons_zero, List.set_cons_succ, wipeE, Option.bind_some, Option.bind_none, Option.map_some, Option.map_none, Option.some.injEq, isNonE, ite_ok, ite_int, ite_bl, Bool.if_true_left, Bool.if_false_right, Bool.if_true_right, Bool.if_false_left, if_true, if_false, Bool.false_eq_true, Bool.true_eq_false, reduceIte, ite_true, ite_false, decide_eq_true_eq, decide_true, decide_false, Bool.not_true, Bool.not_false, Bool.and_true, Bool.true_and, Bool.and_false, Bool.false_and, Bool.not_eq_true', decide_eq_false_iff_not, Bool.decide_eq_true]
  refine forL_go (fun a e s => ∃ o3 o4, e = [some (.val (tupE l)), some (.own (.lst ((dlt 0 a).map encE))), some (.val (.int (lastT 0 a))), o3, o4]) ⟨_, _, rfl⟩ ?_ ?_
  · rintro a x b e s hl2 ⟨o3, o4, rfl⟩
    have e4 : (dlt 0 a).length < 1000000 := by
      have : a.length < l.length := by rw [hl2]; simp
      rw [dlt_len]; omega
    simp only [forF_eq, Def.body, Def.slots, Def.params, startE, List.map_cons, List.map_nil, List.cons_append, List.nil_append, List.append_nil, List.reduceReplicate, List.length_cons, List.length_nil, Nat.reduceAdd, Nat.reduceSub, Nat.reduceLT, Nat.reduceLeDiff, Nat.zero_add, execs_nil, execs_cons, sq_nx, sq_rt, sq_exc, sq_stuck, bE_ok, bE_exc, bEs_ok, bEs_exc, bA_ok, bA_exc, bE2_ok, kAnd_ok, kOr_ok, kIf_ok, kIfS_ok, kIfS_exc, kCh_ok, kCh2_ok, kBand_ok, kBor_ok, kSl_ok, kSl2_ok, evEs_nil, evEs_cons, evA_nil, evA_val, evT_and, evT_or, evT_not, evT_v, evT_yes, evI_of, evI_rng1, evI_rng2, evI_enum, evI_zip2, evI_zip3, dsp_some, evE_cst, evE_gl, evE_inR, inR_int, evEvar, evE_peek, gv_val, gp_own, evE_tup, evE_lst, evE_o1, evE_o2, evE_o3, evE_dct, evE_chain, chn_bl, evE_band, bnd_bl, evE_bor, bor_bl, evE_bnot, evE_ifx, evE_slc, evE_call, evE_lc, exec_asg, exec_par, prO_some, exec_own, exec_app, apO_own, exec_ext, exO_lst, exec_seti, stO_own, poO_some, exec_ifs, exec_for, exec_whl, exec_ret, exec_retN, exec_ex, exec_raise, exec_pass, exec_kill, exec_freeze, exec_try, tryO_nx, tryO_rt, tryO_1, tryO_2, tryO_3, tryO_4, tryO_5, tryO_6, fzO_lst, fzO_dct, bindT_v, bindT_tup, bindT_lst, bindTs_nil, bindTs_cons, add_int, sub_int, mul_int, fdiv_int, mod_int, cmp_int, cmp_str, truth_non, truth_bl, truth_int, truth_tup, truth_lst, gI_non, gI_int, items_tup, items_lst, items_str, zipOf_tup, zipOf_lst, zip3_tup, zipD_map, ixT0, ixT1, ixT2, ixT3, ixT4, ixL0, ixL1, slT_n2, slT_n3, slT_1n, slT_2n, slT_3n, slT_m1, o2_add, o2_sub, o2_mul, o2_fdiv, o2_mod, o2_eq, o2_ne, o2_lt, o2_le, o2_gt, o2_ge, o2_inn, o2_notin, o2_idx, o2_max, o2_min, o1_neg, o1_len, len_tup, len_lst, len_dct, len_scr, o1_tuple_tup, o1_tuple_lst, o1_list_tup, o1_list_lst, o1_list_dct, o1_sorted_tup, o1_sorted_lst, o1_all, o1_abs, o1_int_int, o1_int_bl, o1_rev_tup, o1_rev_lst, o1_isTrue, o1_notTrue, o1_isFalse, o1_notFalse, setE, storeP, thaw, rdO, ofE_some, ofE_none, bind_ok, bind_exc, bind_stuck, nox_ok, of_some, of_none, out_ok, out_exc, out_stuck, then_nx, then_rt, then_exc, then_stuck, Fin_rt, Fin_nx, FinX_exc, Nxt_nx, List.getElem?_cons_zero, List.getElem?_cons_succ, List.set_cons_zero, List.set_cons_succ, wipeE, Option.bind_some, Option.bind_none, Option.map_some, Option.map_none, Option.some.injEq, isNonE, ite_ok, ite_int, ite_bl, Bool.if_true_left, Bool.if_false_right, Bool.if_true_right, Bool.if_false_left, if_true, if_false, Bool.false_eq_true, Bool.true_eq_false, reduceIte, ite_true, ite_false, decide_eq_true_eq, decide_true, decide_false, Bool.not_true, Bool.not_false, Bool.and_true, Bool.true_and, Bool.and_false, Bool.false_and, Bool.not_eq_true', decide_eq_false_iff_not, Bool.decide_eq_true, encE, List.length_map, LIM, e4, dlt_snoc, lastT_snoc, List.map_append]
    exact ⟨_, _, rfl⟩
  · rintro e s ⟨o3, o4, rfl⟩
    simp only [Def.body, Def.slots, Def.params, startE, List.map_cons, List.map_nil, List.cons_append, List.nil_append, List.append_nil, List.reduceReplicate, List.length_cons, List.length_nil, Nat.reduceAdd, Nat.reduceSub, Nat.reduceLT, Nat.reduceLeDiff, Nat.zero_add, execs_nil, execs_cons, sq_nx, sq_rt, sq_exc, sq_stuck, bE_ok, bE_exc, bEs_ok, bEs_exc, bA_ok, bA_exc, bE2_ok, kAnd_ok, kOr_ok, kIf_ok, kIfS_ok, kIfS_exc, kCh_ok, kCh2_ok, kBand_ok, kBor_ok, kSl_ok, kSl2_ok, evEs_nil, evEs_cons, evA_nil, evA_val, evT_and, evT_or, evT_not, evT_v, evT_yes, evI_of, evI_rng1, evI_rng2, evI_enum, evI_zip2, evI_zip3, dsp_some, evE_cst, evE_gl, evE_inR, inR_int, evEvar, evE_peek, gv_val, gp_own, evE_tup, evE_lst, evE_o1, evE_o2, evE_o3, evE_dct, evE_chain, chn_bl, evE_band, bnd_bl, evE_bor, bor_bl, evE_bnot, evE_ifx, evE_slc, evE_call, evE_lc, exec_asg, exec_par, prO_some, exec_own, exec_app, apO_own, exec_ext, exO_lst, exec_seti, stO_own, poO_some, exec_ifs, exec_for, exec_whl, exec_ret, exec_retN, exec_ex, exec_raise, exec_pass, exec_kill, exec_freeze, exec_try, tryO_nx, tryO_rt, tryO_1, tryO_2, tryO_3, tryO_4, tryO_5, tryO_6, fzO_lst, fzO_dct, bindT_v, bindT_tup, bindT_lst, bindTs_nil, bindTs_cons, add_int, sub_int, mul_int, fdiv_int, mod_int, cmp_int, cmp_str, truth_non, truth_bl, truth_int, truth_tup, truth_lst, gI_non, gI_int, items_tup, items_lst, items_str, zipOf_tup, zipOf_lst, zip3_tup, zipD_map, ixT0, ixT1, ixT2, ixT3, ixT4, ixL0, ixL1, slT_n2, slT_n3, slT_1n, slT_2n, slT_3n, slT_m1, o2_add, o2_sub, o2_mul, o2_fdiv, o2_mod, o2_eq, o2_ne, o2_lt, o2_le, o2_gt, o2_ge, o2_inn, o2_notin, o2_idx, o2_max, o2_min, o1_neg, o1_len, len_tup, len_lst, len_dct, len_scr, o1_tuple_tup, o1_tuple_lst, o1_list_tup, o1_list_lst, o1_list_dct, o1_sorted_tup, o1_sorted_lst, o1_all, o1_abs, o1_int_int, o1_int_bl, o1_rev_tup, o1_rev_lst, o1_isTrue, o1_notTrue, o1_isFalse, o1_notFalse, setE, storeP, thaw, rdO, ofE_some, ofE_none, bind_ok, bind_exc, bind_stuck, nox_ok, of_some, of_none, out_ok, out_exc, out_stuck, then_nx, then_rt, then_exc, then_stuck, Fin_rt, Fin_nx, FinX_exc, Nxt_nx, List.getElem?_cons_zero, List.getElem?_cons_succ, List.set_cons_zero, List.set_cons_succ, wipeE, Option.bind_some, Option.bind_none, Option.map_some, Option.map_none, Option.some.injEq, isNonE, ite_ok, ite_int, ite_bl, Bool.if_true_left, Bool.if_false_right, Bool.if_true_right, Bool.if_false_left, if_true, if_false, Bool.false_eq_true, Bool.true_eq_false, reduceIte, ite_true, ite_false, decide_eq_true_eq, decide_true, decide_false, Bool.not_true, Bool.not_false, Bool.and_true, Bool.true_and, Bool.and_false, Bool.false_and, Bool.not_eq_true', decide_eq_false_iff_not, Bool.decide_eq_true]
/-! ### from_deltas -/
def frm : Int → List Ev → Option (List Ev)
  | _, [] => some []
  | t, (m, d) :: l => if 0 ≤ m ∧ t + m ≤ 99999 then (frm (t + m) l).map fun x => (t + m, d) :: x else none
theorem from_deltasS {f gl fm : Nat} (hT : T f = some (.code (c_from_deltas gl fm))) (hg : G gl = some (.int 99999)) (hm : T fm = some (.code c_must)) (l : List Ev) (s : Store) (hl : l.length < 1000) :
    callOf (run G T (n + 2)) f [.val (tupE l)] s = match frm 0 l with
      | some x => .ok (tupE x) s
      | none => .exc 1 s := by
  have mt := fun s => mustS (G := G) (n := n) hm s
  have me := fun s => mustE (G := G) (n := n) hm s
  have key : ∀ (r acc : List Ev) (t : Int) (o3 o4 : Option Slot) (s : Store), acc.length + r.length < 1000 →
      sq G (run G T (n + 1)) (forL (forF G (run G T (n + 1)) (.t (.cons (.v 3) (.cons (.v 4) (.nil)))) (.cons (.asg (.v 2) (.o2 .add (.var 2) (.var 3))) (.cons (.ex (.call fm (.val (.band (.o2 .ge (.var 3) (.cst (.int 0))) (.o2 .le (.var 2) (.gl gl))) (.nil)))) (.cons (.app 1 (.tup (.cons (.var 2) (.cons (.var 4) (.nil))))) (.nil))))) (r.map encE)
        [some (.val (tupE l)), some (.own (.lst (acc.map encE))), some (.val (.int t)), o3, o4] s) (.cons (.ret (.o1 .tuple (.peek 1))) (.nil)) = match frm t r with
          | some x => .rt (tupE (acc ++ x)) s
          | none => .exc 1 s := by
    intro r
    induction r with
    | nil => intro acc t o3 o4 s _; simp only [List.map_nil, sq_nil, Def.body, Def.slots, Def.params, startE, List.map_cons, List.map_nil, List.cons_append, List.nil_append, List.append_nil, List.reduceReplicate, List.length_cons, List.length_nil, Nat.reduceAdd, Nat.reduceSub, Nat.reduceLT, Nat.reduceLeDiff, Nat.zero_add, execs_nil, execs_cons, sq_nx, sq_rt, sq_exc, sq_stuck, bE_ok, bE_exc, bEs_ok, bEs_exc, bA_ok, bA_exc, bE2_ok, kAnd_ok, kOr_ok, kIf_ok, kIfS_ok, kIfS_exc, kCh_ok, kCh2_ok, kBand_ok, kBor_ok, kSl_ok, kSl2_ok, evEs_nil, evEs_cons, evA_nil, evA_val, evT_and, evT_or, evT_not, evT_v, evT_yes, evI_of, evI_rng1, evI_rng2, evI_enum, evI_zip2, evI_zip3, dsp_some, evE_cst, evE_gl, evE_inR, inR_int, evEvar, evE_peek, gv_val, gp_own, evE_tup, evE_lst, evE_o1, evE_o2, evE_o3, evE_dct, evE_chain, chn_bl, evE_band, bnd_bl, evE_bor, bor_bl, evE_bnot, evE_ifx, evE_slc, evE_call, evE_lc, exec_asg, exec_par, prO_some, exec_own, exec_app, apO_own, exec_ext, exO_lst, exec_seti, stO_own, poO_some, exec_ifs, exec_for, exec_whl, exec_ret, exec_retN, exec_ex, exec_raise, exec_pass, exec_kill, exec_freeze, exec_try, tryO_nx, tryO_rt, tryO_1, tryO_2, tryO_3, tryO_4, tryO_5, tryO_6, fzO_lst, fzO_dct, bindT_v, bindT_tup, bindT_lst, bindTs_nil, bindTs_cons, add_int, sub_int, mul_int, fdiv_int, mod_int, cmp_int, cmp_str, truth_non, truth_bl, truth_int, truth_tup, truth_lst, gI_non, gI_int, items_tup, items_lst, items_str, zipOf_tup, zipOf_lst, zip3_tup, zipD_map, ixT0, ixT1, ixT2, ixT3, ixT4, ixL0, ixL1, slT_n2, slT_n3, slT_1n, slT_2n, slT_3n, slT_m1, o2_add, o2_sub, o2_mul, o2_fdiv, o2_mod, o2_eq, o2_ne, o2_lt, o2_le, o2_gt, o2_ge, o2_inn, o2_notin, o2_idx, o2_max, o2_min, o1_neg, o1_len, len_tup, len_lst, len_dct, len_scr, o1_tuple_tup, o1_tuple_lst, o1_list_tup, o1_list_lst, o1_list_dct, o1_sorted_tup, o1_sorted_lst, o1_all, o1_abs, o1_int_int, o1_int_bl, o1_rev_tup, o1_rev_lst, o1_isTrue, o1_notTrue, o1_isFalse, o1_notFalse, setE, storeP, thaw, rdO, ofE_some, ofE_none, bind_ok, bind_exc, bind_stuck, nox_ok, of_some, of_none, out_ok, out_exc, out_stuck, then_nx, then_rt, then_exc, then_stuck, Fin_rt, Fin_nx, FinX_exc, Nxt_nx, List.getElem?_cons_zero, List.getElem?_cons_succ, List.set_cons_zero, List.set_cons_succ, wipeE, Option.bind_some, Option.bind_none, Option.map_some, Option.map_none, Option.some.injEq, isNonE, ite_ok, ite_int, ite_bl, Bool.if_true_left, Bool.if_false_right, Bool.if_true_right, Bool.if_false_left, if_true, if_false, Bool.false_eq_true, Bool.true_eq_false, reduceIte, ite_true, ite_false, decide_eq_true_eq, decide_true, decide_false, Bool.not_true, Bool.not_false, Bool.and_true, Bool.true_and, Bool.and_false, Bool.false_and, Bool.not_eq_true', decide_eq_false_iff_not, Bool.decide_eq_true, frm]
    | cons p r ih =>
      obtain ⟨m, d⟩ := p
      intro acc t o3 o4 s hlen
      rw [List.length_cons] at hlen
      have e4 : acc.length < 1000000 := by omega
      by_cases c0 : 0 ≤ m
      · by_cases c1 : t + m ≤ 99999
        · simp only [List.map_cons, sq_cons, encE, forF_eq, Def.body, Def.slots, Def.params, startE, List.map_cons, List.map_nil, List.cons_append, List.nil_append, List.append_nil, List.reduceReplicate, List.length_cons, List.length_nil, Nat.reduceAdd, Nat.reduceSub, Nat.reduceLT, Nat.reduceLeDiff, Nat.zero_add, execs_nil, execs_cons, sq_nx, sq_rt, sq_exc, sq_stuck, bE_ok, bE_exc, bEs_ok, bEs_exc, bA_ok, bA_exc, bE2_ok, kAnd_ok, kOr_ok, kIf_ok, kIfS_ok, kIfS_exc, kCh_ok, kCh2_ok, kBand_ok, kBor_ok, kSl_ok, kSl2_ok, evEs_nil, evEs_cons, evA_nil, evA_val, evT_and, evT_or, evT_not, evT_v, evT_yes, evI_of, evI_rng1, evI_rng2, evI_enum, evI_zip2, evI_zip3, dsp_some, evE_cst, evE_gl, evE_inR, inR_int, evEvar, evE_peek, gv_val, gp_own, evE_tup, evE_lst, evE_o1, evE_o2, evE_o3, evE_dct, evE_chain, chn_bl, evE_band, bnd_bl, evE_bor, bor_bl, evE_bnot, evE_ifx, evE_slc, evE_call, evE_lc, exec_asg, exec_par, prO_some, exec_own, exec_app, apO_own, exec_ext, exO_lst, exec_seti, stO_own, poO_some, exec_ifs, exec_for, exec_whl, exec_ret, exec_retN, exec_ex, exec_raise, exec_pass, exec_kill, exec_freeze, exec_try, tryO_nx, tryO_rt, tryO_1, tryO_2, tryO_3, tryO_4, tryO_5, tryO_6, fzO_lst, fzO_dct, bindT_v, bindT_tup, bindT_lst, bindTs_nil, bindTs_cons, add_int, sub_int, mul_int, fdiv_int, mod_int, cmp_int, cmp_str, truth_non, truth_bl, truth_int, truth_tup, truth_lst, gI_non, gI_int, items_tup, items_lst, items_str, zipOf_tup, zipOf_lst, zip3_tup, zipD_map, ixT0, ixT1, ixT2, ixT3, ixT4, ixL0, ixL1, slT_n2, slT_n3, slT_1n, slT_2n, slT_3n, slT_m1, o2_add, o2_sub, o2_mul, o2_fdiv, o2_mod, o2_eq, o2_ne, o2_lt, o2_le, o2_gt, o2_ge, o2_inn, o2_notin, o2_idx, o2_max, o2_min, o1_neg, o1_len, len_tup, len_lst, len_dct, len_scr, o1_tuple_tup, o1_tuple_lst, o1_list_tup, o1_list_lst, o1_list_dct, o1_sorted_tup, o1_sorted_lst, o1_all, o1_abs, o1_int_int, o1_int_bl, o1_rev_tup, o1_rev_lst, o1_isTrue, o1_notTrue, o1_isFalse, o1_notFalse, setE, storeP, thaw, rdO, ofE_some, ofE_none, bind_ok, bind_exc, bind_stuck, nox_ok, of_some, of_none, out_ok, out_exc, out_stuck, then_nx, then_rt, then_exc, then_stuck, Fin_rt, Fin_nx, FinX_exc, Nxt_nx, List.getElem?_cons_zero, List.getElem?_cons_succ, List.set_cons_zero, List.set_cons_succ, wipeE, Option.bind_some, Option.bind_none, Option.map_some, Option.map_none, Option.some.injEq, isNonE, ite_ok, ite_int, ite_bl, Bool.if_true_left, Bool.if_false_right, Bool.if_true_right, Bool.if_false_left, if_true, if_false, Bool.false_eq_true, Bool.true_eq_false, reduceIte, ite_true, ite_false, decide_eq_true_eq, decide_true, decide_false, Bool.not_true, Bool.not_false, Bool.and_true, Bool.true_and, Bool.and_false, Bool.false_and, Bool.not_eq_true', decide_eq_false_iff_not, Bool.decide_eq_true, c0, c1, hg, mt, List.length_map, LIM, e4, fl_nx, frm, and_self]
          have q := ih (acc ++ [(t + m, d)]) (t + m) (some (.val (.int m))) (some (.val (encD d))) s (by rw [List.length_append, List.length_cons, List.length_nil]; omega)
          rw [List.map_append] at q
          simp only [List.map_cons, List.map_nil, encE] at q
          rw [q]
          cases frm (t + m) r with
          | none => rfl
          | some x => simp only [Option.map_some, List.append_assoc, List.cons_append, List.nil_append]
        · simp only [List.map_cons, sq_cons, encE, forF_eq, Def.body, Def.slots, Def.params, startE, List.map_cons, List.map_nil, List.cons_append, List.nil_append, List.append_nil, List.reduceReplicate, List.length_cons, List.length_nil, Nat.reduceAdd, Nat.reduceSub, Nat.reduceLT, Nat.reduceLeDiff, Nat.zero_add, execs_nil, execs_cons, sq_nx, sq_rt, sq_exc, sq_stuck, bE_ok, bE_exc, bEs_ok, bEs_exc, bA_ok, bA_exc, bE2_ok, kAnd_ok, kOr_ok, kIf_ok, kIfS_ok, kIfS_exc, kCh_ok, kCh2_ok, kBand_ok, kBor_ok, kSl_ok, kSl2_ok, evEs_nil, evEs_cons, evA_nil, evA_val, evT_and, evT_or, evT_not, evT_v, evT_yes, evI_of, evI_rng1, evI_rng2, evI_enum, evI_zip2, evI_zip3, dsp_some, evE_cst, evE_gl, evE_inR, inR_int, evEvar, evE_peek, gv_val, gp_own, evE_tup, evE_lst, evE_o1, evE_o2, evE_o3, evE_dct, evE_chain, chn_bl, evE_band, bnd_bl, evE_bor, bor_bl, evE_bnot, evE_ifx, evE_slc, evE_call, evE_lc, exec_asg, exec_par, prO_some, exec_own, exec_app, apO_own, exec_ext, exO_lst, exec_seti, stO_own, poO_some, exec_ifs, exec_for, exec_whl, exec_ret, exec_retN, exec_ex, exec_raise, exec_pass, exec_kill, exec_freeze, exec_try, tryO_nx, tryO_rt, tryO_1, tryO_2, tryO_3, tryO_4, tryO_5, tryO_6, fzO_lst, fzO_dct, bindT_v, bindT_tup, bindT_lst, bindTs_nil, bindTs_cons, add_int, sub_int, mul_int, fdiv_int, mod_int, cmp_int, cmp_str, truth_non, truth_bl, truth_int, truth_tup, truth_lst, gI_non, gI_int, items_tup, items_lst, items_str, zipOf_tup, zipOf_lst, zip3_tup, zipD_map, ixT0, ixT1, ixT2, ixT3, ixT4, ixL0, ixL1, slT_n2, slT_n3, slT_1n, slT_2n, slT_3n, slT_m1, o2_add, o2_sub, o2_mul, o2_fdiv, o2_mod, o2_eq, o2_ne, o2_lt, o2_le, o2_gt, o2_ge, o2_inn, o2_notin, o2_idx, o2_max, o2_min, o1_neg, o1_len, len_tup, len_lst, len_dct, len_scr, o1_tuple_tup, o1_tuple_lst, o1_list_tup, o1_list_lst, o1_list_dct, o1_sorted_tup, o1_sorted_lst, o1_all, o1_abs, o1_int_int, o1_int_bl, o1_rev_tup, o1_rev_lst, o1_isTrue, o1_notTrue, o1_isFalse, o1_notFalse, setE, storeP, thaw, rdO, ofE_some, ofE_none, bind_ok, bind_exc, bind_stuck, nox_ok, of_some, of_none, out_ok, out_exc, out_stuck, then_nx, then_rt, then_exc, then_stuck, Fin_rt, Fin_nx, FinX_exc, Nxt_nx, List.getElem?_cons_zero, List.getElem?_cons_succ, List.set_cons_zero, List.set_cons_succ, wipeE, Option.bind_some, Option.bind_none, Option.map_some, Option.map_none, Option.some.injEq, isNonE, ite_ok, ite_int, ite_bl, Bool.if_true_left, Bool.if_false_right, Bool.if_true_right, Bool.if_false_left, if_true, if_false, Bool.false_eq_true, Bool.true_eq_false, reduceIte, ite_true, ite_false, decide_eq_true_eq, decide_true, decide_false, Bool.not_true, Bool.not_false, Bool.and_true, Bool.true_and, Bool.and_false, Bool.false_and, Bool.not_eq_true', decide_eq_false_iff_not, Bool.decide_eq_true, c0, c1, hg, me, fl_exc, frm, and_false]
      · by_cases c1 : t + m ≤ 99999
        · simp only [List.map_cons, sq_cons, encE, forF_eq, Def.body, Def.slots, Def.params, startE, List.map_cons, List.map_nil, List.cons_append, List.nil_append, List.append_nil, List.reduceReplicate, List.length_cons, List.length_nil, Nat.reduceAdd, Nat.reduceSub, Nat.reduceLT, Nat.reduceLeDiff, Nat.zero_add, execs_nil, execs_cons, sq_nx, sq_rt, sq_exc, sq_stuck, bE_ok, bE_exc, bEs_ok, bEs_exc, bA_ok, bA_exc, bE2_ok, kAnd_ok, kOr_ok, kIf_ok, kIfS_ok, kIfS_exc, kCh_ok, kCh2_ok, kBand_ok, kBor_ok, kSl_ok, kSl2_ok, evEs_nil, evEs_cons, evA_nil, evA_val, evT_and, evT_or, evT_not, evT_v, evT_yes, evI_of, evI_rng1, evI_rng2, evI_enum, evI_zip2, evI_zip3, dsp_some, evE_cst, evE_gl, evE_inR, inR_int, evEvar, evE_peek, gv_val, gp_own, evE_tup, evE_lst, evE_o1, evE_o2, evE_o3, evE_dct, evE_chain, chn_bl, evE_band, bnd_bl, evE_bor, bor_bl, evE_bnot, evE_ifx, evE_slc, evE_call, evE_lc, exec_asg, exec_par, prO_some, exec_own, exec_app, apO_own, exec_ext, exO_lst, exec_seti, stO_own, poO_some, exec_ifs, exec_for, exec_whl, exec_ret, exec_retN, exec_ex, exec_raise, exec_pass, exec_kill, exec_freeze, exec_try, tryO_nx, tryO_rt, tryO_1, tryO_2, tryO_3, tryO_4, tryO_5, tryO_6, fzO_lst, fzO_dct, bindT_v, bindT_tup, bindT_lst, bindTs_nil, bindTs_cons, add_int, sub_int, mul_int, fdiv_int, mod_int, cmp_int, cmp_str, truth_non, truth_bl, truth_int, truth_tup, truth_lst, gI_non, gI_int, items_tup, items_lst, items_str, zipOf_tup, zipOf_lst, zip3_tup, zipD_map, ixT0, ixT1, ixT2, ixT3, ixT4, ixL0, ixL1, slT_n2, slT_n3, slT_1n, slT_2n, slT_3n, slT_m1, o2_add, o2_sub, o2_mul, o2_fdiv, o2_mod, o2_eq, o2_ne, o2_lt, o2_le, o2_gt, o2_ge, o2_inn, o2_notin, o2_idx, o2_max, o2_min, o1_neg, o1_len, len_tup, len_lst, len_dct, len_scr, o1_tuple_tup, o1_tuple_lst, o1_list_tup, o1_list_lst, o1_list_dct, o1_sorted_tup, o1_sorted_lst, o1_all, o1_abs, o1_int_int, o1_int_bl, o1_rev_tup, o1_rev_lst, o1_isTrue, o1_notTrue, o1_isFalse, o1_notFalse, setE, storeP, thaw, rdO, ofE_some, ofE_none, bind_ok, bind_exc, bind_stuck, nox_ok, of_some, of_none, out_ok, out_exc, out_stuck, then_nx, then_rt, then_exc, then_stuck, Fin_rt, Fin_nx, FinX_exc, Nxt_nx, List.getElem?_cons_zero, List.getElem?_cons_succ, List.set_cons_zero, List.set_cons_succ, wipeE, Option.bind_some, Option.bind_none, Option.map_some, Option.map_none, Option.some.injEq, isNonE, ite_ok, ite_int, ite_bl, Bool.if_true_left, Bool.if_false_right, Bool.if_true_right, Bool.if_false_left, if_true, if_false, Bool.false_eq_true, Bool.true_eq_false, reduceIte, ite_true, ite_false, decide_eq_true_eq, decide_true, decide_false, Bool.not_true, Bool.not_false, Bool.and_true, Bool.true_and, Bool.and_false, Bool.false_and, Bool.not_eq_true', decide_eq_false_iff_not, Bool.decide_eq_true, c0, c1, hg, me, fl_exc, frm, false_and]
        · simp only [List.map_cons, sq_cons, encE, forF_eq, Def.body, Def.slots, Def.params, startE, List.map_cons, List.map_nil, List.cons_append, List.nil_append, List.append_nil, List.reduceReplicate, List.length_cons, List.length_nil, Nat.reduceAdd, Nat.reduceSub, Nat.reduceLT, Nat.reduceLeDiff, Nat.zero_add, execs_nil, execs_cons, sq_nx, sq_rt, sq_exc, sq_stuck, bE_ok, bE_exc, bEs_ok, bEs_exc, bA_ok, bA_exc, bE2_ok, kAnd_ok, kOr_ok, kIf_ok, kIfS_ok, kIfS_exc, kCh_ok, kCh2_ok, kBand_ok, kBor_ok, kSl_ok, kSl2_ok, evEs_nil, evEs_cons, evA_nil, evA_val, evT_and, evT_or, evT_not, evT_v, evT_yes, evI_of, evI_rng1, evI_rng2, evI_enum, evI_zip2, evI_zip3, dsp_some, evE_cst, evE_gl, evE_inR, inR_int, evEvar, evE_peek, gv_val, gp_own, evE_tup, evE_lst, evE_o1, evE_o2, evE_o3, evE_dct, evE_chain, chn_bl, evE_band, bnd_bl, evE_bor, bor_bl, evE_bnot, evE_ifx, evE_slc, evE_call, evE_lc, exec_asg, exec_par, prO_some, exec_own, exec_app, apO_own, exec_ext, exO_lst, exec_seti, stO_own, poO_some, exec_ifs, exec_for, exec_whl, exec_ret, exec_retN, exec_ex, exec_raise, exec_pass, exec_kill, exec_freeze, exec_try, tryO_nx, tryO_rt, tryO_1, tryO_2, tryO_3, tryO_4, tryO_5, tryO_6, fzO_lst, fzO_dct, bindT_v, bindT_tup, bindT_lst, bindTs_nil, bindTs_cons, add_int, sub_int, mul_int, fdiv_int, mod_int, cmp_int, cmp_str, truth_non, truth_bl, truth_int, truth_tup, truth_lst, gI_non, gI_int, items_tup, items_lst, items_str, zipOf_tup, zipOf_lst, zip3_tup, zipD_map, ixT0, ixT1, ixT2, ixT3, ixT4, ixL0, ixL1, slT_n2, slT_n3, slT_1n, slT_2n, slT_3n, slT_m1, o2_add, o2_sub, o2_mul, o2_fdiv, o2_mod, o2_eq, o2_ne, o2_lt, o2_le, o2_gt, o2_ge, o2_inn, o2_notin, o2_idx, o2_max, o2_min, o1_neg, o1_len, len_tup, len_lst, len_dct, len_scr, o1_tuple_tup, o1_tuple_lst, o1_list_tup, o1_list_lst, o1_list_dct, o1_sorted_tup, o1_sorted_lst, o1_all, o1_abs, o1_int_int, o1_int_bl, o1_rev_tup, o1_rev_lst, o1_isTrue, o1_notTrue, o1_isFalse, o1_notFalse, setE, storeP, thaw, rdO, ofE_some, ofE_none, bind_ok, bind_exc, bind_stuck, nox_ok, of_some, of_none, out_ok, out_exc, out_stuck, then_nx, then_rt, then_exc, then_stuck, Fin_rt, Fin_nx, FinX_exc, Nxt_nx, List.getElem?_cons_zero, List.getElem?_cons_succ, List.set_cons_zero, List.set_cons_succ, wipeE, Option.bind_some, Option.bind_none, Option.map_some, Option.map_none, Option.some.injEq, isNonE, ite_ok, ite_int, ite_bl, Bool.if_true_left, Bool.if_false_right, Bool.if_true_right, Bool.if_false_left, if_true, if_false, Bool.false_eq_true, Bool.true_eq_false, reduceIte, ite_true, ite_false, decide_eq_true_eq, decide_true, decide_false, Bool.not_true, Bool.not_false, Bool.and_true, Bool.true_and, Bool.and_false, Bool.false_and, Bool.not_eq_true', decide_eq_false_iff_not, Bool.decide_eq_true, c0, c1, hg, me, fl_exc, frm, false_and]
  have K := key l [] 0 none none [] (by simpa using hl)
  cases hu : frm 0 l with
  | none =>
    rw [hu] at K
    refine callOf_exc hT rfl rfl ?_
    simp only [c_from_deltas, Def.body, Def.slots, Def.params, startE, List.map_cons, List.map_nil, List.cons_append, List.nil_append, List.append_nil, List.reduceReplicate, List.length_cons, List.length_nil, Nat.reduceAdd, Nat.reduceSub, Nat.reduceLT, Nat.reduceLeDiff, Nat.zero_add, execs_nil, execs_cons, sq_nx, sq_rt, sq_exc, sq_stuck, bE_ok, bE_exc, bEs_ok, bEs_exc, bA_ok, bA_exc, bE2_ok, kAnd_ok, kOr_ok, kIf_ok, kIfS_ok, kIfS_exc, kCh_ok, kCh2_ok, kBand_ok, kBor_ok, kSl_ok, kSl2_ok, evEs_nil, evEs_cons, evA_nil, evA_val, evT_and, evT_or, evT_not, evT_v, evT_yes, evI_of, evI_rng1, evI_rng2, evI_enum, evI_zip2, evI_zip3, dsp_some, evE_cst, evE_gl, evE_inR, inR_int, evEvar, evE_peek, gv_val, gp_own, evE_tup, evE_lst, evE_o1, evE_o2, evE_o3, evE_dct, evE_chain, chn_bl, evE_band, bnd_bl, evE_bor, bor_bl, evE_bnot, evE_ifx, evE_slc, evE_call, evE_lc, exec_asg, exec_par, prO_some, exec_own, exec_app, apO_own, exec_ext, exO_lst, exec_seti, stO_own, poO_some, exec_ifs, exec_for, exec_whl, exec_ret, exec_retN, exec_ex, exec_raise, exec_pass, exec_kill, exec_freeze, exec_try, tryO_nx, tryO_rt, tryO_1, tryO_2, tryO_3, tryO_4, tryO_5, tryO_6, fzO_lst, fzO_dct, bindT_v, bindT_tup, bindT_lst, bindTs_nil, bindTs_cons, add_int, sub_int, mul_int, fdiv_int, mod_int, cmp_int, cmp_str, truth_non, truth_bl, truth_int, truth_tup, truth_lst, gI_non, gI_int, items_tup, items_lst, items_str, zipOf_tup, zipOf_lst, zip3_tup, zipD_map, ixT0, ixT1, ixT2, ixT3, ixT4, ixL0, ixL1, slT_n2, slT_n3, slT_1n, slT_2n, slT_3n, slT_m1, o2_add, o2_sub, o2_mul, o2_fdiv, o2_mod, o2_eq, o2_ne, o2_lt, o2_le, o2_gt, o2_ge, o2_inn, o2_notin, o2_idx, o2_max, o2_min, o1_neg, o1_len, len_tup, len_lst, len_dct, len_scr, o1_tuple_tup, o1_tuple_lst, o1_list_tup, o1_list_lst, o1_list_dct, o1_sorted_tup, o1_sorted_lst, o1_all, o1_abs, o1_int_int, o1_int_bl, o1_rev_tup, o1_rev_lst, o1_isTrue, o1_notTrue, o1_isFalse, o1_notFalse, setE, storeP, thaw, rdO, ofE_some, ofE_none, bind_ok, bind_exc, bind_stuck, nox_ok, of_some, of_none, out_ok, out_exc, out_stuck, then_nx, then_rt, then_exc, then_stuck, Fin_rt, Fin_nx, FinX_exc, Nxt_nx, List.getElem?_cons_zero, List.getElem?_cons_succ, List.set_cons_zero, List.set_cons_succ, wipeE, Option.bind_some, Option.bind_none, Option.map_some, Option.map_none, Option.some.injEq, isNonE, ite_ok, ite_int, ite_bl, Bool.if_true_left, Bool.if_false_right, Bool.if_true_right, Bool.if_false_left, if_true, if_false, Bool.false_eq_true, Bool.true_eq_false, reduceIte, ite_true, ite_false, decide_eq_true_eq, decide_true, decide_false, Bool.not_true, Bool.not_false, Bool.and_true, Bool.true_and, Bool.and_false, Bool.false_and, Bool.not_eq_true', decide_eq_false_iff_not, Bool.decide_eq_true]
    simp only [List.map_nil] at K
    rw [K]
    exact FinX_exc
  | some x =>
    rw [hu] at K
    refine callOf_ok hT rfl rfl ?_
    simp only [c_from_deltas, Def.body, Def.slots, Def.params, startE, List.map_cons, List.map_nil, List.cons_append, List.nil_append, List.append_nil, List.reduceReplicate, List.length_cons, List.length_nil, Nat.reduceAdd, Nat.reduceSub, Nat.reduceLT, Nat.reduceLeDiff, Nat.zero_add, execs_nil, execs_cons, sq_nx, sq_rt, sq_exc, sq_stuck, bE_ok, bE_exc, bEs_ok, bEs_exc, bA_ok, bA_exc, bE2_ok, kAnd_ok, kOr_ok, kIf_ok, kIfS_ok, kIfS_exc, kCh_ok, kCh2_ok, kBand_ok, kBor_ok, kSl_ok, kSl2_ok, evEs_nil, evEs_cons, evA_nil, evA_val, evT_and, evT_or, evT_not, evT_v, evT_yes, evI_of, evI_rng1, evI_rng2, evI_enum, evI_zip2, evI_zip3, dsp_some, evE_cst, evE_gl, evE_inR, inR_int, evEvar, evE_peek, gv_val, gp_own, evE_tup, evE_lst, evE_o1, evE_o2, evE_o3, evE_dct, evE_chain, chn_bl, evE_band, bnd_bl, evE_bor, bor_bl, evE_bnot, evE_ifx, evE_slc, evE_call, evE_lc, exec_asg, exec_par, prO_some, exec_own, exec_app, apO_own, exec_ext, exO_lst, exec_seti, stO_own, poO_some, exec_ifs, exec_for, exec_whl, exec_ret, exec_retN, exec_ex, exec_raise, exec_pass, exec_kill, exec_freeze, exec_try, tryO_nx, tryO_rt, tryO_1, tryO_2, tryO_3, tryO_4, tryO_5, tryO_6, fzO_lst, fzO_dct, bindT_v, bindT_tup, bindT_lst, bindTs_nil, bindTs_cons, add_int, sub_int, mul_int, fdiv_int, mod_int, cmp_int, cmp_str, truth_non, truth_bl, truth_int, truth_tup, truth_lst, gI_non, gI_int, items_tup, items_lst, items_str, zipOf_tup, zipOf_lst, zip3_tup, zipD_map, ixT0, ixT1, ixT2, ixT3, ixT4, ixL0, ixL1, slT_n2, slT_n3, slT_1n, slT_2n, slT_3n, slT_m1, o2_add, o2_sub, o2_mul, o2_fdiv, o2_mod, o2_eq, o2_ne, o2_lt, o2_le, o2_gt, o2_ge, o2_inn, o2_notin, o2_idx, o2_max, o2_min, o1_neg, o1_len, len_tup, len_lst, len_dct, len_scr, o1_tuple_tup, o1_tuple_lst, o1_list_tup, o1_list_lst, o1_list_dct, o1_sorted_tup, o1_sorted_lst, o1_all, o1_abs, o1_int_int, o1_int_bl, o1_rev_tup, o1_rev_lst, o1_isTrue, o1_notTrue, o1_isFalse, o1_notFalse, setE, storeP, thaw, rdO, ofE_some, ofE_none, bind_ok, bind_exc, bind_stuck, nox_ok, of_some, of_none, out_ok, out_exc, out_stuck, then_nx, then_rt, then_exc, then_stuck, Fin_rt, Fin_nx, FinX_exc, Nxt_nx, List.getElem?_cons_zero, List.getElem?_cons_succ, List.set_cons_zero, List.set_cons_succ, wipeE, Option.bind_some, Option.bind_none, Option.map_some, Option.map_none, Option.some.injEq, isNonE, ite_ok, ite_int, ite_bl, Bool.if_true_left, Bool.if_false_right, Bool.if_true_right, Bool.if_false_left, if_true, if_false, Bool.false_eq_true, Bool.true_eq_false, reduceIte, ite_true, ite_false, decide_eq_true_eq, decide_true, decide_false, Bool.not_true, Bool.not_false, Bool.and_true, Bool.true_and, Bool.and_false, Bool.false_and, Bool.not_eq_true', decide_eq_false_iff_not, Bool.decide_eq_true]
    simp only [List.map_nil] at K
    rw [K]
    exact Fin_rt
theorem frm_dlt (m : Int) (d : Deed) : ∀ (l : List Ev) (t : Int), Rise t l → (∀ p ∈ l, p.1 ≤ 99999) →
    frm t (dlt t l ++ [(m, d)]) = if 0 ≤ m ∧ lastT t l + m ≤ 99999 then some (l ++ [(lastT t l + m, d)]) else none
  | [], t, _, _ => by
    rw [lastT]
    simp only [dlt, List.nil_append, frm, Option.map_some]
  | (u, e) :: l, t, h, k => by
    have hu : u ≤ 99999 := k (u, e) List.mem_cons_self
    have ih := frm_dlt m d l u h.2 fun p hp => k p (List.mem_cons_of_mem _ hp)
    have e1 : t + (u - t) = u := by omega
    rw [lastT]
    simp only [dlt, List.cons_append, frm, e1]
    have h1 := h.1
    rw [if_pos ⟨by omega, hu⟩, ih]
    by_cases c : 0 ≤ m ∧ lastT u l + m ≤ 99999
    · rw [if_pos c, if_pos c]; rfl
    · rw [if_neg c, if_neg c]; rfl
theorem frm_dlt0 : ∀ (l : List Ev) (t : Int), Rise t l → (∀ p ∈ l, p.1 ≤ 99999) → frm t (dlt t l) = some l
  | [], t, _, _ => rfl
  | (u, e) :: l, t, h, k => by
    have hu : u ≤ 99999 := k (u, e) List.mem_cons_self
    have ih := frm_dlt0 l u h.2 fun p hp => k p (List.mem_cons_of_mem _ hp)
    have e1 : t + (u - t) = u := by omega
    simp only [dlt, frm, e1]
    have h1 := h.1
    rw [if_pos ⟨by omega, hu⟩, ih]
    rfl
/-! ### at, between, inserted, without -/
theorem atS {f : Nat} (hT : T f = some (.code c_at)) (l : List Ev) (t : Int) (s : Store) (hl : l.length < 1000) :
    callOf (run G T (n + 1)) f [.val (tupE l), .val (.int t)] s = .ok (.tup ((l.filter fun p => decide (p.1 = t)).map fun p => encD p.2)) s := by
  refine callOf_ok hT rfl rfl ?_
  simp only [c_at, Def.body, Def.slots, Def.params, startE, List.map_cons, List.map_nil, List.cons_append, List.nil_append, List.append_nil, List.reduceReplicate, List.length_cons, List.length_nil, Nat.reduceAdd, Nat.reduceSub, Nat.reduceLT, Nat.reduceLeDiff, Nat.zero_add, execs_nil, execs_cons, sq_nx, sq_rt, sq_exc, sq_stuck, bE_ok, bE_exc, bEs_ok, bEs_exc, bA_ok, bA_exc, bE2_ok, kAnd_ok, kOr_ok, kIf_ok, kIfS_ok, kIfS_exc, kCh_ok, kCh2_ok, kBand_ok, kBor_ok, kSl_ok, kSl2_ok, evEs_nil, evEs_cons, evA_nil, evA_val, evT_and, evT_or, evT_not, evT_v, evT_yes, evI_of, evI_rng1, evI_rng2, evI_enum, evI_zip2, evI_zip3, dsp_some, evE_cst, evE_gl, evE_inR, inR_int, evEvar, evE_peek, gv_val, gp_own, evE_tup, evE_lst, evE_o1, evE_o2, evE_o3, evE_dct, evE_chain, chn_bl, evE_band, bnd_bl, evE_bor, bor_bl, evE_bnot, evE_ifx, evE_slc, evE_call, evE_lc, exec_asg, exec_par, prO_some, exec_own, exec_app, apO_own, exec_ext, exO_lst, exec_seti, stO_own, poO_some, exec_ifs, exec_for, exec_whl, exec_ret, exec_retN, exec_ex, exec_raise, exec_pass, exec_kill, exec_freeze, exec_try, tryO_nx, tryO_rt, tryO_1, tryO_2, tryO_3, tryO_4, tryO_5, tryO_6, fzO_lst, fzO_dct, bindT_v, bindT_tup, bindT_lst, bindTs_nil, bindTs_cons, add_int, sub_int, mul_int, fdiv_int, mod_int, cmp_int, cmp_str, truth_non, truth_bl, truth_int, truth_tup, truth_lst, gI_non, gI_int, items_tup, items_lst, items_str, zipOf_tup, zipOf_lst, zip3_tup, zipD_map, ixT0, ixT1, ixT2, ixT3, ixT4, ixL0, ixL1, slT_n2, slT_n3, slT_1n, slT_2n, slT_3n, slT_m1, o2_add, o2_sub, o2_mul, o2_fdiv, o2_mod, o2_eq, o2_ne, o2_lt, o2_le, o2_gt, o2_ge, o2_inn, o2_notin, o2_idx, o2_max, o2_min, o1_neg, o1_len, len_tup, len_lst, len_dct, len_scr, o1_tuple_tup, o1_tuple_lst, o1_list_tup, o1_list_lst, o1_list_dct, o1_sorted_tup, o1_sorted_lst, o1_all, o1_abs, o1_int_int, o1_int_bl, o1_rev_tup, o1_rev_lst, o1_isTrue, o1_notTrue, o1_isFalse, o1_notFalse, setE, storeP, thaw, rdO, ofE_some, ofE_none, bind_ok, bind_exc, bind_stuck, nox_ok, of_some, of_none, out_ok, out_exc, out_stuck, then_nx, then_rt, then_exc, then_stuck, Fin_rt, Fin_nx, FinX_exc, Nxt_nx, List.getElem?_cons_zero, List.getElem?_cons_succ, List.set_cons_zero, List.set_cons_succ, wipeE, Option.bind_some, Option.bind_none, Option.map_some, Option.map_none, Option.some.injEq, isNonE, ite_ok, ite_int, ite_bl, Bool.if_true_left, Bool.if_false_right, Bool.if_true_right, Bool.if_false_left, if_true, if_false, Bool.false_eq_true, Bool.true_eq_false, reduceIte, ite_true, ite_false, decide_eq_true_eq, decide_true, decide_false, Bool.not_true, Bool.not_false, Bool.and_true, Bool.true_and, Bool.and_false, Bool.false_and, Bool.not_eq_true', decide_eq_false_iff_not, Bool.decide_eq_true]
  rw [lcL_filter (p := fun p => decide (p.1 = t)) (g := fun p => encD p.2) (fun p hp => by
    by_cases c : p.1 = t <;> simp only [lcF_eq, encE, Def.body, Def.slots, Def.params, startE, List.map_cons, List.map_nil, List.cons_append, List.nil_append, List.append_nil, List.reduceReplicate, List.length_cons, List.length_nil, Nat.reduceAdd, Nat.reduceSub, Nat.reduceLT, Nat.reduceLeDiff, Nat.zero_add, execs_nil, execs_cons, sq_nx, sq_rt, sq_exc, sq_stuck, bE_ok, bE_exc, bEs_ok, bEs_exc, bA_ok, bA_exc, bE2_ok, kAnd_ok, kOr_ok, kIf_ok, kIfS_ok, kIfS_exc, kCh_ok, kCh2_ok, kBand_ok, kBor_ok, kSl_ok, kSl2_ok, evEs_nil, evEs_cons, evA_nil, evA_val, evT_and, evT_or, evT_not, evT_v, evT_yes, evI_of, evI_rng1, evI_rng2, evI_enum, evI_zip2, evI_zip3, dsp_some, evE_cst, evE_gl, evE_inR, inR_int, evEvar, evE_peek, gv_val, gp_own, evE_tup, evE_lst, evE_o1, evE_o2, evE_o3, evE_dct, evE_chain, chn_bl, evE_band, bnd_bl, evE_bor, bor_bl, evE_bnot, evE_ifx, evE_slc, evE_call, evE_lc, exec_asg, exec_par, prO_some, exec_own, exec_app, apO_own, exec_ext, exO_lst, exec_seti, stO_own, poO_some, exec_ifs, exec_for, exec_whl, exec_ret, exec_retN, exec_ex, exec_raise, exec_pass, exec_kill, exec_freeze, exec_try, tryO_nx, tryO_rt, tryO_1, tryO_2, tryO_3, tryO_4, tryO_5, tryO_6, fzO_lst, fzO_dct, bindT_v, bindT_tup, bindT_lst, bindTs_nil, bindTs_cons, add_int, sub_int, mul_int, fdiv_int, mod_int, cmp_int, cmp_str, truth_non, truth_bl, truth_int, truth_tup, truth_lst, gI_non, gI_int, items_tup, items_lst, items_str, zipOf_tup, zipOf_lst, zip3_tup, zipD_map, ixT0, ixT1, ixT2, ixT3, ixT4, ixL0, ixL1, slT_n2, slT_n3, slT_1n, slT_2n, slT_3n, slT_m1, o2_add, o2_sub, o2_mul, o2_fdiv, o2_mod, o2_eq, o2_ne, o2_lt, o2_le, o2_gt, o2_ge, o2_inn, o2_notin, o2_idx, o2_max, o2_min, o1_neg, o1_len, len_tup, len_lst, len_dct, len_scr, o1_tuple_tup, o1_tuple_lst, o1_list_tup, o1_list_lst, o1_list_dct, o1_sorted_tup, o1_sorted_lst, o1_all, o1_abs, o1_int_int, o1_int_bl, o1_rev_tup, o1_rev_lst, o1_isTrue, o1_notTrue, o1_isFalse, o1_notFalse, setE, storeP, thaw, rdO, ofE_some, ofE_none, bind_ok, bind_exc, bind_stuck, nox_ok, of_some, of_none, out_ok, out_exc, out_stuck, then_nx, then_rt, then_exc, then_stuck, Fin_rt, Fin_nx, FinX_exc, Nxt_nx, List.getElem?_cons_zero, List.getElem?_cons_succ, List.set_cons_zero, List.set_cons_succ, wipeE, Option.bind_some, Option.bind_none, Option.map_some, Option.map_none, Option.some.injEq, isNonE, ite_ok, ite_int, ite_bl, Bool.if_true_left, Bool.if_false_right, Bool.if_true_right, Bool.if_false_left, if_true, if_false, Bool.false_eq_true, Bool.true_eq_false, reduceIte, ite_true, ite_false, decide_eq_true_eq, decide_true, decide_false, Bool.not_true, Bool.not_false, Bool.and_true, Bool.true_and, Bool.and_false, Bool.false_and, Bool.not_eq_true', decide_eq_false_iff_not, Bool.decide_eq_true, eqv_int, c]) (by simp only [LIM]; omega)]
  simp only [Def.body, Def.slots, Def.params, startE, List.map_cons, List.map_nil, List.cons_append, List.nil_append, List.append_nil, List.reduceReplicate, List.length_cons, List.length_nil, Nat.reduceAdd, Nat.reduceSub, Nat.reduceLT, Nat.reduceLeDiff, Nat.zero_add, execs_nil, execs_cons, sq_nx, sq_rt, sq_exc, sq_stuck, bE_ok, bE_exc, bEs_ok, bEs_exc, bA_ok, bA_exc, bE2_ok, kAnd_ok, kOr_ok, kIf_ok, kIfS_ok, kIfS_exc, kCh_ok, kCh2_ok, kBand_ok, kBor_ok, kSl_ok, kSl2_ok, evEs_nil, evEs_cons, evA_nil, evA_val, evT_and, evT_or, evT_not, evT_v, evT_yes, evI_of, evI_rng1, evI_rng2, evI_enum, evI_zip2, evI_zip3, dsp_some, evE_cst, evE_gl, evE_inR, inR_int, evEvar, evE_peek, gv_val, gp_own, evE_tup, evE_lst, evE_o1, evE_o2, evE_o3, evE_dct, evE_chain, chn_bl, evE_band, bnd_bl, evE_bor, bor_bl, evE_bnot, evE_ifx, evE_slc, evE_call, evE_lc, exec_asg, exec_par, prO_some, exec_own, exec_app, apO_own, exec_ext, exO_lst, exec_seti, stO_own, poO_some, exec_ifs, exec_for, exec_whl, exec_ret, exec_retN, exec_ex, exec_raise, exec_pass, exec_kill, exec_freeze, exec_try, tryO_nx, tryO_rt, tryO_1, tryO_2, tryO_3, tryO_4, tryO_5, tryO_6, fzO_lst, fzO_dct, bindT_v, bindT_tup, bindT_lst, bindTs_nil, bindTs_cons, add_int, sub_int, mul_int, fdiv_int, mod_int, cmp_int, cmp_str, truth_non, truth_bl, truth_int, truth_tup, truth_lst, gI_non, gI_int, items_tup, items_lst, items_str, zipOf_tup, zipOf_lst, zip3_tup, zipD_map, ixT0, ixT1, ixT2, ixT3, ixT4, ixL0, ixL1, slT_n2, slT_n3, slT_1n, slT_2n, slT_3n, slT_m1, o2_add, o2_sub, o2_mul, o2_fdiv, o2_mod, o2_eq, o2_ne, o2_lt, o2_le, o2_gt, o2_ge, o2_inn, o2_notin, o2_idx, o2_max, o2_min, o1_neg, o1_len, len_tup, len_lst, len_dct, len_scr, o1_tuple_tup, o1_tuple_lst, o1_list_tup, o1_list_lst, o1_list_dct, o1_sorted_tup, o1_sorted_lst, o1_all, o1_abs, o1_int_int, o1_int_bl, o1_rev_tup, o1_rev_lst, o1_isTrue, o1_notTrue, o1_isFalse, o1_notFalse, setE, storeP, thaw, rdO, ofE_some, ofE_none, bind_ok, bind_exc, bind_stuck, nox_ok, of_some, of_none, out_ok, out_exc, out_stuck, then_nx, then_rt, then_exc, then_stuck, Fin_rt, Fin_nx, FinX_exc, Nxt_nx, List.getElem?_cons_zero, List.getElem?_cons_succ, List.set_cons_zero, List.set_cons_succ, wipeE, Option.bind_some, Option.bind_none, Option.map_some, Option.map_none, Option.some.injEq, isNonE, ite_ok, ite_int, ite_bl, Bool.if_true_left, Bool.if_false_right, Bool.if_true_right, Bool.if_false_left, if_true, if_false, Bool.false_eq_true, Bool.true_eq_false, reduceIte, ite_true, ite_false, decide_eq_true_eq, decide_true, decide_false, Bool.not_true, Bool.not_false, Bool.and_true, Bool.true_and, Bool.and_false, Bool.false_and, Bool.not_eq_true', decide_eq_false_iff_not, Bool.decide_eq_true]
theorem betweenS {f : Nat} (hT : T f = some (.code c_between)) (l : List Ev) (t u : Int) (s : Store) (hl : l.length < 1000) :
    callOf (run G T (n + 1)) f [.val (tupE l), .val (.int t), .val (.int u)] s = .ok (tupE (l.filter fun p => decide (t ≤ p.1 ∧ p.1 < u))) s := by
  refine callOf_ok hT rfl rfl ?_
  simp only [c_between, Def.body, Def.slots, Def.params, startE, List.map_cons, List.map_nil, List.cons_append, List.nil_append, List.append_nil, List.reduceReplicate, List.length_cons, List.length_nil, Nat.reduceAdd, Nat.reduceSub, Nat.reduceLT, Nat.reduceLeDiff, Nat.zero_add, execs_nil, execs_cons, sq_nx, sq_rt, sq_exc, sq_stuck, bE_ok, bE_exc, bEs_ok, bEs_exc, bA_ok, bA_exc, bE2_ok, kAnd_ok, kOr_ok, kIf_ok, kIfS_ok, kIfS_exc, kCh_ok, kCh2_ok, kBand_ok, kBor_ok, kSl_ok, kSl2_ok, evEs_nil, evEs_cons, evA_nil, evA_val, evT_and, evT_or, evT_not, evT_v, evT_yes, evI_of, evI_rng1, evI_rng2, evI_enum, evI_zip2, evI_zip3, dsp_some, evE_cst, evE_gl, evE_inR, inR_int, evEvar, evE_peek, gv_val, gp_own, evE_tup, evE_lst, evE_o1, evE_o2, evE_o3, evE_dct, evE_chain, chn_bl, evE_band, bnd_bl, evE_bor, bor_bl, evE_bnot, evE_ifx, evE_slc, evE_call, evE_lc, exec_asg, exec_par, prO_some, exec_own, exec_app, apO_own, exec_ext, exO_lst, exec_seti, stO_own, poO_some, exec_ifs, exec_for, exec_whl, exec_ret, exec_retN, exec_ex, exec_raise, exec_pass, exec_kill, exec_freeze, exec_try, tryO_nx, tryO_rt, tryO_1, tryO_2, tryO_3, tryO_4, tryO_5, tryO_6, fzO_lst, fzO_dct, bindT_v, bindT_tup, bindT_lst, bindTs_nil, bindTs_cons, add_int, sub_int, mul_int, fdiv_int, mod_int, cmp_int, cmp_str, truth_non, truth_bl, truth_int, truth_tup, truth_lst, gI_non, gI_int, items_tup, items_lst, items_str, zipOf_tup, zipOf_lst, zip3_tup, zipD_map, ixT0, ixT1, ixT2, ixT3, ixT4, ixL0, ixL1, slT_n2, slT_n3, slT_1n, slT_2n, slT_3n, slT_m1, o2_add, o2_sub, o2_mul, o2_fdiv, o2_mod, o2_eq, o2_ne, o2_lt, o2_le, o2_gt, o2_ge, o2_inn, o2_notin, o2_idx, o2_max, o2_min, o1_neg, o1_len, len_tup, len_lst, len_dct, len_scr, o1_tuple_tup, o1_tuple_lst, o1_list_tup, o1_list_lst, o1_list_dct, o1_sorted_tup, o1_sorted_lst, o1_all, o1_abs, o1_int_int, o1_int_bl, o1_rev_tup, o1_rev_lst, o1_isTrue, o1_notTrue, o1_isFalse, o1_notFalse, setE, storeP, thaw, rdO, ofE_some, ofE_none, bind_ok, bind_exc, bind_stuck, nox_ok, of_some, of_none, out_ok, out_exc, out_stuck, then_nx, then_rt, then_exc, then_stuck, Fin_rt, Fin_nx, FinX_exc, Nxt_nx, List.getElem?_cons_zero, List.getElem?_cons_succ, List.set_cons_zero, List.set_cons_succ, wipeE, Option.bind_some, Option.bind_none, Option.map_some, Option.map_none, Option.some.injEq, isNonE, ite_ok, ite_int, ite_bl, Bool.if_true_left, Bool.if_false_right, Bool.if_true_right, Bool.if_false_left, if_true, if_false, Bool.false_eq_true, Bool.true_eq_false, reduceIte, ite_true, ite_false, decide_eq_true_eq, decide_true, decide_false, Bool.not_true, Bool.not_false, Bool.and_true, Bool.true_and, Bool.and_false, Bool.false_and, Bool.not_eq_true', decide_eq_false_iff_not, Bool.decide_eq_true]
  rw [lcL_filter (p := fun p => decide (t ≤ p.1 ∧ p.1 < u)) (g := encE) (fun p hp => by
    by_cases c : t ≤ p.1 <;> by_cases c2 : p.1 < u <;> simp only [lcF_eq, encE, Def.body, Def.slots, Def.params, startE, List.map_cons, List.map_nil, List.cons_append, List.nil_append, List.append_nil, List.reduceReplicate, List.length_cons, List.length_nil, Nat.reduceAdd, Nat.reduceSub, Nat.reduceLT, Nat.reduceLeDiff, Nat.zero_add, execs_nil, execs_cons, sq_nx, sq_rt, sq_exc, sq_stuck, bE_ok, bE_exc, bEs_ok, bEs_exc, bA_ok, bA_exc, bE2_ok, kAnd_ok, kOr_ok, kIf_ok, kIfS_ok, kIfS_exc, kCh_ok, kCh2_ok, kBand_ok, kBor_ok, kSl_ok, kSl2_ok, evEs_nil, evEs_cons, evA_nil, evA_val, evT_and, evT_or, evT_not, evT_v, evT_yes, evI_of, evI_rng1, evI_rng2, evI_enum, evI_zip2, evI_zip3, dsp_some, evE_cst, evE_gl, evE_inR, inR_int, evEvar, evE_peek, gv_val, gp_own, evE_tup, evE_lst, evE_o1, evE_o2, evE_o3, evE_dct, evE_chain, chn_bl, evE_band, bnd_bl, evE_bor, bor_bl, evE_bnot, evE_ifx, evE_slc, evE_call, evE_lc, exec_asg, exec_par, prO_some, exec_own, exec_app, apO_own, exec_ext, exO_lst, exec_seti, stO_own, poO_some, exec_ifs, exec_for, exec_whl, exec_ret, exec_retN, exec_ex, exec_raise, exec_pass, exec_kill, exec_freeze, exec_try, tryO_nx, tryO_rt, tryO_1, tryO_2, tryO_3, tryO_4, tryO_5, tryO_6, fzO_lst, fzO_dct, bindT_v, bindT_tup, bindT_lst, bindTs_nil, bindTs_cons, add_int, sub_int, mul_int, fdiv_int, mod_int, cmp_int, cmp_str, truth_non, truth_bl, truth_int, truth_tup, truth_lst, gI_non, gI_int, items_tup, items_lst, items_str, zipOf_tup, zipOf_lst, zip3_tup, zipD_map, ixT0, ixT1, ixT2, ixT3, ixT4, ixL0, ixL1, slT_n2, slT_n3, slT_1n, slT_2n, slT_3n, slT_m1, o2_add, o2_sub, o2_mul, o2_fdiv, o2_mod, o2_eq, o2_ne, o2_lt, o2_le, o2_gt, o2_ge, o2_inn, o2_notin, o2_idx, o2_max, o2_min, o1_neg, o1_len, len_tup, len_lst, len_dct, len_scr, o1_tuple_tup, o1_tuple_lst, o1_list_tup, o1_list_lst, o1_list_dct, o1_sorted_tup, o1_sorted_lst, o1_all, o1_abs, o1_int_int, o1_int_bl, o1_rev_tup, o1_rev_lst, o1_isTrue, o1_notTrue, o1_isFalse, o1_notFalse, setE, storeP, thaw, rdO, ofE_some, ofE_none, bind_ok, bind_exc, bind_stuck, nox_ok, of_some, of_none, out_ok, out_exc, out_stuck, then_nx, then_rt, then_exc, then_stuck, Fin_rt, Fin_nx, FinX_exc, Nxt_nx, List.getElem?_cons_zero, List.getElem?_cons_succ, List.set_cons_zero, List.set_cons_succ, wipeE, Option.bind_some, Option.bind_none, Option.map_some, Option.map_none, Option.some.injEq, isNonE, ite_ok, ite_int, ite_bl, Bool.if_true_left, Bool.if_false_right, Bool.if_true_right, Bool.if_false_left, if_true, if_false, Bool.false_eq_true, Bool.true_eq_false, reduceIte, ite_true, ite_false, decide_eq_true_eq, decide_true, decide_false, Bool.not_true, Bool.not_false, Bool.and_true, Bool.true_and, Bool.and_false, Bool.false_and, Bool.not_eq_true', decide_eq_false_iff_not, Bool.decide_eq_true, c, c2, and_self, and_false, false_and]) (by simp only [LIM]; omega)]
  simp only [Def.body, Def.slots, Def.params, startE, List.map_cons, List.map_nil, List.cons_append, List.nil_append, List.append_nil, List.reduceReplicate, List.length_cons, List.length_nil, Nat.reduceAdd, Nat.reduceSub, Nat.reduceLT, Nat.reduceLeDiff, Nat.zero_add, execs_nil, execs_cons, sq_nx, sq_rt, sq_exc, sq_stuck, bE_ok, bE_exc, bEs_ok, bEs_exc, bA_ok, bA_exc, bE2_ok, kAnd_ok, kOr_ok, kIf_ok, kIfS_ok, kIfS_exc, kCh_ok, kCh2_ok, kBand_ok, kBor_ok, kSl_ok, kSl2_ok, evEs_nil, evEs_cons, evA_nil, evA_val, evT_and, evT_or, evT_not, evT_v, evT_yes, evI_of, evI_rng1, evI_rng2, evI_enum, evI_zip2, evI_zip3, dsp_some, evE_cst, evE_gl, evE_inR, inR_int, evEvar, evE_peek, gv_val, gp_own, evE_tup, evE_lst, evE_o1, evE_o2, evE_o3, evE_dct, evE_chain, chn_bl, evE_band, bnd_bl, evE_bor, bor_bl, evE_bnot, evE_ifx, evE_slc, evE_call, evE_lc, exec_asg, exec_par, prO_some, exec_own, exec_app, apO_own, exec_ext, exO_lst, exec_seti, stO_own, poO_some, exec_ifs, exec_for, exec_whl, exec_ret, exec_retN, exec_ex, exec_raise, exec_pass, exec_kill, exec_freeze, exec_try, tryO_nx, tryO_rt, tryO_1, tryO_2, tryO_3, tryO_4, tryO_5, tryO_6, fzO_lst, fzO_dct, bindT_v, bindT_tup, bindT_lst, bindTs_nil, bindTs_cons, add_int, sub_int, mul_int, fdiv_int, mod_int, cmp_int, cmp_str, truth_non, truth_bl, truth_int, truth_tup, truth_lst, gI_non, gI_int, items_tup, items_lst, items_str, zipOf_tup, zipOf_lst, zip3_tup, zipD_map, ixT0, ixT1, ixT2, ixT3, ixT4, ixL0, ixL1, slT_n2, slT_n3, slT_1n, slT_2n, slT_3n, slT_m1, o2_add, o2_sub, o2_mul, o2_fdiv, o2_mod, o2_eq, o2_ne, o2_lt, o2_le, o2_gt, o2_ge, o2_inn, o2_notin, o2_idx, o2_max, o2_min, o1_neg, o1_len, len_tup, len_lst, len_dct, len_scr, o1_tuple_tup, o1_tuple_lst, o1_list_tup, o1_list_lst, o1_list_dct, o1_sorted_tup, o1_sorted_lst, o1_all, o1_abs, o1_int_int, o1_int_bl, o1_rev_tup, o1_rev_lst, o1_isTrue, o1_notTrue, o1_isFalse, o1_notFalse, setE, storeP, thaw, rdO, ofE_some, ofE_none, bind_ok, bind_exc, bind_stuck, nox_ok, of_some, of_none, out_ok, out_exc, out_stuck, then_nx, then_rt, then_exc, then_stuck, Fin_rt, Fin_nx, FinX_exc, Nxt_nx, List.getElem?_cons_zero, List.getElem?_cons_succ, List.set_cons_zero, List.set_cons_succ, wipeE, Option.bind_some, Option.bind_none, Option.map_some, Option.map_none, Option.some.injEq, isNonE, ite_ok, ite_int, ite_bl, Bool.if_true_left, Bool.if_false_right, Bool.if_true_right, Bool.if_false_left, if_true, if_false, Bool.false_eq_true, Bool.true_eq_false, reduceIte, ite_true, ite_false, decide_eq_true_eq, decide_true, decide_false, Bool.not_true, Bool.not_false, Bool.and_true, Bool.true_and, Bool.and_false, Bool.false_and, Bool.not_eq_true', decide_eq_false_iff_not, Bool.decide_eq_true]
theorem insertedS {f : Nat} (hT : T f = some (.code c_inserted)) (l : List Ev) (p : Ev) (s : Store) (hl : l.length < 1000) :
    callOf (run G T (n + 1)) f [.val (tupE l), .val (encE p)] s = .ok (tupE (l.take (l.filter fun q => decide (q.1 ≤ p.1)).length ++ [p] ++ l.drop (l.filter fun q => decide (q.1 ≤ p.1)).length)) s := by
  refine callOf_ok hT rfl rfl ?_
  have hf : (l.filter fun q => decide (q.1 ≤ p.1)).length ≤ l.length := List.length_filter_le _ _
  simp only [c_inserted, Def.body, Def.slots, Def.params, startE, List.map_cons, List.map_nil, List.cons_append, List.nil_append, List.append_nil, List.reduceReplicate, List.length_cons, List.length_nil, Nat.reduceAdd, Nat.reduceSub, Nat.reduceLT, Nat.reduceLeDiff, Nat.zero_add, execs_nil, execs_cons, sq_nx, sq_rt, sq_exc, sq_stuck, bE_ok, bE_exc, bEs_ok, bEs_exc, bA_ok, bA_exc, bE2_ok, kAnd_ok, kOr_ok, kIf_ok, kIfS_ok, kIfS_exc, kCh_ok, kCh2_ok, kBand_ok, kBor_ok, kSl_ok, kSl2_ok, evEs_nil, evEs_cons, evA_nil, evA_val, evT_and, evT_or, evT_not, evT_v, evT_yes, evI_of, evI_rng1, evI_rng2, evI_enum, evI_zip2, evI_zip3, dsp_some, evE_cst, evE_gl, evE_inR, inR_int, evEvar, evE_peek, gv_val, gp_own, evE_tup, evE_lst, evE_o1, evE_o2, evE_o3, evE_dct, evE_chain, chn_bl, evE_band, bnd_bl, evE_bor, bor_bl, evE_bnot, evE_ifx, evE_slc, evE_call, evE_lc, exec_asg, exec_par, prO_some, exec_own, exec_app, apO_own, exec_ext, exO_lst, exec_seti, stO_own, poO_some, exec_ifs, exec_for, exec_whl, exec_ret, exec_retN, exec_ex, exec_raise, exec_pass, exec_kill, exec_freeze, exec_try, tryO_nx, tryO_rt, tryO_1, tryO_2, tryO_3, tryO_4, tryO_5, tryO_6, fzO_lst, fzO_dct, bindT_v, bindT_tup, bindT_lst, bindTs_nil, bindTs_cons, add_int, sub_int, mul_int, fdiv_int, mod_int, cmp_int, cmp_str, truth_non, truth_bl, truth_int, truth_tup, truth_lst, gI_non, gI_int, items_tup, items_lst, items_str, zipOf_tup, zipOf_lst, zip3_tup, zipD_map, ixT0, ixT1, ixT2, ixT3, ixT4, ixL0, ixL1, slT_n2, slT_n3, slT_1n, slT_2n, slT_3n, slT_m1, o2_add, o2_sub, o2_mul, o2_fdiv, o2_mod, o2_eq, o2_ne, o2_lt, o2_le, o2_gt, o2_ge, o2_inn, o2_notin, o2_idx, o2_max, o2_min, o1_neg, o1_len, len_tup, len_lst, len_dct, len_scr, o1_tuple_tup, o1_tuple_lst, o1_list_tup, o1_list_lst, o1_list_dct, o1_sorted_tup, o1_sorted_lst, o1_all, o1_abs, o1_int_int, o1_int_bl, o1_rev_tup, o1_rev_lst, o1_isTrue, o1_notTrue, o1_isFalse, o1_notFalse, setE, storeP, thaw, rdO, ofE_some, ofE_none, bind_ok, bind_exc, bind_stuck, nox_ok, of_some, of_none, out_ok, out_exc, out_stuck, then_nx, then_rt, then_exc, then_stuck, Fin_rt, Fin_nx, FinX_exc, Nxt_nx, List.getElem?_cons_zero, List.getElem?_cons_succ, List.set_cons_zero, List.set_cons_succ, wipeE, Option.bind_some, Option.bind_none, Option.map_some, Option.map_none, Option.some.injEq, isNonE, ite_ok, ite_int, ite_bl, Bool.if_true_left, Bool.if_false_right, Bool.if_true_right, Bool.if_false_left, if_true, if_false, Bool.false_eq_true, Bool.true_eq_false, reduceIte, ite_true, ite_false, decide_eq_true_eq, decide_true, decide_false, Bool.not_true, Bool.not_false, Bool.and_true, Bool.true_and, Bool.and_false, Bool.false_and, Bool.not_eq_true', decide_eq_false_iff_not, Bool.decide_eq_true]
  rw [lcL_filter (p := fun q => decide (q.1 ≤ p.1)) (g := encE) (fun q hq => by
    by_cases c : q.1 ≤ p.1 <;> simp only [lcF_eq, encE, Def.body, Def.slots, Def.params, startE, List.map_cons, List.map_nil, List.cons_append, List.nil_append, List.append_nil, List.reduceReplicate, List.length_cons, List.length_nil, Nat.reduceAdd, Nat.reduceSub, Nat.reduceLT, Nat.reduceLeDiff, Nat.zero_add, execs_nil, execs_cons, sq_nx, sq_rt, sq_exc, sq_stuck, bE_ok, bE_exc, bEs_ok, bEs_exc, bA_ok, bA_exc, bE2_ok, kAnd_ok, kOr_ok, kIf_ok, kIfS_ok, kIfS_exc, kCh_ok, kCh2_ok, kBand_ok, kBor_ok, kSl_ok, kSl2_ok, evEs_nil, evEs_cons, evA_nil, evA_val, evT_and, evT_or, evT_not, evT_v, evT_yes, evI_of, evI_rng1, evI_rng2, evI_enum, evI_zip2, evI_zip3, dsp_some, evE_cst, evE_gl, evE_inR, inR_int, evEvar, evE_peek, gv_val, gp_own, evE_tup, evE_lst, evE_o1, evE_o2, evE_o3, evE_dct, evE_chain, chn_bl, evE_band, bnd_bl, evE_bor, bor_bl, evE_bnot, evE_ifx, evE_slc, evE_call, evE_lc, exec_asg, exec_par, prO_some, exec_own, exec_app, apO_own, exec_ext, exO_lst, exec_seti, stO_own, poO_some, exec_ifs, exec_for, exec_whl, exec_ret, exec_retN, exec_ex, exec_raise, exec_pass, exec_kill, exec_freeze, exec_try, tryO_nx, tryO_rt, tryO_1, tryO_2, tryO_3, tryO_4, tryO_5, tryO_6, fzO_lst, fzO_dct, bindT_v, bindT_tup, bindT_lst, bindTs_nil, bindTs_cons, add_int, sub_int, mul_int, fdiv_int, mod_int, cmp_int, cmp_str, truth_non, truth_bl, truth_int, truth_tup, truth_lst, gI_non, gI_int, items_tup, items_lst, items_str, zipOf_tup, zipOf_lst, zip3_tup, zipD_map, ixT0, ixT1, ixT2, ixT3, ixT4, ixL0, ixL1, slT_n2, slT_n3, slT_1n, slT_2n, slT_3n, slT_m1, o2_add, o2_sub, o2_mul, o2_fdiv, o2_mod, o2_eq, o2_ne, o2_lt, o2_le, o2_gt, o2_ge, o2_inn, o2_notin, o2_idx, o2_max, o2_min, o1_neg, o1_len, len_tup, len_lst, len_dct, len_scr, o1_tuple_tup, o1_tuple_lst, o1_list_tup, o1_list_lst, o1_list_dct, o1_sorted_tup, o1_sorted_lst, o1_all, o1_abs, o1_int_int, o1_int_bl, o1_rev_tup, o1_rev_lst, o1_isTrue, o1_notTrue, o1_isFalse, o1_notFalse, setE, storeP, thaw, rdO, ofE_some, ofE_none, bind_ok, bind_exc, bind_stuck, nox_ok, of_some, of_none, out_ok, out_exc, out_stuck, then_nx, then_rt, then_exc, then_stuck, Fin_rt, Fin_nx, FinX_exc, Nxt_nx, List.getElem?_cons_zero, List.getElem?_cons_succ, List.set_cons_zero, List.set_cons_succ, wipeE, Option.bind_some, Option.bind_none, Option.map_some, Option.map_none, Option.some.injEq, isNonE, ite_ok, ite_int, ite_bl, Bool.if_true_left, Bool.if_false_right, Bool.if_true_right, Bool.if_false_left, if_true, if_false, Bool.false_eq_true, Bool.true_eq_false, reduceIte, ite_true, ite_false, decide_eq_true_eq, decide_true, decide_false, Bool.not_true, Bool.not_false, Bool.and_true, Bool.true_and, Bool.and_false, Bool.false_and, Bool.not_eq_true', decide_eq_false_iff_not, Bool.decide_eq_true, c]) (by simp only [LIM]; omega)]
  generalize hk : (l.filter fun q => decide (q.1 ≤ p.1)).length = k at hf
  have ik : ixOk (k : Int) = true := ixOk_of (by omega) (by omega)
  simp only [Def.body, Def.slots, Def.params, startE, List.map_cons, List.map_nil, List.cons_append, List.nil_append, List.append_nil, List.reduceReplicate, List.length_cons, List.length_nil, Nat.reduceAdd, Nat.reduceSub, Nat.reduceLT, Nat.reduceLeDiff, Nat.zero_add, execs_nil, execs_cons, sq_nx, sq_rt, sq_exc, sq_stuck, bE_ok, bE_exc, bEs_ok, bEs_exc, bA_ok, bA_exc, bE2_ok, kAnd_ok, kOr_ok, kIf_ok, kIfS_ok, kIfS_exc, kCh_ok, kCh2_ok, kBand_ok, kBor_ok, kSl_ok, kSl2_ok, evEs_nil, evEs_cons, evA_nil, evA_val, evT_and, evT_or, evT_not, evT_v, evT_yes, evI_of, evI_rng1, evI_rng2, evI_enum, evI_zip2, evI_zip3, dsp_some, evE_cst, evE_gl, evE_inR, inR_int, evEvar, evE_peek, gv_val, gp_own, evE_tup, evE_lst, evE_o1, evE_o2, evE_o3, evE_dct, evE_chain, chn_bl, evE_band, bnd_bl, evE_bor, bor_bl, evE_bnot, evE_ifx, evE_slc, evE_call, evE_lc, exec_asg, exec_par, prO_some, exec_own, exec_app, apO_own, exec_ext, exO_lst, exec_seti, stO_own, poO_some, exec_ifs, exec_for, exec_whl, exec_ret, exec_retN, exec_ex, exec_raise, exec_pass, exec_kill, exec_freeze, exec_try, tryO_nx, tryO_rt, tryO_1, tryO_2, tryO_3, tryO_4, tryO_5, tryO_6, fzO_lst, fzO_dct, bindT_v, bindT_tup, bindT_lst, bindTs_nil, bindTs_cons, add_int, sub_int, mul_int, fdiv_int, mod_int, cmp_int, cmp_str, truth_non, truth_bl, truth_int, truth_tup, truth_lst, gI_non, gI_int, items_tup, items_lst, items_str, zipOf_tup, zipOf_lst, zip3_tup, zipD_map, ixT0, ixT1, ixT2, ixT3, ixT4, ixL0, ixL1, slT_n2, slT_n3, slT_1n, slT_2n, slT_3n, slT_m1, o2_add, o2_sub, o2_mul, o2_fdiv, o2_mod, o2_eq, o2_ne, o2_lt, o2_le, o2_gt, o2_ge, o2_inn, o2_notin, o2_idx, o2_max, o2_min, o1_neg, o1_len, len_tup, len_lst, len_dct, len_scr, o1_tuple_tup, o1_tuple_lst, o1_list_tup, o1_list_lst, o1_list_dct, o1_sorted_tup, o1_sorted_lst, o1_all, o1_abs, o1_int_int, o1_int_bl, o1_rev_tup, o1_rev_lst, o1_isTrue, o1_notTrue, o1_isFalse, o1_notFalse, setE, storeP, thaw, rdO, ofE_some, ofE_none, bind_ok, bind_exc, bind_stuck, nox_ok, of_some, of_none, out_ok, out_exc, out_stuck, then_nx, then_rt, then_exc, then_stuck, Fin_rt, Fin_nx, FinX_exc, Nxt_nx, List.getElem?_cons_zero, List.getElem?_cons_succ, List.set_cons_zero, List.set_cons_succ, wipeE, Option.bind_some, Option.bind_none, Option.map_some, Option.map_none, Option.some.injEq, isNonE, ite_ok, ite_int, ite_bl, Bool.if_true_left, Bool.if_false_right, Bool.if_true_right, Bool.if_false_left, if_true, if_false, Bool.false_eq_true, Bool.true_eq_false, reduceIte, ite_true, ite_false, decide_eq_true_eq, decide_true, decide_false, Bool.not_true, Bool.not_false, Bool.and_true, Bool.true_and, Bool.and_false, Bool.false_and, Bool.not_eq_true', decide_eq_false_iff_not, Bool.decide_eq_true, List.length_map, hk, slT_to k ik, slT_from k ik, add_tup, List.length_take, List.length_drop, List.length_append]
  rw [if_pos (by simp only [LIM]; omega)]
  simp only [Def.body, Def.slots, Def.params, startE, List.map_cons, List.map_nil, List.cons_append, List.nil_append, List.append_nil, List.reduceReplicate, List.length_cons, List.length_nil, Nat.reduceAdd, Nat.reduceSub, Nat.reduceLT, Nat.reduceLeDiff, Nat.zero_add, execs_nil, execs_cons, sq_nx, sq_rt, sq_exc, sq_stuck, bE_ok, bE_exc, bEs_ok, bEs_exc, bA_ok, bA_exc, bE2_ok, kAnd_ok, kOr_ok, kIf_ok, kIfS_ok, kIfS_exc, kCh_ok, kCh2_ok, kBand_ok, kBor_ok, kSl_ok, kSl2_ok, evEs_nil, evEs_cons, evA_nil, evA_val, evT_and, evT_or, evT_not, evT_v, evT_yes, evI_of, evI_rng1, evI_rng2, evI_enum, evI_zip2, evI_zip3, dsp_some, evE_cst, evE_gl, evE_inR, inR_int, evEvar, evE_peek, gv_val, gp_own, evE_tup, evE_lst, evE_o1, evE_o2, evE_o3, evE_dct, evE_chain, chn_bl, evE_band, bnd_bl, evE_bor, bor_bl, evE_bnot, evE_ifx, evE_slc, evE_call, evE_lc, exec_asg, exec_par, prO_some, exec_own, exec_app, apO_own, exec_ext, exO_lst, exec_seti, stO_own, poO_some, exec_ifs, exec_for, exec_whl, exec_ret, exec_retN, exec_ex, exec_raise, exec_pass, exec_kill, exec_freeze, exec_try, tryO_nx, tryO_rt, tryO_1, tryO_2, tryO_3, tryO_4, tryO_5, tryO_6, fzO_lst, fzO_dct, bindT_v, bindT_tup, bindT_lst, bindTs_nil, bindTs_cons, add_int, sub_int, mul_int, fdiv_int, mod_int, cmp_int, cmp_str, truth_non, truth_bl, truth_int, truth_tup, truth_lst, gI_non, gI_int, items_tup, items_lst, items_str, zipOf_tup, zipOf_lst, zip3_tup, zipD_map, ixT0, ixT1, ixT2, ixT3, ixT4, ixL0, ixL1, slT_n2, slT_n3, slT_1n, slT_2n, slT_3n, slT_m1, o2_add, o2_sub, o2_mul, o2_fdiv, o2_mod, o2_eq, o2_ne, o2_lt, o2_le, o2_gt, o2_ge, o2_inn, o2_notin, o2_idx, o2_max, o2_min, o1_neg, o1_len, len_tup, len_lst, len_dct, len_scr, o1_tuple_tup, o1_tuple_lst, o1_list_tup, o1_list_lst, o1_list_dct, o1_sorted_tup, o1_sorted_lst, o1_all, o1_abs, o1_int_int, o1_int_bl, o1_rev_tup, o1_rev_lst, o1_isTrue, o1_notTrue, o1_isFalse, o1_notFalse, setE, storeP, thaw, rdO, ofE_some, ofE_none, bind_ok, bind_exc, bind_stuck, nox_ok, of_some, of_none, out_ok, out_exc, out_stuck, then_nx, then_rt, then_exc, then_stuck, Fin_rt, Fin_nx, FinX_exc, Nxt_nx, List.getElem?_cons_zero, List.getElem?_cons_succ, List.set_cons_zero, List.set_cons_succ, wipeE, Option.bind_some, Option.bind_none, Option.map_some, Option.map_none, Option.some.injEq, isNonE, ite_ok, ite_int, ite_bl, Bool.if_true_left, Bool.if_false_right, Bool.if_true_right, Bool.if_false_left, if_true, if_false, Bool.false_eq_true, Bool.true_eq_false, reduceIte, ite_true, ite_false, decide_eq_true_eq, decide_true, decide_false, Bool.not_true, Bool.not_false, Bool.and_true, Bool.true_and, Bool.and_false, Bool.false_and, Bool.not_eq_true', decide_eq_false_iff_not, Bool.decide_eq_true, slT_from k ik, add_tup, List.length_take, List.length_drop, List.length_append, List.length_map]
  rw [if_pos (by simp only [LIM]; omega)]
  simp only [Def.body, Def.slots, Def.params, startE, List.map_cons, List.map_nil, List.cons_append, List.nil_append, List.append_nil, List.reduceReplicate, List.length_cons, List.length_nil, Nat.reduceAdd, Nat.reduceSub, Nat.reduceLT, Nat.reduceLeDiff, Nat.zero_add, execs_nil, execs_cons, sq_nx, sq_rt, sq_exc, sq_stuck, bE_ok, bE_exc, bEs_ok, bEs_exc, bA_ok, bA_exc, bE2_ok, kAnd_ok, kOr_ok, kIf_ok, kIfS_ok, kIfS_exc, kCh_ok, kCh2_ok, kBand_ok, kBor_ok, kSl_ok, kSl2_ok, evEs_nil, evEs_cons, evA_nil, evA_val, evT_and, evT_or, evT_not, evT_v, evT_yes, evI_of, evI_rng1, evI_rng2, evI_enum, evI_zip2, evI_zip3, dsp_some, evE_cst, evE_gl, evE_inR, inR_int, evEvar, evE_peek, gv_val, gp_own, evE_tup, evE_lst, evE_o1, evE_o2, evE_o3, evE_dct, evE_chain, chn_bl, evE_band, bnd_bl, evE_bor, bor_bl, evE_bnot, evE_ifx, evE_slc, evE_call, evE_lc, exec_asg, exec_par, prO_some, exec_own, exec_app, apO_own, exec_ext, exO_lst, exec_seti, stO_own, poO_some, exec_ifs, exec_for, exec_whl, exec_ret, exec_retN, exec_ex, exec_raise, exec_pass, exec_kill, exec_freeze, exec_try, tryO_nx, tryO_rt, tryO_1, tryO_2, tryO_3, tryO_4, tryO_5, tryO_6, fzO_lst, fzO_dct, bindT_v, bindT_tup, bindT_lst, bindTs_nil, bindTs_cons, add_int, sub_int, mul_int, fdiv_int, mod_int, cmp_int, cmp_str, truth_non, truth_bl, truth_int, truth_tup, truth_lst, gI_non, gI_int, items_tup, items_lst, items_str, zipOf_tup, zipOf_lst, zip3_tup, zipD_map, ixT0, ixT1, ixT2, ixT3, ixT4, ixL0, ixL1, slT_n2, slT_n3, slT_1n, slT_2n, slT_3n, slT_m1, o2_add, o2_sub, o2_mul, o2_fdiv, o2_mod, o2_eq, o2_ne, o2_lt, o2_le, o2_gt, o2_ge, o2_inn, o2_notin, o2_idx, o2_max, o2_min, o1_neg, o1_len, len_tup, len_lst, len_dct, len_scr, o1_tuple_tup, o1_tuple_lst, o1_list_tup, o1_list_lst, o1_list_dct, o1_sorted_tup, o1_sorted_lst, o1_all, o1_abs, o1_int_int, o1_int_bl, o1_rev_tup, o1_rev_lst, o1_isTrue, o1_notTrue, o1_isFalse, o1_notFalse, setE, storeP, thaw, rdO, ofE_some, ofE_none, bind_ok, bind_exc, bind_stuck, nox_ok, of_some, of_none, out_ok, out_exc, out_stuck, then_nx, then_rt, then_exc, then_stuck, Fin_rt, Fin_nx, FinX_exc, Nxt_nx, List.getElem?_cons_zero, List.getElem?_cons_succ, List.set_cons_zero, List.set_cons_succ, wipeE, Option.bind_some, Option.bind_none, Option.map_some, Option.map_none, Option.some.injEq, isNonE, ite_ok, ite_int, ite_bl, Bool.if_true_left, Bool.if_false_right, Bool.if_true_right, Bool.if_false_left, if_true, if_false, Bool.false_eq_true, Bool.true_eq_false, reduceIte, ite_true, ite_false, decide_eq_true_eq, decide_true, decide_false, Bool.not_true, Bool.not_false, Bool.and_true, Bool.true_and, Bool.and_false, Bool.false_and, Bool.not_eq_true', decide_eq_false_iff_not, Bool.decide_eq_true, tupE, List.map_append, List.map_take, List.map_drop]
theorem withoutS {f : Nat} (hT : T f = some (.code c_without)) (l : List Ev) (k : Int) (s : Store) (hl : l.length < 1000) (h0 : 0 ≤ k) (h1 : k < l.length) :
    callOf (run G T (n + 1)) f [.val (tupE l), .val (.int k)] s = .ok (tupE (l.take k.toNat ++ l.drop (k.toNat + 1))) s := by
  refine callOf_ok hT rfl rfl ?_
  have i1 : ixOk (k.toNat : Int) = true := ixOk_of (by omega) (by omega)
  have i2 : ixOk ((k.toNat + 1 : Nat) : Int) = true := ixOk_of (by omega) (by omega)
  have s1 := slT_to (xs := l.map encE) k.toNat i1
  have s2 := slT_from (xs := l.map encE) (k.toNat + 1) i2
  rw [show (k.toNat : Int) = k by omega] at s1
  rw [show ((k.toNat + 1 : Nat) : Int) = k + 1 by omega] at s2
  simp only [c_without, Def.body, Def.slots, Def.params, startE, List.map_cons, List.map_nil, List.cons_append, List.nil_append, List.append_nil, List.reduceReplicate, List.length_cons, List.length_nil, Nat.reduceAdd, Nat.reduceSub, Nat.reduceLT, Nat.reduceLeDiff, Nat.zero_add, execs_nil, execs_cons, sq_nx, sq_rt, sq_exc, sq_stuck, bE_ok, bE_exc, bEs_ok, bEs_exc, bA_ok, bA_exc, bE2_ok, kAnd_ok, kOr_ok, kIf_ok, kIfS_ok, kIfS_exc, kCh_ok, kCh2_ok, kBand_ok, kBor_ok, kSl_ok, kSl2_ok, evEs_nil, evEs_cons, evA_nil, evA_val, evT_and, evT_or, evT_not, evT_v, evT_yes, evI_of, evI_rng1, evI_rng2, evI_enum, evI_zip2, evI_zip3, dsp_some, evE_cst, evE_gl, evE_inR, inR_int, evEvar, evE_peek, gv_val, gp_own, evE_tup, evE_lst, evE_o1, evE_o2, evE_o3, evE_dct, evE_chain, chn_bl, evE_band, bnd_bl, evE_bor, bor_bl, evE_bnot, evE_ifx, evE_slc, evE_call, evE_lc, exec_asg, exec_par, prO_some, exec_own, exec_app, apO_own, exec_ext, exO_lst, exec_seti, stO_own, poO_some, exec_ifs, exec_for, exec_whl, exec_ret, exec_retN, exec_ex, exec_raise, exec_pass, exec_kill, exec_freeze, exec_try, tryO_nx, tryO_rt, tryO_1, tryO_2, tryO_3, tryO_4, tryO_5, tryO_6, fzO_lst, fzO_dct, bindT_v, bindT_tup, bindT_lst, bindTs_nil, bindTs_cons, add_int, sub_int, mul_int, fdiv_int, mod_int, cmp_int, cmp_str, truth_non, truth_bl, truth_int, truth_tup, truth_lst, gI_non, gI_int, items_tup, items_lst, items_str, zipOf_tup, zipOf_lst, zip3_tup, zipD_map, ixT0, ixT1, ixT2, ixT3, ixT4, ixL0, ixL1, slT_n2, slT_n3, slT_1n, slT_2n, slT_3n, slT_m1, o2_add, o2_sub, o2_mul, o2_fdiv, o2_mod, o2_eq, o2_ne, o2_lt, o2_le, o2_gt, o2_ge, o2_inn, o2_notin, o2_idx, o2_max, o2_min, o1_neg, o1_len, len_tup, len_lst, len_dct, len_scr, o1_tuple_tup, o1_tuple_lst, o1_list_tup, o1_list_lst, o1_list_dct, o1_sorted_tup, o1_sorted_lst, o1_all, o1_abs, o1_int_int, o1_int_bl, o1_rev_tup, o1_rev_lst, o1_isTrue, o1_notTrue, o1_isFalse, o1_notFalse, setE, storeP, thaw, rdO, ofE_some, ofE_none, bind_ok, bind_exc, bind_stuck, nox_ok, of_some, of_none, out_ok, out_exc, out_stuck, then_nx, then_rt, then_exc, then_stuck, Fin_rt, Fin_nx, FinX_exc, Nxt_nx, List.getElem?_cons_zero, List.getElem?_cons_succ, List.set_cons_zero, List.set_cons_succ, wipeE, Option.bind_some, Option.bind_none, Option.map_some, Option.map_none, Option.some.injEq, isNonE, ite_ok, ite_int, ite_bl, Bool.if_true_left, Bool.if_false_right, Bool.if_true_right, Bool.if_false_left, if_true, if_false, Bool.false_eq_true, Bool.true_eq_false, reduceIte, ite_true, ite_false, decide_eq_true_eq, decide_true, decide_false, Bool.not_true, Bool.not_false, Bool.and_true, Bool.true_and, Bool.and_false, Bool.false_and, Bool.not_eq_true', decide_eq_false_iff_not, Bool.decide_eq_true, List.length_map, h0, h1, s1, s2, add_tup, List.length_take, List.length_drop]
  rw [if_pos (by simp only [LIM]; omega)]
  simp only [Def.body, Def.slots, Def.params, startE, List.map_cons, List.map_nil, List.cons_append, List.nil_append, List.append_nil, List.reduceReplicate, List.length_cons, List.length_nil, Nat.reduceAdd, Nat.reduceSub, Nat.reduceLT, Nat.reduceLeDiff, Nat.zero_add, execs_nil, execs_cons, sq_nx, sq_rt, sq_exc, sq_stuck, bE_ok, bE_exc, bEs_ok, bEs_exc, bA_ok, bA_exc, bE2_ok, kAnd_ok, kOr_ok, kIf_ok, kIfS_ok, kIfS_exc, kCh_ok, kCh2_ok, kBand_ok, kBor_ok, kSl_ok, kSl2_ok, evEs_nil, evEs_cons, evA_nil, evA_val, evT_and, evT_or, evT_not, evT_v, evT_yes, evI_of, evI_rng1, evI_rng2, evI_enum, evI_zip2, evI_zip3, dsp_some, evE_cst, evE_gl, evE_inR, inR_int, evEvar, evE_peek, gv_val, gp_own, evE_tup, evE_lst, evE_o1, evE_o2, evE_o3, evE_dct, evE_chain, chn_bl, evE_band, bnd_bl, evE_bor, bor_bl, evE_bnot, evE_ifx, evE_slc, evE_call, evE_lc, exec_asg, exec_par, prO_some, exec_own, exec_app, apO_own, exec_ext, exO_lst, exec_seti, stO_own, poO_some, exec_ifs, exec_for, exec_whl, exec_ret, exec_retN, exec_ex, exec_raise, exec_pass, exec_kill, exec_freeze, exec_try, tryO_nx, tryO_rt, tryO_1, tryO_2, tryO_3, tryO_4, tryO_5, tryO_6, fzO_lst, fzO_dct, bindT_v, bindT_tup, bindT_lst, bindTs_nil, bindTs_cons, add_int, sub_int, mul_int, fdiv_int, mod_int, cmp_int, cmp_str, truth_non, truth_bl, truth_int, truth_tup, truth_lst, gI_non, gI_int, items_tup, items_lst, items_str, zipOf_tup, zipOf_lst, zip3_tup, zipD_map, ixT0, ixT1, ixT2, ixT3, ixT4, ixL0, ixL1, slT_n2, slT_n3, slT_1n, slT_2n, slT_3n, slT_m1, o2_add, o2_sub, o2_mul, o2_fdiv, o2_mod, o2_eq, o2_ne, o2_lt, o2_le, o2_gt, o2_ge, o2_inn, o2_notin, o2_idx, o2_max, o2_min, o1_neg, o1_len, len_tup, len_lst, len_dct, len_scr, o1_tuple_tup, o1_tuple_lst, o1_list_tup, o1_list_lst, o1_list_dct, o1_sorted_tup, o1_sorted_lst, o1_all, o1_abs, o1_int_int, o1_int_bl, o1_rev_tup, o1_rev_lst, o1_isTrue, o1_notTrue, o1_isFalse, o1_notFalse, setE, storeP, thaw, rdO, ofE_some, ofE_none, bind_ok, bind_exc, bind_stuck, nox_ok, of_some, of_none, out_ok, out_exc, out_stuck, then_nx, then_rt, then_exc, then_stuck, Fin_rt, Fin_nx, FinX_exc, Nxt_nx, List.getElem?_cons_zero, List.getElem?_cons_succ, List.set_cons_zero, List.set_cons_succ, wipeE, Option.bind_some, Option.bind_none, Option.map_some, Option.map_none, Option.some.injEq, isNonE, ite_ok, ite_int, ite_bl, Bool.if_true_left, Bool.if_false_right, Bool.if_true_right, Bool.if_false_left, if_true, if_false, Bool.false_eq_true, Bool.true_eq_false, reduceIte, ite_true, ite_false, decide_eq_true_eq, decide_true, decide_false, Bool.not_true, Bool.not_false, Bool.and_true, Bool.true_and, Bool.and_false, Bool.false_and, Bool.not_eq_true', decide_eq_false_iff_not, Bool.decide_eq_true, tupE, List.map_append, List.map_take, List.map_drop]
theorem withoutE {f : Nat} (hT : T f = some (.code c_without)) (l : List Ev) (k : Int) (s : Store) (h : ¬ (0 ≤ k ∧ k < l.length)) :
    callOf (run G T (n + 1)) f [.val (tupE l), .val (.int k)] s = .exc 2 s := by
  refine callOf_exc hT rfl rfl ?_
  by_cases h0 : 0 ≤ k
  · have h1 : ¬ k < (l.length : Int) := fun q => h ⟨h0, q⟩
    simp only [c_without, Def.body, Def.slots, Def.params, startE, List.map_cons, List.map_nil, List.cons_append, List.nil_append, List.append_nil, List.reduceReplicate, List.length_cons, List.length_nil, Nat.reduceAdd, Nat.reduceSub, Nat.reduceLT, Nat.reduceLeDiff, Nat.zero_add, execs_nil, execs_cons, sq_nx, sq_rt, sq_exc, sq_stuck, bE_ok, bE_exc, bEs_ok, bEs_exc, bA_ok, bA_exc, bE2_ok, kAnd_ok, kOr_ok, kIf_ok, kIfS_ok, kIfS_exc, kCh_ok, kCh2_ok, kBand_ok, kBor_ok, kSl_ok, kSl2_ok, evEs_nil, evEs_cons, evA_nil, evA_val, evT_and, evT_or, evT_not, evT_v, evT_yes, evI_of, evI_rng1, evI_rng2, evI_enum, evI_zip2, evI_zip3, dsp_some, evE_cst, evE_gl, evE_inR, inR_int, evEvar, evE_peek, gv_val, gp_own, evE_tup, evE_lst, evE_o1, evE_o2, evE_o3, evE_dct, evE_chain, chn_bl, evE_band, bnd_bl, evE_bor, bor_bl, evE_bnot, evE_ifx, evE_slc, evE_call, evE_lc, exec_asg, exec_par, prO_some, exec_own, exec_app, apO_own, exec_ext, exO_lst, exec_seti, stO_own, poO_some, exec_ifs, exec_for, exec_whl, exec_ret, exec_retN, exec_ex, exec_raise, exec_pass, exec_kill, exec_freeze, exec_try, tryO_nx, tryO_rt, tryO_1, tryO_2, tryO_3, tryO_4, tryO_5, tryO_6, fzO_lst, fzO_dct, bindT_v, bindT_tup, bindT_lst, bindTs_nil, bindTs_cons, add_int, sub_int, mul_int, fdiv_int, mod_int, cmp_int, cmp_str, truth_non, truth_bl, truth_int, truth_tup, truth_lst, gI_non, gI_int, items_tup, items_lst, items_str, zipOf_tup, zipOf_lst, zip3_tup, zipD_map, ixT0, ixT1, ixT2, ixT3, ixT4, ixL0, ixL1, slT_n2, slT_n3, slT_1n, slT_2n, slT_3n, slT_m1, o2_add, o2_sub, o2_mul, o2_fdiv, o2_mod, o2_eq, o2_ne, o2_lt, o2_le, o2_gt, o2_ge, o2_inn, o2_notin, o2_idx, o2_max, o2_min, o1_neg, o1_len, len_tup, len_lst, len_dct, len_scr, o1_tuple_tup, o1_tuple_lst, o1_list_tup, o1_list_lst, o1_list_dct, o1_sorted_tup, o1_sorted_lst, o1_all, o1_abs, o1_int_int, o1_int_bl, o1_rev_tup, o1_rev_lst, o1_isTrue, o1_notTrue, o1_isFalse, o1_notFalse, setE, storeP, thaw, rdO, ofE_some, ofE_none, bind_ok, bind_exc, bind_stuck, nox_ok, of_some, of_none, out_ok, out_exc, out_stuck, then_nx, then_rt, then_exc, then_stuck, Fin_rt, Fin_nx, FinX_exc, Nxt_nx, List.getElem?_cons_zero, List.getElem?_cons_succ, List.set_cons_zero, List.set_cons_succ, wipeE, Option.bind_some, Option.bind_none, Option.map_some, Option.map_none, Option.some.injEq, isNonE, ite_ok, ite_int, ite_bl, Bool.if_true_left, Bool.if_false_right, Bool.if_true_right, Bool.if_false_left, if_true, if_false, Bool.false_eq_true, Bool.true_eq_false, reduceIte, ite_true, ite_false, decide_eq_true_eq, decide_true, decide_false, Bool.not_true, Bool.not_false, Bool.and_true, Bool.true_and, Bool.and_false, Bool.false_and, Bool.not_eq_true', decide_eq_false_iff_not, Bool.decide_eq_true, List.length_map, h0, h1]
  · simp only [c_without, Def.body, Def.slots, Def.params, startE, List.map_cons, List.map_nil, List.cons_append, List.nil_append, List.append_nil, List.reduceReplicate, List.length_cons, List.length_nil, Nat.reduceAdd, Nat.reduceSub, Nat.reduceLT, Nat.reduceLeDiff, Nat.zero_add, execs_nil, execs_cons, sq_nx, sq_rt, sq_exc, sq_stuck, bE_ok, bE_exc, bEs_ok, bEs_exc, bA_ok, bA_exc, bE2_ok, kAnd_ok, kOr_ok, kIf_ok, kIfS_ok, kIfS_exc, kCh_ok, kCh2_ok, kBand_ok, kBor_ok, kSl_ok, kSl2_ok, evEs_nil, evEs_cons, evA_nil, evA_val, evT_and, evT_or, evT_not, evT_v, evT_yes, evI_of, evI_rng1, evI_rng2, evI_enum, evI_zip2, evI_zip3, dsp_some, evE_cst, evE_gl, evE_inR, inR_int, evEvar, evE_peek, gv_val, gp_own, evE_tup, evE_lst, evE_o1, evE_o2, evE_o3, evE_dct, evE_chain, chn_bl, evE_band, bnd_bl, evE_bor, bor_bl, evE_bnot, evE_ifx, evE_slc, evE_call, evE_lc, exec_asg, exec_par, prO_some, exec_own, exec_app, apO_own, exec_ext, exO_lst, exec_seti, stO_own, poO_some, exec_ifs, exec_for, exec_whl, exec_ret, exec_retN, exec_ex, exec_raise, exec_pass, exec_kill, exec_freeze, exec_try, tryO_nx, tryO_rt, tryO_1, tryO_2, tryO_3, tryO_4, tryO_5, tryO_6, fzO_lst, fzO_dct, bindT_v, bindT_tup, bindT_lst, bindTs_nil, bindTs_cons, add_int, sub_int, mul_int, fdiv_int, mod_int, cmp_int, cmp_str, truth_non, truth_bl, truth_int, truth_tup, truth_lst, gI_non, gI_int, items_tup, items_lst, items_str, zipOf_tup, zipOf_lst, zip3_tup, zipD_map, ixT0, ixT1, ixT2, ixT3, ixT4, ixL0, ixL1, slT_n2, slT_n3, slT_1n, slT_2n, slT_3n, slT_m1, o2_add, o2_sub, o2_mul, o2_fdiv, o2_mod, o2_eq, o2_ne, o2_lt, o2_le, o2_gt, o2_ge, o2_inn, o2_notin, o2_idx, o2_max, o2_min, o1_neg, o1_len, len_tup, len_lst, len_dct, len_scr, o1_tuple_tup, o1_tuple_lst, o1_list_tup, o1_list_lst, o1_list_dct, o1_sorted_tup, o1_sorted_lst, o1_all, o1_abs, o1_int_int, o1_int_bl, o1_rev_tup, o1_rev_lst, o1_isTrue, o1_notTrue, o1_isFalse, o1_notFalse, setE, storeP, thaw, rdO, ofE_some, ofE_none, bind_ok, bind_exc, bind_stuck, nox_ok, of_some, of_none, out_ok, out_exc, out_stuck, then_nx, then_rt, then_exc, then_stuck, Fin_rt, Fin_nx, FinX_exc, Nxt_nx, List.getElem?_cons_zero, List.getElem?_cons_succ, List.set_cons_zero, List.set_cons_succ, wipeE, Option.bind_some, Option.bind_none, Option.map_some, Option.map_none, Option.some.injEq, isNonE, ite_ok, ite_int, ite_bl, Bool.if_true_left, Bool.if_false_right, Bool.if_true_right, Bool.if_false_left, if_true, if_false, Bool.false_eq_true, Bool.true_eq_false, reduceIte, ite_true, ite_false, decide_eq_true_eq, decide_true, decide_false, Bool.not_true, Bool.not_false, Bool.and_true, Bool.true_and, Bool.and_false, Bool.false_and, Bool.not_eq_true', decide_eq_false_iff_not, Bool.decide_eq_true, List.length_map, h0]
/-! ### the end, and what is said -/
theorem lastT_eq : ∀ (l : List Ev) (t : Int), lastT t l = match l.getLast? with
      | some p => p.1
      | none => t
  | [], t => rfl
  | [(u, d)], t => rfl
  | (u, d) :: q :: l, t => by
    rw [lastT, lastT_eq (q :: l) u, List.getLast?_cons_cons]
    cases h : (q :: l).getLast? with
    | none => simp at h
    | some p => rfl
theorem lawEndS {f : Nat} (hT : T f = some (.code c__law_end)) (l : List Ev) (s : Store) : callOf (run G T (n + 1)) f [.val (tupE l)] s = .ok (.int (lastT 0 l)) s := by
  refine callOf_ok hT rfl rfl ?_
  have ne : neVal (tupE l) (.tup []) = some (.bl (!decide (l = []))) := neVal_of (eqD_tE l [])
  have le := lastT_eq l 0
  by_cases h : l = []
  · subst h
    have ne0 : neVal (tupE []) (.tup []) = some (.bl false) := rfl
    simp only [c__law_end, Def.body, Def.slots, Def.params, startE, List.map_cons, List.map_nil, List.cons_append, List.nil_append, List.append_nil, List.reduceReplicate, List.length_cons, List.length_nil, Nat.reduceAdd, Nat.reduceSub, Nat.reduceLT, Nat.reduceLeDiff, Nat.zero_add, execs_nil, execs_cons, sq_nx, sq_rt, sq_exc, sq_stuck, bE_ok, bE_exc, bEs_ok, bEs_exc, bA_ok, bA_exc, bE2_ok, kAnd_ok, kOr_ok, kIf_ok, kIfS_ok, kIfS_exc, kCh_ok, kCh2_ok, kBand_ok, kBor_ok, kSl_ok, kSl2_ok, evEs_nil, evEs_cons, evA_nil, evA_val, evT_and, evT_or, evT_not, evT_v, evT_yes, evI_of, evI_rng1, evI_rng2, evI_enum, evI_zip2, evI_zip3, dsp_some, evE_cst, evE_gl, evE_inR, inR_int, evEvar, evE_peek, gv_val, gp_own, evE_tup, evE_lst, evE_o1, evE_o2, evE_o3, evE_dct, evE_chain, chn_bl, evE_band, bnd_bl, evE_bor, bor_bl, evE_bnot, evE_ifx, evE_slc, evE_call, evE_lc, exec_asg, exec_par, prO_some, exec_own, exec_app, apO_own, exec_ext, exO_lst, exec_seti, stO_own, poO_some, exec_ifs, exec_for, exec_whl, exec_ret, exec_retN, exec_ex, exec_raise, exec_pass, exec_kill, exec_freeze, exec_try, tryO_nx, tryO_rt, tryO_1, tryO_2, tryO_3, tryO_4, tryO_5, tryO_6, fzO_lst, fzO_dct, bindT_v, bindT_tup, bindT_lst, bindTs_nil, bindTs_cons, add_int, sub_int, mul_int, fdiv_int, mod_int, cmp_int, cmp_str, truth_non, truth_bl, truth_int, truth_tup, truth_lst, gI_non, gI_int, items_tup, items_lst, items_str, zipOf_tup, zipOf_lst, zip3_tup, zipD_map, ixT0, ixT1, ixT2, ixT3, ixT4, ixL0, ixL1, slT_n2, slT_n3, slT_1n, slT_2n, slT_3n, slT_m1, o2_add, o2_sub, o2_mul, o2_fdiv, o2_mod, o2_eq, o2_ne, o2_lt, o2_le, o2_gt, o2_ge, o2_inn, o2_notin, o2_idx, o2_max, o2_min, o1_neg, o1_len, len_tup, len_lst, len_dct, len_scr, o1_tuple_tup, o1_tuple_lst, o1_list_tup, o1_list_lst, o1_list_dct, o1_sorted_tup, o1_sorted_lst, o1_all, o1_abs, o1_int_int, o1_int_bl, o1_rev_tup, o1_rev_lst, o1_isTrue, o1_notTrue, o1_isFalse, o1_notFalse, setE, storeP, thaw, rdO, ofE_some, ofE_none, bind_ok, bind_exc, bind_stuck, nox_ok, of_some, of_none, out_ok, out_exc, out_stuck, then_nx, then_rt, then_exc, then_stuck, Fin_rt, Fin_nx, FinX_exc, Nxt_nx, List.getElem?_cons_zero, List.getElem?_cons_succ, List.set_cons_zero, List.set_cons_succ, wipeE, Option.bind_some, Option.bind_none, Option.map_some, Option.map_none, Option.some.injEq, isNonE, ite_ok, ite_int, ite_bl, Bool.if_true_left, Bool.if_false_right, Bool.if_true_right, Bool.if_false_left, if_true, if_false, Bool.false_eq_true, Bool.true_eq_false, reduceIte, ite_true, ite_false, decide_eq_true_eq, decide_true, decide_false, Bool.not_true, Bool.not_false, Bool.and_true, Bool.true_and, Bool.and_false, Bool.false_and, Bool.not_eq_true', decide_eq_false_iff_not, Bool.decide_eq_true, ne0, lastT]
  · cases hl : l.getLast? with
    | none => rw [List.getLast?_eq_none_iff] at hl; exact absurd hl h
    | some p =>
      rw [hl] at le
      have g : (l.map encE).getLast? = some (encE p) := by rw [List.getLast?_map, hl]; rfl
      simp only [c__law_end, Def.body, Def.slots, Def.params, startE, List.map_cons, List.map_nil, List.cons_append, List.nil_append, List.append_nil, List.reduceReplicate, List.length_cons, List.length_nil, Nat.reduceAdd, Nat.reduceSub, Nat.reduceLT, Nat.reduceLeDiff, Nat.zero_add, execs_nil, execs_cons, sq_nx, sq_rt, sq_exc, sq_stuck, bE_ok, bE_exc, bEs_ok, bEs_exc, bA_ok, bA_exc, bE2_ok, kAnd_ok, kOr_ok, kIf_ok, kIfS_ok, kIfS_exc, kCh_ok, kCh2_ok, kBand_ok, kBor_ok, kSl_ok, kSl2_ok, evEs_nil, evEs_cons, evA_nil, evA_val, evT_and, evT_or, evT_not, evT_v, evT_yes, evI_of, evI_rng1, evI_rng2, evI_enum, evI_zip2, evI_zip3, dsp_some, evE_cst, evE_gl, evE_inR, inR_int, evEvar, evE_peek, gv_val, gp_own, evE_tup, evE_lst, evE_o1, evE_o2, evE_o3, evE_dct, evE_chain, chn_bl, evE_band, bnd_bl, evE_bor, bor_bl, evE_bnot, evE_ifx, evE_slc, evE_call, evE_lc, exec_asg, exec_par, prO_some, exec_own, exec_app, apO_own, exec_ext, exO_lst, exec_seti, stO_own, poO_some, exec_ifs, exec_for, exec_whl, exec_ret, exec_retN, exec_ex, exec_raise, exec_pass, exec_kill, exec_freeze, exec_try, tryO_nx, tryO_rt, tryO_1, tryO_2, tryO_3, tryO_4, tryO_5, tryO_6, fzO_lst, fzO_dct, bindT_v, bindT_tup, bindT_lst, bindTs_nil, bindTs_cons, add_int, sub_int, mul_int, fdiv_int, mod_int, cmp_int, cmp_str, truth_non, truth_bl, truth_int, truth_tup, truth_lst, gI_non, gI_int, items_tup, items_lst, items_str, zipOf_tup, zipOf_lst, zip3_tup, zipD_map, ixT0, ixT1, ixT2, ixT3, ixT4, ixL0, ixL1, slT_n2, slT_n3, slT_1n, slT_2n, slT_3n, slT_m1, o2_add, o2_sub, o2_mul, o2_fdiv, o2_mod, o2_eq, o2_ne, o2_lt, o2_le, o2_gt, o2_ge, o2_inn, o2_notin, o2_idx, o2_max, o2_min, o1_neg, o1_len, len_tup, len_lst, len_dct, len_scr, o1_tuple_tup, o1_tuple_lst, o1_list_tup, o1_list_lst, o1_list_dct, o1_sorted_tup, o1_sorted_lst, o1_all, o1_abs, o1_int_int, o1_int_bl, o1_rev_tup, o1_rev_lst, o1_isTrue, o1_notTrue, o1_isFalse, o1_notFalse, setE, storeP, thaw, rdO, ofE_some, ofE_none, bind_ok, bind_exc, bind_stuck, nox_ok, of_some, of_none, out_ok, out_exc, out_stuck, then_nx, then_rt, then_exc, then_stuck, Fin_rt, Fin_nx, FinX_exc, Nxt_nx, List.getElem?_cons_zero, List.getElem?_cons_succ, List.set_cons_zero, List.set_cons_succ, wipeE, Option.bind_some, Option.bind_none, Option.map_some, Option.map_none, Option.some.injEq, isNonE, ite_ok, ite_int, ite_bl, Bool.if_true_left, Bool.if_false_right, Bool.if_true_right, Bool.if_false_left, if_true, if_false, Bool.false_eq_true, Bool.true_eq_false, reduceIte, ite_true, ite_false, decide_eq_true_eq, decide_true, decide_false, Bool.not_true, Bool.not_false, Bool.and_true, Bool.true_and, Bool.and_false, Bool.false_and, Bool.not_eq_true', decide_eq_false_iff_not, Bool.decide_eq_true, ne, h, ixTm1, g, encE, le]
theorem said03 {f ff fw gl fm : Nat} (hT : T f = some (.code (c__law_said_k03 ff fw))) (hf : T ff = some (.code (c_from_deltas gl fm))) (hg : G gl = some (.int 99999)) (hm : T fm = some (.code c_must)) (l : List Ev) (k : Int) (s : Store) (hl : l.length < 1000) :
    callOf (run G T (n + 3)) f [.val (.int 0), .val (tupE l), .val (.int k)] s = .ok (match frm 0 l with
      | some x => tupE x
      | none => .str ntW) s := by
  have q := fun s => from_deltasS (G := G) (n := n) hf hg hm l s hl
  refine callOf_ok hT rfl rfl ?_
  have z := eqv_int 0 0
  cases hx : frm 0 l with
  | none =>
    rw [hx] at q
    simp only [c__law_said_k03, Def.body, Def.slots, Def.params, startE, List.map_cons, List.map_nil, List.cons_append, List.nil_append, List.append_nil, List.reduceReplicate, List.length_cons, List.length_nil, Nat.reduceAdd, Nat.reduceSub, Nat.reduceLT, Nat.reduceLeDiff, Nat.zero_add, execs_nil, execs_cons, sq_nx, sq_rt, sq_exc, sq_stuck, bE_ok, bE_exc, bEs_ok, bEs_exc, bA_ok, bA_exc, bE2_ok, kAnd_ok, kOr_ok, kIf_ok, kIfS_ok, kIfS_exc, kCh_ok, kCh2_ok, kBand_ok, kBor_ok, kSl_ok, kSl2_ok, evEs_nil, evEs_cons, evA_nil, evA_val, evT_and, evT_or, evT_not, evT_v, evT_yes, evI_of, evI_rng1, evI_rng2, evI_enum, evI_zip2, evI_zip3, dsp_some, evE_cst, evE_gl, evE_inR, inR_int, evEvar, evE_peek, gv_val, gp_own, evE_tup, evE_lst, evE_o1, evE_o2, evE_o3, evE_dct, evE_chain, chn_bl, evE_band, bnd_bl, evE_bor, bor_bl, evE_bnot, evE_ifx, evE_slc, evE_call, evE_lc, exec_asg, exec_par, prO_some, exec_own, exec_app, apO_own, exec_ext, exO_lst, exec_seti, stO_own, poO_some, exec_ifs, exec_for, exec_whl, exec_ret, exec_retN, exec_ex, exec_raise, exec_pass, exec_kill, exec_freeze, exec_try, tryO_nx, tryO_rt, tryO_1, tryO_2, tryO_3, tryO_4, tryO_5, tryO_6, fzO_lst, fzO_dct, bindT_v, bindT_tup, bindT_lst, bindTs_nil, bindTs_cons, add_int, sub_int, mul_int, fdiv_int, mod_int, cmp_int, cmp_str, truth_non, truth_bl, truth_int, truth_tup, truth_lst, gI_non, gI_int, items_tup, items_lst, items_str, zipOf_tup, zipOf_lst, zip3_tup, zipD_map, ixT0, ixT1, ixT2, ixT3, ixT4, ixL0, ixL1, slT_n2, slT_n3, slT_1n, slT_2n, slT_3n, slT_m1, o2_add, o2_sub, o2_mul, o2_fdiv, o2_mod, o2_eq, o2_ne, o2_lt, o2_le, o2_gt, o2_ge, o2_inn, o2_notin, o2_idx, o2_max, o2_min, o1_neg, o1_len, len_tup, len_lst, len_dct, len_scr, o1_tuple_tup, o1_tuple_lst, o1_list_tup, o1_list_lst, o1_list_dct, o1_sorted_tup, o1_sorted_lst, o1_all, o1_abs, o1_int_int, o1_int_bl, o1_rev_tup, o1_rev_lst, o1_isTrue, o1_notTrue, o1_isFalse, o1_notFalse, setE, storeP, thaw, rdO, ofE_some, ofE_none, bind_ok, bind_exc, bind_stuck, nox_ok, of_some, of_none, out_ok, out_exc, out_stuck, then_nx, then_rt, then_exc, then_stuck, Fin_rt, Fin_nx, FinX_exc, Nxt_nx, List.getElem?_cons_zero, List.getElem?_cons_succ, List.set_cons_zero, List.set_cons_succ, wipeE, Option.bind_some, Option.bind_none, Option.map_some, Option.map_none, Option.some.injEq, isNonE, ite_ok, ite_int, ite_bl, Bool.if_true_left, Bool.if_false_right, Bool.if_true_right, Bool.if_false_left, if_true, if_false, Bool.false_eq_true, Bool.true_eq_false, reduceIte, ite_true, ite_false, decide_eq_true_eq, decide_true, decide_false, Bool.not_true, Bool.not_false, Bool.and_true, Bool.true_and, Bool.and_false, Bool.false_and, Bool.not_eq_true', decide_eq_false_iff_not, Bool.decide_eq_true, z, q]
    exact Fin_rt
  | some x =>
    rw [hx] at q
    simp only [c__law_said_k03, Def.body, Def.slots, Def.params, startE, List.map_cons, List.map_nil, List.cons_append, List.nil_append, List.append_nil, List.reduceReplicate, List.length_cons, List.length_nil, Nat.reduceAdd, Nat.reduceSub, Nat.reduceLT, Nat.reduceLeDiff, Nat.zero_add, execs_nil, execs_cons, sq_nx, sq_rt, sq_exc, sq_stuck, bE_ok, bE_exc, bEs_ok, bEs_exc, bA_ok, bA_exc, bE2_ok, kAnd_ok, kOr_ok, kIf_ok, kIfS_ok, kIfS_exc, kCh_ok, kCh2_ok, kBand_ok, kBor_ok, kSl_ok, kSl2_ok, evEs_nil, evEs_cons, evA_nil, evA_val, evT_and, evT_or, evT_not, evT_v, evT_yes, evI_of, evI_rng1, evI_rng2, evI_enum, evI_zip2, evI_zip3, dsp_some, evE_cst, evE_gl, evE_inR, inR_int, evEvar, evE_peek, gv_val, gp_own, evE_tup, evE_lst, evE_o1, evE_o2, evE_o3, evE_dct, evE_chain, chn_bl, evE_band, bnd_bl, evE_bor, bor_bl, evE_bnot, evE_ifx, evE_slc, evE_call, evE_lc, exec_asg, exec_par, prO_some, exec_own, exec_app, apO_own, exec_ext, exO_lst, exec_seti, stO_own, poO_some, exec_ifs, exec_for, exec_whl, exec_ret, exec_retN, exec_ex, exec_raise, exec_pass, exec_kill, exec_freeze, exec_try, tryO_nx, tryO_rt, tryO_1, tryO_2, tryO_3, tryO_4, tryO_5, tryO_6, fzO_lst, fzO_dct, bindT_v, bindT_tup, bindT_lst, bindTs_nil, bindTs_cons, add_int, sub_int, mul_int, fdiv_int, mod_int, cmp_int, cmp_str, truth_non, truth_bl, truth_int, truth_tup, truth_lst, gI_non, gI_int, items_tup, items_lst, items_str, zipOf_tup, zipOf_lst, zip3_tup, zipD_map, ixT0, ixT1, ixT2, ixT3, ixT4, ixL0, ixL1, slT_n2, slT_n3, slT_1n, slT_2n, slT_3n, slT_m1, o2_add, o2_sub, o2_mul, o2_fdiv, o2_mod, o2_eq, o2_ne, o2_lt, o2_le, o2_gt, o2_ge, o2_inn, o2_notin, o2_idx, o2_max, o2_min, o1_neg, o1_len, len_tup, len_lst, len_dct, len_scr, o1_tuple_tup, o1_tuple_lst, o1_list_tup, o1_list_lst, o1_list_dct, o1_sorted_tup, o1_sorted_lst, o1_all, o1_abs, o1_int_int, o1_int_bl, o1_rev_tup, o1_rev_lst, o1_isTrue, o1_notTrue, o1_isFalse, o1_notFalse, setE, storeP, thaw, rdO, ofE_some, ofE_none, bind_ok, bind_exc, bind_stuck, nox_ok, of_some, of_none, out_ok, out_exc, out_stuck, then_nx, then_rt, then_exc, then_stuck, Fin_rt, Fin_nx, FinX_exc, Nxt_nx, List.getElem?_cons_zero, List.getElem?_cons_succ, List.set_cons_zero, List.set_cons_succ, wipeE, Option.bind_some, Option.bind_none, Option.map_some, Option.map_none, Option.some.injEq, isNonE, ite_ok, ite_int, ite_bl, Bool.if_true_left, Bool.if_false_right, Bool.if_true_right, Bool.if_false_left, if_true, if_false, Bool.false_eq_true, Bool.true_eq_false, reduceIte, ite_true, ite_false, decide_eq_true_eq, decide_true, decide_false, Bool.not_true, Bool.not_false, Bool.and_true, Bool.true_and, Bool.and_false, Bool.false_and, Bool.not_eq_true', decide_eq_false_iff_not, Bool.decide_eq_true, z, q]
theorem said13 {f ff fw : Nat} (hT : T f = some (.code (c__law_said_k03 ff fw))) (hw : T fw = some (.code c_without)) (l : List Ev) (k : Int) (s : Store) (hl : l.length < 1000) :
    callOf (run G T (n + 2)) f [.val (.int 1), .val (tupE l), .val (.int k)] s = .ok (if 0 ≤ k ∧ k < l.length then tupE (l.take k.toNat ++ l.drop (k.toNat + 1)) else .str neW) s := by
  refine callOf_ok hT rfl rfl ?_
  have z := eqv_int 1 0
  by_cases h : 0 ≤ k ∧ k < l.length
  · simp only [c__law_said_k03, Def.body, Def.slots, Def.params, startE, List.map_cons, List.map_nil, List.cons_append, List.nil_append, List.append_nil, List.reduceReplicate, List.length_cons, List.length_nil, Nat.reduceAdd, Nat.reduceSub, Nat.reduceLT, Nat.reduceLeDiff, Nat.zero_add, execs_nil, execs_cons, sq_nx, sq_rt, sq_exc, sq_stuck, bE_ok, bE_exc, bEs_ok, bEs_exc, bA_ok, bA_exc, bE2_ok, kAnd_ok, kOr_ok, kIf_ok, kIfS_ok, kIfS_exc, kCh_ok, kCh2_ok, kBand_ok, kBor_ok, kSl_ok, kSl2_ok, evEs_nil, evEs_cons, evA_nil, evA_val, evT_and, evT_or, evT_not, evT_v, evT_yes, evI_of, evI_rng1, evI_rng2, evI_enum, evI_zip2, evI_zip3, dsp_some, evE_cst, evE_gl, evE_inR, inR_int, evEvar, evE_peek, gv_val, gp_own, evE_tup, evE_lst, evE_o1, evE_o2, evE_o3, evE_dct, evE_chain, chn_bl, evE_band, bnd_bl, evE_bor, bor_bl, evE_bnot, evE_ifx, evE_slc, evE_call, evE_lc, exec_asg, exec_par, prO_some, exec_own, exec_app, apO_own, exec_ext, exO_lst, exec_seti, stO_own, poO_some, exec_ifs, exec_for, exec_whl, exec_ret, exec_retN, exec_ex, exec_raise, exec_pass, exec_kill, exec_freeze, exec_try, tryO_nx, tryO_rt, tryO_1, tryO_2, tryO_3, tryO_4, tryO_5, tryO_6, fzO_lst, fzO_dct, bindT_v, bindT_tup, bindT_lst, bindTs_nil, bindTs_cons, add_int, sub_int, mul_int, fdiv_int, mod_int, cmp_int, cmp_str, truth_non, truth_bl, truth_int, truth_tup, truth_lst, gI_non, gI_int, items_tup, items_lst, items_str, zipOf_tup, zipOf_lst, zip3_tup, zipD_map, ixT0, ixT1, ixT2, ixT3, ixT4, ixL0, ixL1, slT_n2, slT_n3, slT_1n, slT_2n, slT_3n, slT_m1, o2_add, o2_sub, o2_mul, o2_fdiv, o2_mod, o2_eq, o2_ne, o2_lt, o2_le, o2_gt, o2_ge, o2_inn, o2_notin, o2_idx, o2_max, o2_min, o1_neg, o1_len, len_tup, len_lst, len_dct, len_scr, o1_tuple_tup, o1_tuple_lst, o1_list_tup, o1_list_lst, o1_list_dct, o1_sorted_tup, o1_sorted_lst, o1_all, o1_abs, o1_int_int, o1_int_bl, o1_rev_tup, o1_rev_lst, o1_isTrue, o1_notTrue, o1_isFalse, o1_notFalse, setE, storeP, thaw, rdO, ofE_some, ofE_none, bind_ok, bind_exc, bind_stuck, nox_ok, of_some, of_none, out_ok, out_exc, out_stuck, then_nx, then_rt, then_exc, then_stuck, Fin_rt, Fin_nx, FinX_exc, Nxt_nx, List.getElem?_cons_zero, List.getElem?_cons_succ, List.set_cons_zero, List.set_cons_succ, wipeE, Option.bind_some, Option.bind_none, Option.map_some, Option.map_none, Option.some.injEq, isNonE, ite_ok, ite_int, ite_bl, Bool.if_true_left, Bool.if_false_right, Bool.if_true_right, Bool.if_false_left, if_true, if_false, Bool.false_eq_true, Bool.true_eq_false, reduceIte, ite_true, ite_false, decide_eq_true_eq, decide_true, decide_false, Bool.not_true, Bool.not_false, Bool.and_true, Bool.true_and, Bool.and_false, Bool.false_and, Bool.not_eq_true', decide_eq_false_iff_not, Bool.decide_eq_true, z, Int.reduceEq, fun s => withoutS (G := G) (n := n) hw l k s hl h.1 h.2]
    rw [if_pos h]
    exact Fin_rt
  · simp only [c__law_said_k03, Def.body, Def.slots, Def.params, startE, List.map_cons, List.map_nil, List.cons_append, List.nil_append, List.append_nil, List.reduceReplicate, List.length_cons, List.length_nil, Nat.reduceAdd, Nat.reduceSub, Nat.reduceLT, Nat.reduceLeDiff, Nat.zero_add, execs_nil, execs_cons, sq_nx, sq_rt, sq_exc, sq_stuck, bE_ok, bE_exc, bEs_ok, bEs_exc, bA_ok, bA_exc, bE2_ok, kAnd_ok, kOr_ok, kIf_ok, kIfS_ok, kIfS_exc, kCh_ok, kCh2_ok, kBand_ok, kBor_ok, kSl_ok, kSl2_ok, evEs_nil, evEs_cons, evA_nil, evA_val, evT_and, evT_or, evT_not, evT_v, evT_yes, evI_of, evI_rng1, evI_rng2, evI_enum, evI_zip2, evI_zip3, dsp_some, evE_cst, evE_gl, evE_inR, inR_int, evEvar, evE_peek, gv_val, gp_own, evE_tup, evE_lst, evE_o1, evE_o2, evE_o3, evE_dct, evE_chain, chn_bl, evE_band, bnd_bl, evE_bor, bor_bl, evE_bnot, evE_ifx, evE_slc, evE_call, evE_lc, exec_asg, exec_par, prO_some, exec_own, exec_app, apO_own, exec_ext, exO_lst, exec_seti, stO_own, poO_some, exec_ifs, exec_for, exec_whl, exec_ret, exec_retN, exec_ex, exec_raise, exec_pass, exec_kill, exec_freeze, exec_try, tryO_nx, tryO_rt, tryO_1, tryO_2, tryO_3, tryO_4, tryO_5, tryO_6, fzO_lst, fzO_dct, bindT_v, bindT_tup, bindT_lst, bindTs_nil, bindTs_cons, add_int, sub_int, mul_int, fdiv_int, mod_int, cmp_int, cmp_str, truth_non, truth_bl, truth_int, truth_tup, truth_lst, gI_non, gI_int, items_tup, items_lst, items_str, zipOf_tup, zipOf_lst, zip3_tup, zipD_map, ixT0, ixT1, ixT2, ixT3, ixT4, ixL0, ixL1, slT_n2, slT_n3, slT_1n, slT_2n, slT_3n, slT_m1, o2_add, o2_sub, o2_mul, o2_fdiv, o2_mod, o2_eq, o2_ne, o2_lt, o2_le, o2_gt, o2_ge, o2_inn, o2_notin, o2_idx, o2_max, o2_min, o1_neg, o1_len, len_tup, len_lst, len_dct, len_scr, o1_tuple_tup, o1_tuple_lst, o1_list_tup, o1_list_lst, o1_list_dct, o1_sorted_tup, o1_sorted_lst, o1_all, o1_abs, o1_int_int, o1_int_bl, o1_rev_tup, o1_rev_lst, o1_isTrue, o1_notTrue, o1_isFalse, o1_notFalse, setE, storeP, thaw, rdO, ofE_some, ofE_none, bind_ok, bind_exc, bind_stuck, nox_ok, of_some, of_none, out_ok, out_exc, out_stuck, then_nx, then_rt, then_exc, then_stuck, Fin_rt, Fin_nx, FinX_exc, Nxt_nx, List.getElem?_cons_zero, List.getElem?_cons_succ, List.set_cons_zero, List.set_cons_succ, wipeE, Option.bind_some, Option.bind_none, Option.map_some, Option.map_none, Option.some.injEq, isNonE, ite_ok, ite_int, ite_bl, Bool.if_true_left, Bool.if_false_right, Bool.if_true_right, Bool.if_false_left, if_true, if_false, Bool.false_eq_true, Bool.true_eq_false, reduceIte, ite_true, ite_false, decide_eq_true_eq, decide_true, decide_false, Bool.not_true, Bool.not_false, Bool.and_true, Bool.true_and, Bool.and_false, Bool.false_and, Bool.not_eq_true', decide_eq_false_iff_not, Bool.decide_eq_true, z, Int.reduceEq, fun s => withoutE (G := G) (n := n) hw l k s h]
    rw [if_neg h]
    exact Fin_rt
end Nt
set_option autoImplicit false
set_option linter.all false
set_option maxRecDepth 100000
/-! L03: the law k03 over the evaluator -/
namespace Nt
variable {G : Glob} {T : Table} {n : Nat}
def enumZ {α : Type} (k : Int) : List α → List (Int × α)
  | [] => []
  | a :: l => (k, a) :: enumZ (k + 1) l
theorem enum_map {α : Type} (e : α → D) : ∀ (l : List α) (k : Nat), enumFrom k (l.map e) = (enumZ (k : Int) l).map fun p => .tup [.int p.1, e p.2]
  | [], k => rfl
  | a :: l, k => by
    rw [List.map_cons, enumFrom, enum_map e l (k + 1), enumZ, List.map_cons]
    rfl
theorem enumZ_len {α : Type} : ∀ (l : List α) (k : Int), (enumZ k l).length = l.length
  | [], k => rfl
  | a :: l, k => by rw [enumZ, List.length_cons, enumZ_len l, List.length_cons]
theorem enumZ_bd {α : Type} : ∀ (l : List α) (k : Int), ∀ p ∈ enumZ k l, k ≤ p.1 ∧ p.1 < k + l.length
  | [], k, p, h => by cases h
  | a :: l, k, p, h => by
    rw [enumZ] at h
    rw [List.length_cons]
    rcases List.mem_cons.mp h with rfl | h
    · exact ⟨Int.le_refl _, by show k < _; omega⟩
    · have := enumZ_bd l (k + 1) p h; omega
theorem enumZ_filter {α : Type} (m : Int) : ∀ (l : List α) (k : Int), k ≤ m → m < k + l.length → ((enumZ k l).filter fun p => !decide (p.1 = m)).map Prod.snd = l.take (m - k).toNat ++ l.drop ((m - k).toNat + 1)
  | [], k, h, h2 => by simp at h2; omega
  | a :: l, k, h, h2 => by
    have all : ∀ (l : List α) (k : Int), m < k → ((enumZ k l).filter fun p => !decide (p.1 = m)).map Prod.snd = l := by
      intro l
      induction l with
      | nil => intro k _; rfl
      | cons a l ih =>
        intro k hk
        rw [enumZ, List.filter_cons_of_pos (by simp; omega), List.map_cons, ih (k + 1) (by omega)]
    rw [List.length_cons] at h2
    by_cases e : k = m
    · subst e
      rw [enumZ, List.filter_cons_of_neg (by simp), all l (k + 1) (by omega)]
      simp
    · rw [enumZ, List.filter_cons_of_pos (by simp; omega), List.map_cons, enumZ_filter m l (k + 1) (by omega) (by omega)]
      have : (m - k).toNat = (m - (k + 1)).toNat + 1 := by omega
      rw [this, List.take_succ_cons, List.drop_succ_cons, List.cons_append]
/-- ticks, 0 ahead -/
def tks (l : List Ev) : List Int := 0 :: l.map Prod.fst
def dueL (l : List Ev) : List Ev := (enumZ 0 l).map fun p => (pick (tks l) (p.1 + 1) - pick (tks l) p.1, p.2.2)
theorem dueL_gen : ∀ (l : List Ev) (pre : List Int) (t : Int), (enumZ (pre.length : Int) l).map (fun p => (pick (pre ++ t :: l.map Prod.fst) (p.1 + 1) - pick (pre ++ t :: l.map Prod.fst) p.1, p.2.2)) = dlt t l
  | [], pre, t => rfl
  | (u, d) :: l, pre, t => by
    have e1 : pre ++ t :: ((u, d) :: l).map Prod.fst = (pre ++ [t]) ++ u :: l.map Prod.fst := by simp
    have ih := dueL_gen l (pre ++ [t]) u
    rw [enumZ, List.map_cons, e1, dlt]
    rw [List.length_append, List.length_cons, List.length_nil] at ih
    have e2 : ((pre.length + (0 + 1) : Nat) : Int) = (pre.length : Int) + 1 := by omega
    rw [e2] at ih
    rw [ih]
    congr 2
    have p1 : pick (pre ++ [t] ++ u :: l.map Prod.fst) ((pre.length : Int) + 1) = u := by
      unfold pick
      rw [show ((pre.length : Int) + 1).toNat = (pre ++ [t]).length by simp, List.getElem?_append_right (by omega), Nat.sub_self]
      rfl
    have p2 : pick (pre ++ [t] ++ u :: l.map Prod.fst) (pre.length : Int) = t := by
      unfold pick
      rw [Int.toNat_natCast, List.append_assoc, List.getElem?_append_right (by omega), Nat.sub_self]
      rfl
    rw [p1, p2]
theorem dueL_eq (l : List Ev) : dueL l = dlt 0 l := dueL_gen l [] 0
/-- events do not fall: those up to a tick are ahead -/
theorem rise_split (t : Int) : ∀ (l : List Ev) (u : Int), Rise u l → l.take (l.filter fun q => decide (q.1 ≤ t)).length = (l.filter fun q => decide (q.1 ≤ t)) ∧ l.drop (l.filter fun q => decide (q.1 ≤ t)).length = (l.filter fun q => decide (t < q.1))
  | [], u, _ => ⟨rfl, rfl⟩
  | (v, d) :: l, u, h => by
    have ih := rise_split t l v h.2
    by_cases c : v ≤ t
    · rw [List.filter_cons_of_pos (by simpa using c), List.filter_cons_of_neg (by simp; omega), List.length_cons, List.take_succ_cons, List.drop_succ_cons, ih.1, ih.2]
      exact ⟨rfl, rfl⟩
    · have more : ∀ (l : List Ev) (v : Int), Rise v l → t < v → (l.filter fun q => decide (q.1 ≤ t)) = [] ∧ (l.filter fun q => decide (t < q.1)) = l := by
        intro l
        induction l with
        | nil => intro v _ _; exact ⟨rfl, rfl⟩
        | cons p l ih =>
          obtain ⟨w, e⟩ := p
          intro v hr hv
          have h1 := hr.1
          have := ih w hr.2 (by omega)
          rw [List.filter_cons_of_neg (by simp; omega), List.filter_cons_of_pos (by simp; omega), this.1, this.2]
          exact ⟨rfl, rfl⟩
      have m := more l v h.2 (by omega)
      rw [List.filter_cons_of_neg (by simpa using c), List.filter_cons_of_pos (by simp; omega), m.1, m.2]
      exact ⟨rfl, rfl⟩
theorem lastT_bd : ∀ (l : List Ev) (t b : Int), t ≤ b → (∀ p ∈ l, p.1 ≤ b) → Rise t l → t ≤ lastT t l ∧ lastT t l ≤ b
  | [], t, b, h, _, _ => ⟨Int.le_refl _, h⟩
  | (u, d) :: l, t, b, h, k, r => by
    have ih := lastT_bd l u b (k _ List.mem_cons_self) (fun p hp => k p (List.mem_cons_of_mem _ hp)) r.2
    have r1 := r.1
    rw [lastT]; omega
def wA : Deed := .word [0]
def wB : Deed := .word [1]
def Inv03 (ns : List Int) : Env → Store → Prop := fun e s => ∃ o1 o2 o3 o4 o5 o6 o7 o8 o9 o10 o11 o12 o13 o14 o15 o16 o17 o18, e = [some (.val (.scr ns)), o1, o2, o3, o4, o5, o6, o7, o8, o9, o10, o11, o12, o13, o14, o15, o16, o17, o18]
theorem law03 {f fc ft fs fd fa fe fm fx fb fp fi ff gl fu fw fr : Nat} (hT : T f = some (.code (c_law_k03 fc ft fs fd fa fe fm fx fb fp fi))) (hc : T fc = some (.code c__law_cell)) (ht : T ft = some (.code (c__law_track fm fr fp))) (hr : T fr = some (.code (c__law_far_deed fm))) (hp : T fp = some (.code (c__law_deed fm))) (hm : T fm = some (.code c__law_mix))
    (hs : T fs = some (.code (c__law_said_k03 ff fw))) (hf : T ff = some (.code (c_from_deltas gl fu))) (hg : G gl = some (.int 99999)) (hu : T fu = some (.code c_must)) (hw : T fw = some (.code c_without)) (hd' : T fd = some (.code c_deltas)) (ha : T fa = some (.code (c__law_same fa)))
    (he : T fe = some (.code c__law_end)) (hx : T fx = some (.code c_at)) (hb : T fb = some (.code c_between)) (hi : T fi = some (.code c_inserted))
    (ns : List Int) (hB : ∀ z ∈ ns, Bits z 1048576) : ∃ s, run G T (n + 6) f [.val (.scr ns)] [] = .ok (.bl true) s := by
  have a1 : ∀ k s, 0 ≤ k → k < 1000 → callOf (run G T (n + 5)) fc [.val (.scr ns), .val (.int k)] s = _ := fun k s h1 h2 => cellS (n := n + 4) hc ns k s h1 h2
  have a2 : ∀ c p m s, 0 < p → p < 18446744073709551616 → 0 < m → m < 18446744073709551616 → callOf (run G T (n + 5)) fm [.val (.int c), .val (.int p), .val (.int m)] s = _ := fun c p m s h1 h2 h3 h4 => mixS (n := n + 4) hm c p m s h1 h2 h3 h4
  have a3 : ∀ c s, Bits c 2000000 → callOf (run G T (n + 5)) ft [.val (.int c), .val (.int 16)] s = _ := fun c s h => lawTrackS (n := n + 2) ht hm hr hp c 16 s h (by decide) (by decide)
  have a4 : ∀ c s, callOf (run G T (n + 5)) fp [.val (.int c)] s = _ := fun c s => lawDeedS (n := n + 3) hp hm c s
  have a5 : ∀ l s, l.length < 1000 → callOf (run G T (n + 5)) fd [.val (tupE l)] s = _ := fun l s h => deltasS (n := n + 4) hd' l s h
  have a6 : ∀ d s, sameN 5 d = true → callOf (run G T (n + 5)) fa [.val d, .val d] s = _ := fun d s h => sameS ha 5 d s (by omega) h
  have a7 : ∀ l k s, l.length < 1000 → callOf (run G T (n + 5)) fs [.val (.int 0), .val (tupE l), .val (.int k)] s = _ := fun l k s h => said03 (n := n + 2) hs hf hg hu l k s h
  have a8 : ∀ l k s, l.length < 1000 → callOf (run G T (n + 5)) fs [.val (.int 1), .val (tupE l), .val (.int k)] s = _ := fun l k s h => said13 (n := n + 3) hs hw l k s h
  have a9 : ∀ l s, callOf (run G T (n + 5)) fe [.val (tupE l)] s = _ := fun l s => lawEndS (n := n + 4) he l s
  have a10 : ∀ l t s, l.length < 1000 → callOf (run G T (n + 5)) fx [.val (tupE l), .val (.int t)] s = _ := fun l t s h => atS (n := n + 4) hx l t s h
  have a11 : ∀ l t u s, l.length < 1000 → callOf (run G T (n + 5)) fb [.val (tupE l), .val (.int t), .val (.int u)] s = _ := fun l t u s h => betweenS (n := n + 4) hb l t u s h
  have a12 : ∀ l p s, l.length < 1000 → callOf (run G T (n + 5)) fi [.val (tupE l), .val (encE p)] s = _ := fun l p s h => insertedS (n := n + 4) hi l p s h
  have tail : ∀ (k c : Int) (o4 o5 o6 o7 o8 o9 o10 o11 o12 o13 o14 o15 o16 o17 o18 : Option Slot) (s : Store), 0 ≤ k → k < 100 →
      Nxt (execs G (run G T (n + 5)) (dropS 2 (loopB (nthS 0 (c_law_k03 fc ft fs fd fa fe fm fx fb fp fi).body))) [some (.val (.scr ns)), some (.val (.int k)), some (.val (.int c)), some (.val (tupE (trackOf c 16))), o4, o5, o6, o7, o8, o9, o10, o11, o12, o13, o14, o15, o16, o17, o18] s) (Inv03 ns) := by
    intro k c o4 o5 o6 o7 o8 o9 o10 o11 o12 o13 o14 o15 o16 o17 o18 s k0 k1
    have hlen := trackOf_len c (most := 16) (by decide)
    have hrise := trackOf_rise c 16
    have hmost := trackOf_most c (most := 16) (by decide)
    generalize trackOf c 16 = S at hlen hrise hmost
    have lim : S.length ≤ LIM := by simp only [LIM]; omega
    have l3 : S.length < 1000 := by omega
    have le : lastT 0 S ≤ 1600 ∧ 0 ≤ lastT 0 S := by
      have := lastT_bd S 0 1600 (by decide) (fun p hp => (hmost p hp).2) hrise; omega
    have hm9 : ∀ p ∈ S, p.1 ≤ 99999 := fun p hp => by have := hmost p hp; omega
    have tl : (tks S).length = S.length + 1 := by rw [tks, List.length_cons, List.length_map]
    simp only [c_law_k03, nthS, loopB, dropS, Def.body, Def.slots, Def.params, startE, List.map_cons, List.map_nil, List.cons_append, List.nil_append, List.append_nil, List.reduceReplicate, List.length_cons, List.length_nil, Nat.reduceAdd, Nat.reduceSub, Nat.reduceLT, Nat.reduceLeDiff, Nat.zero_add, execs_nil, execs_cons, sq_nx, sq_rt, sq_exc, sq_stuck, bE_ok, bE_exc, bEs_ok, bEs_exc, bA_ok, bA_exc, bE2_ok, kAnd_ok, kOr_ok, kIf_ok, kIfS_ok, kIfS_exc, kCh_ok, kCh2_ok, kBand_ok, kBor_ok, kSl_ok, kSl2_ok, evEs_nil, evEs_cons, evA_nil, evA_val, evT_and, evT_or, evT_not, evT_v, evT_yes, evI_of, evI_rng1, evI_rng2, evI_enum, evI_zip2, evI_zip3, dsp_some, evE_cst, evE_gl, evE_inR, inR_int, evEvar, evE_peek, gv_val, gp_own, evE_tup, evE_lst, evE_o1, evE_o2, evE_o3, evE_dct, evE_chain, chn_bl, evE_band, bnd_bl, evE_bor, bor_bl, evE_bnot, evE_ifx, evE_slc, evE_call, evE_lc, exec_asg, exec_par, prO_some, exec_own, exec_app, apO_own, exec_ext, exO_lst, exec_seti, stO_own, poO_some, exec_ifs, exec_for, exec_whl, exec_ret, exec_retN, exec_ex, exec_raise, exec_pass, exec_kill, exec_freeze, exec_try, tryO_nx, tryO_rt, tryO_1, tryO_2, tryO_3, tryO_4, tryO_5, tryO_6, fzO_lst, fzO_dct, bindT_v, bindT_tup, bindT_lst, bindTs_nil, bindTs_cons, add_int, sub_int, mul_int, fdiv_int, mod_int, cmp_int, cmp_str, truth_non, truth_bl, truth_int, truth_tup, truth_lst, gI_non, gI_int, items_tup, items_lst, items_str, zipOf_tup, zipOf_lst, zip3_tup, zipD_map, ixT0, ixT1, ixT2, ixT3, ixT4, ixL0, ixL1, slT_n2, slT_n3, slT_1n, slT_2n, slT_3n, slT_m1, o2_add, o2_sub, o2_mul, o2_fdiv, o2_mod, o2_eq, o2_ne, o2_lt, o2_le, o2_gt, o2_ge, o2_inn, o2_notin, o2_idx, o2_max, o2_min, o1_neg, o1_len, len_tup, len_lst, len_dct, len_scr, o1_tuple_tup, o1_tuple_lst, o1_list_tup, o1_list_lst, o1_list_dct, o1_sorted_tup, o1_sorted_lst, o1_all, o1_abs, o1_int_int, o1_int_bl, o1_rev_tup, o1_rev_lst, o1_isTrue, o1_notTrue, o1_isFalse, o1_notFalse, setE, storeP, thaw, rdO, ofE_some, ofE_none, bind_ok, bind_exc, bind_stuck, nox_ok, of_some, of_none, out_ok, out_exc, out_stuck, then_nx, then_rt, then_exc, then_stuck, Fin_rt, Fin_nx, FinX_exc, Nxt_nx, List.getElem?_cons_zero, List.getElem?_cons_succ, List.set_cons_zero, List.set_cons_succ, wipeE, Option.bind_some, Option.bind_none, Option.map_some, Option.map_none, Option.some.injEq, isNonE, ite_ok, ite_int, ite_bl, Bool.if_true_left, Bool.if_false_right, Bool.if_true_right, Bool.if_false_left, if_true, if_false, Bool.false_eq_true, Bool.true_eq_false, reduceIte, ite_true, ite_false, decide_eq_true_eq, decide_true, decide_false, Bool.not_true, Bool.not_false, Bool.and_true, Bool.true_and, Bool.and_false, Bool.false_and, Bool.not_eq_true', decide_eq_false_iff_not, Bool.decide_eq_true]
    rw [lcL_map (g := fun p => .int p.1) (fun x hx => by simp only [lcF_eq, encE, Def.body, Def.slots, Def.params, startE, List.map_cons, List.map_nil, List.cons_append, List.nil_append, List.append_nil, List.reduceReplicate, List.length_cons, List.length_nil, Nat.reduceAdd, Nat.reduceSub, Nat.reduceLT, Nat.reduceLeDiff, Nat.zero_add, execs_nil, execs_cons, sq_nx, sq_rt, sq_exc, sq_stuck, bE_ok, bE_exc, bEs_ok, bEs_exc, bA_ok, bA_exc, bE2_ok, kAnd_ok, kOr_ok, kIf_ok, kIfS_ok, kIfS_exc, kCh_ok, kCh2_ok, kBand_ok, kBor_ok, kSl_ok, kSl2_ok, evEs_nil, evEs_cons, evA_nil, evA_val, evT_and, evT_or, evT_not, evT_v, evT_yes, evI_of, evI_rng1, evI_rng2, evI_enum, evI_zip2, evI_zip3, dsp_some, evE_cst, evE_gl, evE_inR, inR_int, evEvar, evE_peek, gv_val, gp_own, evE_tup, evE_lst, evE_o1, evE_o2, evE_o3, evE_dct, evE_chain, chn_bl, evE_band, bnd_bl, evE_bor, bor_bl, evE_bnot, evE_ifx, evE_slc, evE_call, evE_lc, exec_asg, exec_par, prO_some, exec_own, exec_app, apO_own, exec_ext, exO_lst, exec_seti, stO_own, poO_some, exec_ifs, exec_for, exec_whl, exec_ret, exec_retN, exec_ex, exec_raise, exec_pass, exec_kill, exec_freeze, exec_try, tryO_nx, tryO_rt, tryO_1, tryO_2, tryO_3, tryO_4, tryO_5, tryO_6, fzO_lst, fzO_dct, bindT_v, bindT_tup, bindT_lst, bindTs_nil, bindTs_cons, add_int, sub_int, mul_int, fdiv_int, mod_int, cmp_int, cmp_str, truth_non, truth_bl, truth_int, truth_tup, truth_lst, gI_non, gI_int, items_tup, items_lst, items_str, zipOf_tup, zipOf_lst, zip3_tup, zipD_map, ixT0, ixT1, ixT2, ixT3, ixT4, ixL0, ixL1, slT_n2, slT_n3, slT_1n, slT_2n, slT_3n, slT_m1, o2_add, o2_sub, o2_mul, o2_fdiv, o2_mod, o2_eq, o2_ne, o2_lt, o2_le, o2_gt, o2_ge, o2_inn, o2_notin, o2_idx, o2_max, o2_min, o1_neg, o1_len, len_tup, len_lst, len_dct, len_scr, o1_tuple_tup, o1_tuple_lst, o1_list_tup, o1_list_lst, o1_list_dct, o1_sorted_tup, o1_sorted_lst, o1_all, o1_abs, o1_int_int, o1_int_bl, o1_rev_tup, o1_rev_lst, o1_isTrue, o1_notTrue, o1_isFalse, o1_notFalse, setE, storeP, thaw, rdO, ofE_some, ofE_none, bind_ok, bind_exc, bind_stuck, nox_ok, of_some, of_none, out_ok, out_exc, out_stuck, then_nx, then_rt, then_exc, then_stuck, Fin_rt, Fin_nx, FinX_exc, Nxt_nx, List.getElem?_cons_zero, List.getElem?_cons_succ, List.set_cons_zero, List.set_cons_succ, wipeE, Option.bind_some, Option.bind_none, Option.map_some, Option.map_none, Option.some.injEq, isNonE, ite_ok, ite_int, ite_bl, Bool.if_true_left, Bool.if_false_right, Bool.if_true_right, Bool.if_false_left, if_true, if_false, Bool.false_eq_true, Bool.true_eq_false, reduceIte, ite_true, ite_false, decide_eq_true_eq, decide_true, decide_false, Bool.not_true, Bool.not_false, Bool.and_true, Bool.true_and, Bool.and_false, Bool.false_and, Bool.not_eq_true', decide_eq_false_iff_not, Bool.decide_eq_true]) lim]
    have etk : D.int 0 :: S.map (fun p => D.int p.1) = (tks S).map .int := by rw [tks, List.map_cons, List.map_map]; rfl
    have ad1 : addD (.lst [.int 0]) (.lst (S.map fun p => .int p.1)) = some (.lst ((tks S).map .int)) := by
      rw [add_lst, if_pos (by simp only [List.length_cons, List.length_nil, List.length_map, LIM]; omega), ← etk]; rfl
    have en : Option.map (enumFrom 0) (seqOf (tupE S)) = some ((enumZ 0 S).map fun p => .tup [.int p.1, encE p.2]) := congrArg some (enum_map encE S 0)
    simp only [Def.body, Def.slots, Def.params, startE, List.map_cons, List.map_nil, List.cons_append, List.nil_append, List.append_nil, List.reduceReplicate, List.length_cons, List.length_nil, Nat.reduceAdd, Nat.reduceSub, Nat.reduceLT, Nat.reduceLeDiff, Nat.zero_add, execs_nil, execs_cons, sq_nx, sq_rt, sq_exc, sq_stuck, bE_ok, bE_exc, bEs_ok, bEs_exc, bA_ok, bA_exc, bE2_ok, kAnd_ok, kOr_ok, kIf_ok, kIfS_ok, kIfS_exc, kCh_ok, kCh2_ok, kBand_ok, kBor_ok, kSl_ok, kSl2_ok, evEs_nil, evEs_cons, evA_nil, evA_val, evT_and, evT_or, evT_not, evT_v, evT_yes, evI_of, evI_rng1, evI_rng2, evI_enum, evI_zip2, evI_zip3, dsp_some, evE_cst, evE_gl, evE_inR, inR_int, evEvar, evE_peek, gv_val, gp_own, evE_tup, evE_lst, evE_o1, evE_o2, evE_o3, evE_dct, evE_chain, chn_bl, evE_band, bnd_bl, evE_bor, bor_bl, evE_bnot, evE_ifx, evE_slc, evE_call, evE_lc, exec_asg, exec_par, prO_some, exec_own, exec_app, apO_own, exec_ext, exO_lst, exec_seti, stO_own, poO_some, exec_ifs, exec_for, exec_whl, exec_ret, exec_retN, exec_ex, exec_raise, exec_pass, exec_kill, exec_freeze, exec_try, tryO_nx, tryO_rt, tryO_1, tryO_2, tryO_3, tryO_4, tryO_5, tryO_6, fzO_lst, fzO_dct, bindT_v, bindT_tup, bindT_lst, bindTs_nil, bindTs_cons, add_int, sub_int, mul_int, fdiv_int, mod_int, cmp_int, cmp_str, truth_non, truth_bl, truth_int, truth_tup, truth_lst, gI_non, gI_int, items_tup, items_lst, items_str, zipOf_tup, zipOf_lst, zip3_tup, zipD_map, ixT0, ixT1, ixT2, ixT3, ixT4, ixL0, ixL1, slT_n2, slT_n3, slT_1n, slT_2n, slT_3n, slT_m1, o2_add, o2_sub, o2_mul, o2_fdiv, o2_mod, o2_eq, o2_ne, o2_lt, o2_le, o2_gt, o2_ge, o2_inn, o2_notin, o2_idx, o2_max, o2_min, o1_neg, o1_len, len_tup, len_lst, len_dct, len_scr, o1_tuple_tup, o1_tuple_lst, o1_list_tup, o1_list_lst, o1_list_dct, o1_sorted_tup, o1_sorted_lst, o1_all, o1_abs, o1_int_int, o1_int_bl, o1_rev_tup, o1_rev_lst, o1_isTrue, o1_notTrue, o1_isFalse, o1_notFalse, setE, storeP, thaw, rdO, ofE_some, ofE_none, bind_ok, bind_exc, bind_stuck, nox_ok, of_some, of_none, out_ok, out_exc, out_stuck, then_nx, then_rt, then_exc, then_stuck, Fin_rt, Fin_nx, FinX_exc, Nxt_nx, List.getElem?_cons_zero, List.getElem?_cons_succ, List.set_cons_zero, List.set_cons_succ, wipeE, Option.bind_some, Option.bind_none, Option.map_some, Option.map_none, Option.some.injEq, isNonE, ite_ok, ite_int, ite_bl, Bool.if_true_left, Bool.if_false_right, Bool.if_true_right, Bool.if_false_left, if_true, if_false, Bool.false_eq_true, Bool.true_eq_false, reduceIte, ite_true, ite_false, decide_eq_true_eq, decide_true, decide_false, Bool.not_true, Bool.not_false, Bool.and_true, Bool.true_and, Bool.and_false, Bool.false_and, Bool.not_eq_true', decide_eq_false_iff_not, Bool.decide_eq_true, ad1, en]
    rw [lcL_map (g := fun p => encE (pick (tks S) (p.1 + 1) - pick (tks S) p.1, p.2.2)) (fun p hp => by
      have b := enumZ_bd _ _ p hp
      have q1 := idxPickL (tks S) (m := p.1 + 1) (by omega) (by rw [tl]; omega) (by rw [tl]; omega)
      have q2 := idxPickL (tks S) (m := p.1) (by omega) (by rw [tl]; omega) (by rw [tl]; omega)
      simp only [lcF_eq, encE, Def.body, Def.slots, Def.params, startE, List.map_cons, List.map_nil, List.cons_append, List.nil_append, List.append_nil, List.reduceReplicate, List.length_cons, List.length_nil, Nat.reduceAdd, Nat.reduceSub, Nat.reduceLT, Nat.reduceLeDiff, Nat.zero_add, execs_nil, execs_cons, sq_nx, sq_rt, sq_exc, sq_stuck, bE_ok, bE_exc, bEs_ok, bEs_exc, bA_ok, bA_exc, bE2_ok, kAnd_ok, kOr_ok, kIf_ok, kIfS_ok, kIfS_exc, kCh_ok, kCh2_ok, kBand_ok, kBor_ok, kSl_ok, kSl2_ok, evEs_nil, evEs_cons, evA_nil, evA_val, evT_and, evT_or, evT_not, evT_v, evT_yes, evI_of, evI_rng1, evI_rng2, evI_enum, evI_zip2, evI_zip3, dsp_some, evE_cst, evE_gl, evE_inR, inR_int, evEvar, evE_peek, gv_val, gp_own, evE_tup, evE_lst, evE_o1, evE_o2, evE_o3, evE_dct, evE_chain, chn_bl, evE_band, bnd_bl, evE_bor, bor_bl, evE_bnot, evE_ifx, evE_slc, evE_call, evE_lc, exec_asg, exec_par, prO_some, exec_own, exec_app, apO_own, exec_ext, exO_lst, exec_seti, stO_own, poO_some, exec_ifs, exec_for, exec_whl, exec_ret, exec_retN, exec_ex, exec_raise, exec_pass, exec_kill, exec_freeze, exec_try, tryO_nx, tryO_rt, tryO_1, tryO_2, tryO_3, tryO_4, tryO_5, tryO_6, fzO_lst, fzO_dct, bindT_v, bindT_tup, bindT_lst, bindTs_nil, bindTs_cons, add_int, sub_int, mul_int, fdiv_int, mod_int, cmp_int, cmp_str, truth_non, truth_bl, truth_int, truth_tup, truth_lst, gI_non, gI_int, items_tup, items_lst, items_str, zipOf_tup, zipOf_lst, zip3_tup, zipD_map, ixT0, ixT1, ixT2, ixT3, ixT4, ixL0, ixL1, slT_n2, slT_n3, slT_1n, slT_2n, slT_3n, slT_m1, o2_add, o2_sub, o2_mul, o2_fdiv, o2_mod, o2_eq, o2_ne, o2_lt, o2_le, o2_gt, o2_ge, o2_inn, o2_notin, o2_idx, o2_max, o2_min, o1_neg, o1_len, len_tup, len_lst, len_dct, len_scr, o1_tuple_tup, o1_tuple_lst, o1_list_tup, o1_list_lst, o1_list_dct, o1_sorted_tup, o1_sorted_lst, o1_all, o1_abs, o1_int_int, o1_int_bl, o1_rev_tup, o1_rev_lst, o1_isTrue, o1_notTrue, o1_isFalse, o1_notFalse, setE, storeP, thaw, rdO, ofE_some, ofE_none, bind_ok, bind_exc, bind_stuck, nox_ok, of_some, of_none, out_ok, out_exc, out_stuck, then_nx, then_rt, then_exc, then_stuck, Fin_rt, Fin_nx, FinX_exc, Nxt_nx, List.getElem?_cons_zero, List.getElem?_cons_succ, List.set_cons_zero, List.set_cons_succ, wipeE, Option.bind_some, Option.bind_none, Option.map_some, Option.map_none, Option.some.injEq, isNonE, ite_ok, ite_int, ite_bl, Bool.if_true_left, Bool.if_false_right, Bool.if_true_right, Bool.if_false_left, if_true, if_false, Bool.false_eq_true, Bool.true_eq_false, reduceIte, ite_true, ite_false, decide_eq_true_eq, decide_true, decide_false, Bool.not_true, Bool.not_false, Bool.and_true, Bool.true_and, Bool.and_false, Bool.false_and, Bool.not_eq_true', decide_eq_false_iff_not, Bool.decide_eq_true, q1, q2]) (by rw [enumZ_len]; exact lim)]
    have edue : (enumZ 0 S).map (fun p => encE (pick (tks S) (p.1 + 1) - pick (tks S) p.1, p.2.2)) = (dlt 0 S).map encE := by
      rw [← dueL_eq, dueL, List.map_map]; rfl
    have fr0 := frm_dlt0 S 0 hrise hm9
    have frm1 := fun m => frm_dlt m wA S 0 hrise hm9
    have dl := dlt_len S 0
    have dl3 : (dlt 0 S).length < 1000 := by rw [dl]; exact l3
    have b0 : ∀ s, callOf (run G T (n + 5)) fs [.val (.int 0), .val (tupE (dlt 0 S)), .val (.int 0)] s = .ok (tupE S) s := fun s => by
      have q := a7 (dlt 0 S) 0 s dl3
      rw [fr0] at q
      exact q
    have dl4 : ∀ p : Ev, (dlt 0 S ++ [p]).length < 1000 := fun p => by rw [List.length_append, dl, List.length_cons, List.length_nil]; omega
    have b1 : ∀ s, callOf (run G T (n + 5)) fs [.val (.int 0), .val (tupE (dlt 0 S ++ [(-1, wA)])), .val (.int 0)] s = .ok (.str ntW) s := fun s => by
      have q := a7 (dlt 0 S ++ [(-1, wA)]) 0 s (dl4 _)
      rw [frm1, if_neg (by omega)] at q
      exact q
    have b2 : ∀ s, callOf (run G T (n + 5)) fs [.val (.int 0), .val (tupE (dlt 0 S ++ [(99999 - lastT 0 S + 1, wA)])), .val (.int 0)] s = .ok (.str ntW) s := fun s => by
      have q := a7 (dlt 0 S ++ [(99999 - lastT 0 S + 1, wA)]) 0 s (dl4 _)
      rw [frm1, if_neg (by omega)] at q
      exact q
    have b3 : ∀ s, callOf (run G T (n + 5)) fs [.val (.int 0), .val (tupE (dlt 0 S ++ [(99999 - lastT 0 S, wA)])), .val (.int 0)] s = .ok (tupE (S ++ [(99999, wA)])) s := fun s => by
      have q := a7 (dlt 0 S ++ [(99999 - lastT 0 S, wA)]) 0 s (dl4 _)
      rw [frm1, if_pos (by omega), show lastT 0 S + (99999 - lastT 0 S) = 99999 by omega] at q
      exact q
    have adE : ∀ (l : List Ev) (p : Ev), l.length < 1000 → addD (.tup (l.map encE)) (.tup [encE p]) = some (tupE (l ++ [p])) := fun l p h => add_map (f := encE) (a := l) (b := [p]) (by simp only [List.length_cons, List.length_nil, LIM]; omega)
    have c1 : addD (.tup ((dlt 0 S).map encE)) (.tup [.tup [.int (-1), .tup [.str [119, 111, 114, 100], .str [97]]]]) = some (tupE (dlt 0 S ++ [(-1, wA)])) := adE _ (-1, wA) dl3
    have c2 : addD (.tup ((dlt 0 S).map encE)) (.tup [.tup [.int (99999 - lastT 0 S + 1), .tup [.str [119, 111, 114, 100], .str [97]]]]) = some (tupE (dlt 0 S ++ [(99999 - lastT 0 S + 1, wA)])) := adE _ (99999 - lastT 0 S + 1, wA) dl3
    have c3 : addD (.tup ((dlt 0 S).map encE)) (.tup [.tup [.int (99999 - lastT 0 S), .tup [.str [119, 111, 114, 100], .str [97]]]]) = some (tupE (dlt 0 S ++ [(99999 - lastT 0 S, wA)])) := adE _ (99999 - lastT 0 S, wA) dl3
    have c4 : addD (.tup (S.map encE)) (.tup [.tup [.int 99999, .tup [.str [119, 111, 114, 100], .str [97]]]]) = some (tupE (S ++ [(99999, wA)])) := adE _ (99999, wA) l3
    have s1 := fun s => a6 (.tup [tupE (dlt 0 S), tupE S]) s (same_two 4 (same_tE 0 (by rw [dl]; exact lim)) (same_tE 0 lim))
    have s2 := fun s => a6 (tupE (S ++ [(99999, wA)])) s (same_tE 1 (by rw [List.length_append, List.length_cons, List.length_nil]; simp only [LIM]; omega))
    have mu2 : mulD (.lst [.str [110, 111, 32, 116, 114, 97, 99, 107]]) (.int 2) = some (.lst [.str ntW, .str ntW]) := rfl
    have nn : neVal (.lst [.str ntW, .str ntW]) (.lst [.str ntW, .str ntW]) = some (.bl false) := neVal_self rfl
    have cat2 : ∀ a b : D, addD (.lst [a]) (.lst [b]) = some (.lst [a, b]) := fun a b => rfl
    simp only [Def.body, Def.slots, Def.params, startE, List.map_cons, List.map_nil, List.cons_append, List.nil_append, List.append_nil, List.reduceReplicate, List.length_cons, List.length_nil, Nat.reduceAdd, Nat.reduceSub, Nat.reduceLT, Nat.reduceLeDiff, Nat.zero_add, execs_nil, execs_cons, sq_nx, sq_rt, sq_exc, sq_stuck, bE_ok, bE_exc, bEs_ok, bEs_exc, bA_ok, bA_exc, bE2_ok, kAnd_ok, kOr_ok, kIf_ok, kIfS_ok, kIfS_exc, kCh_ok, kCh2_ok, kBand_ok, kBor_ok, kSl_ok, kSl2_ok, evEs_nil, evEs_cons, evA_nil, evA_val, evT_and, evT_or, evT_not, evT_v, evT_yes, evI_of, evI_rng1, evI_rng2, evI_enum, evI_zip2, evI_zip3, dsp_some, evE_cst, evE_gl, evE_inR, inR_int, evEvar, evE_peek, gv_val, gp_own, evE_tup, evE_lst, evE_o1, evE_o2, evE_o3, evE_dct, evE_chain, chn_bl, evE_band, bnd_bl, evE_bor, bor_bl, evE_bnot, evE_ifx, evE_slc, evE_call, evE_lc, exec_asg, exec_par, prO_some, exec_own, exec_app, apO_own, exec_ext, exO_lst, exec_seti, stO_own, poO_some, exec_ifs, exec_for, exec_whl, exec_ret, exec_retN, exec_ex, exec_raise, exec_pass, exec_kill, exec_freeze, exec_try, tryO_nx, tryO_rt, tryO_1, tryO_2, tryO_3, tryO_4, tryO_5, tryO_6, fzO_lst, fzO_dct, bindT_v, bindT_tup, bindT_lst, bindTs_nil, bindTs_cons, add_int, sub_int, mul_int, fdiv_int, mod_int, cmp_int, cmp_str, truth_non, truth_bl, truth_int, truth_tup, truth_lst, gI_non, gI_int, items_tup, items_lst, items_str, zipOf_tup, zipOf_lst, zip3_tup, zipD_map, ixT0, ixT1, ixT2, ixT3, ixT4, ixL0, ixL1, slT_n2, slT_n3, slT_1n, slT_2n, slT_3n, slT_m1, o2_add, o2_sub, o2_mul, o2_fdiv, o2_mod, o2_eq, o2_ne, o2_lt, o2_le, o2_gt, o2_ge, o2_inn, o2_notin, o2_idx, o2_max, o2_min, o1_neg, o1_len, len_tup, len_lst, len_dct, len_scr, o1_tuple_tup, o1_tuple_lst, o1_list_tup, o1_list_lst, o1_list_dct, o1_sorted_tup, o1_sorted_lst, o1_all, o1_abs, o1_int_int, o1_int_bl, o1_rev_tup, o1_rev_lst, o1_isTrue, o1_notTrue, o1_isFalse, o1_notFalse, setE, storeP, thaw, rdO, ofE_some, ofE_none, bind_ok, bind_exc, bind_stuck, nox_ok, of_some, of_none, out_ok, out_exc, out_stuck, then_nx, then_rt, then_exc, then_stuck, Fin_rt, Fin_nx, FinX_exc, Nxt_nx, List.getElem?_cons_zero, List.getElem?_cons_succ, List.set_cons_zero, List.set_cons_succ, wipeE, Option.bind_some, Option.bind_none, Option.map_some, Option.map_none, Option.some.injEq, isNonE, ite_ok, ite_int, ite_bl, Bool.if_true_left, Bool.if_false_right, Bool.if_true_right, Bool.if_false_left, if_true, if_false, Bool.false_eq_true, Bool.true_eq_false, reduceIte, ite_true, ite_false, decide_eq_true_eq, decide_true, decide_false, Bool.not_true, Bool.not_false, Bool.and_true, Bool.true_and, Bool.and_false, Bool.false_and, Bool.not_eq_true', decide_eq_false_iff_not, Bool.decide_eq_true, edue, a5 S _ l3, b0, s1, c1, a9, c2, cat2]
    rw [lcL_mapD (g := fun _ => .str ntW) (fun x hx => by
      simp only [List.mem_cons, List.not_mem_nil, or_false] at hx
      rcases hx with rfl | rfl <;> simp only [lcF_eq, Def.body, Def.slots, Def.params, startE, List.map_cons, List.map_nil, List.cons_append, List.nil_append, List.append_nil, List.reduceReplicate, List.length_cons, List.length_nil, Nat.reduceAdd, Nat.reduceSub, Nat.reduceLT, Nat.reduceLeDiff, Nat.zero_add, execs_nil, execs_cons, sq_nx, sq_rt, sq_exc, sq_stuck, bE_ok, bE_exc, bEs_ok, bEs_exc, bA_ok, bA_exc, bE2_ok, kAnd_ok, kOr_ok, kIf_ok, kIfS_ok, kIfS_exc, kCh_ok, kCh2_ok, kBand_ok, kBor_ok, kSl_ok, kSl2_ok, evEs_nil, evEs_cons, evA_nil, evA_val, evT_and, evT_or, evT_not, evT_v, evT_yes, evI_of, evI_rng1, evI_rng2, evI_enum, evI_zip2, evI_zip3, dsp_some, evE_cst, evE_gl, evE_inR, inR_int, evEvar, evE_peek, gv_val, gp_own, evE_tup, evE_lst, evE_o1, evE_o2, evE_o3, evE_dct, evE_chain, chn_bl, evE_band, bnd_bl, evE_bor, bor_bl, evE_bnot, evE_ifx, evE_slc, evE_call, evE_lc, exec_asg, exec_par, prO_some, exec_own, exec_app, apO_own, exec_ext, exO_lst, exec_seti, stO_own, poO_some, exec_ifs, exec_for, exec_whl, exec_ret, exec_retN, exec_ex, exec_raise, exec_pass, exec_kill, exec_freeze, exec_try, tryO_nx, tryO_rt, tryO_1, tryO_2, tryO_3, tryO_4, tryO_5, tryO_6, fzO_lst, fzO_dct, bindT_v, bindT_tup, bindT_lst, bindTs_nil, bindTs_cons, add_int, sub_int, mul_int, fdiv_int, mod_int, cmp_int, cmp_str, truth_non, truth_bl, truth_int, truth_tup, truth_lst, gI_non, gI_int, items_tup, items_lst, items_str, zipOf_tup, zipOf_lst, zip3_tup, zipD_map, ixT0, ixT1, ixT2, ixT3, ixT4, ixL0, ixL1, slT_n2, slT_n3, slT_1n, slT_2n, slT_3n, slT_m1, o2_add, o2_sub, o2_mul, o2_fdiv, o2_mod, o2_eq, o2_ne, o2_lt, o2_le, o2_gt, o2_ge, o2_inn, o2_notin, o2_idx, o2_max, o2_min, o1_neg, o1_len, len_tup, len_lst, len_dct, len_scr, o1_tuple_tup, o1_tuple_lst, o1_list_tup, o1_list_lst, o1_list_dct, o1_sorted_tup, o1_sorted_lst, o1_all, o1_abs, o1_int_int, o1_int_bl, o1_rev_tup, o1_rev_lst, o1_isTrue, o1_notTrue, o1_isFalse, o1_notFalse, setE, storeP, thaw, rdO, ofE_some, ofE_none, bind_ok, bind_exc, bind_stuck, nox_ok, of_some, of_none, out_ok, out_exc, out_stuck, then_nx, then_rt, then_exc, then_stuck, Fin_rt, Fin_nx, FinX_exc, Nxt_nx, List.getElem?_cons_zero, List.getElem?_cons_succ, List.set_cons_zero, List.set_cons_succ, wipeE, Option.bind_some, Option.bind_none, Option.map_some, Option.map_none, Option.some.injEq, isNonE, ite_ok, ite_int, ite_bl, Bool.if_true_left, Bool.if_false_right, Bool.if_true_right, Bool.if_false_left, if_true, if_false, Bool.false_eq_true, Bool.true_eq_false, reduceIte, ite_true, ite_false, decide_eq_true_eq, decide_true, decide_false, Bool.not_true, Bool.not_false, Bool.and_true, Bool.true_and, Bool.and_false, Bool.false_and, Bool.not_eq_true', decide_eq_false_iff_not, Bool.decide_eq_true, b1, b2]) (by simp only [List.length_cons, List.length_nil, LIM]; omega)]
    generalize ht1 : mix (cell ns (9 : Int).toNat + k) 9803 (lastT 0 S + 3) = t1
    have t10 : 0 ≤ t1 := by rw [← ht1]; exact mix_nonneg _ _ _ (by omega)
    have t11 : t1 < 2000 := by have := mix_lt (cell ns (9 : Int).toNat + k) 9803 (lastT 0 S + 3) (by omega); omega
    have x3 : mulOk 3 k = true := mulOk_left (by decide) (by decide)
    generalize ht2 : t1 + mix (cell ns (9 : Int).toNat + 3 * k) 9791 40 = t2
    simp only [Def.body, Def.slots, Def.params, startE, List.map_cons, List.map_nil, List.cons_append, List.nil_append, List.append_nil, List.reduceReplicate, List.length_cons, List.length_nil, Nat.reduceAdd, Nat.reduceSub, Nat.reduceLT, Nat.reduceLeDiff, Nat.zero_add, execs_nil, execs_cons, sq_nx, sq_rt, sq_exc, sq_stuck, bE_ok, bE_exc, bEs_ok, bEs_exc, bA_ok, bA_exc, bE2_ok, kAnd_ok, kOr_ok, kIf_ok, kIfS_ok, kIfS_exc, kCh_ok, kCh2_ok, kBand_ok, kBor_ok, kSl_ok, kSl2_ok, evEs_nil, evEs_cons, evA_nil, evA_val, evT_and, evT_or, evT_not, evT_v, evT_yes, evI_of, evI_rng1, evI_rng2, evI_enum, evI_zip2, evI_zip3, dsp_some, evE_cst, evE_gl, evE_inR, inR_int, evEvar, evE_peek, gv_val, gp_own, evE_tup, evE_lst, evE_o1, evE_o2, evE_o3, evE_dct, evE_chain, chn_bl, evE_band, bnd_bl, evE_bor, bor_bl, evE_bnot, evE_ifx, evE_slc, evE_call, evE_lc, exec_asg, exec_par, prO_some, exec_own, exec_app, apO_own, exec_ext, exO_lst, exec_seti, stO_own, poO_some, exec_ifs, exec_for, exec_whl, exec_ret, exec_retN, exec_ex, exec_raise, exec_pass, exec_kill, exec_freeze, exec_try, tryO_nx, tryO_rt, tryO_1, tryO_2, tryO_3, tryO_4, tryO_5, tryO_6, fzO_lst, fzO_dct, bindT_v, bindT_tup, bindT_lst, bindTs_nil, bindTs_cons, add_int, sub_int, mul_int, fdiv_int, mod_int, cmp_int, cmp_str, truth_non, truth_bl, truth_int, truth_tup, truth_lst, gI_non, gI_int, items_tup, items_lst, items_str, zipOf_tup, zipOf_lst, zip3_tup, zipD_map, ixT0, ixT1, ixT2, ixT3, ixT4, ixL0, ixL1, slT_n2, slT_n3, slT_1n, slT_2n, slT_3n, slT_m1, o2_add, o2_sub, o2_mul, o2_fdiv, o2_mod, o2_eq, o2_ne, o2_lt, o2_le, o2_gt, o2_ge, o2_inn, o2_notin, o2_idx, o2_max, o2_min, o1_neg, o1_len, len_tup, len_lst, len_dct, len_scr, o1_tuple_tup, o1_tuple_lst, o1_list_tup, o1_list_lst, o1_list_dct, o1_sorted_tup, o1_sorted_lst, o1_all, o1_abs, o1_int_int, o1_int_bl, o1_rev_tup, o1_rev_lst, o1_isTrue, o1_notTrue, o1_isFalse, o1_notFalse, setE, storeP, thaw, rdO, ofE_some, ofE_none, bind_ok, bind_exc, bind_stuck, nox_ok, of_some, of_none, out_ok, out_exc, out_stuck, then_nx, then_rt, then_exc, then_stuck, Fin_rt, Fin_nx, FinX_exc, Nxt_nx, List.getElem?_cons_zero, List.getElem?_cons_succ, List.set_cons_zero, List.set_cons_succ, wipeE, Option.bind_some, Option.bind_none, Option.map_some, Option.map_none, Option.some.injEq, isNonE, ite_ok, ite_int, ite_bl, Bool.if_true_left, Bool.if_false_right, Bool.if_true_right, Bool.if_false_left, if_true, if_false, Bool.false_eq_true, Bool.true_eq_false, reduceIte, ite_true, ite_false, decide_eq_true_eq, decide_true, decide_false, Bool.not_true, Bool.not_false, Bool.and_true, Bool.true_and, Bool.and_false, Bool.false_and, Bool.not_eq_true', decide_eq_false_iff_not, Bool.decide_eq_true, mu2, nn, a9, c3, c4, b3, s2, a1 9 _ (by decide) (by decide), a2 _ 9803 (lastT 0 S + 3) _ (by decide) (by decide) (by omega) (by omega), ht1, x3, a2 _ 9791 40 _ (by decide) (by decide) (by decide) (by decide), ht2, a10 S t1 _ l3]
    rw [lcL_filter (p := fun p : Ev => decide (p.1 = t1)) (g := fun p => encD p.2) (fun p hp => by
      by_cases c : p.1 = t1 <;> simp only [lcF_eq, encE, Def.body, Def.slots, Def.params, startE, List.map_cons, List.map_nil, List.cons_append, List.nil_append, List.append_nil, List.reduceReplicate, List.length_cons, List.length_nil, Nat.reduceAdd, Nat.reduceSub, Nat.reduceLT, Nat.reduceLeDiff, Nat.zero_add, execs_nil, execs_cons, sq_nx, sq_rt, sq_exc, sq_stuck, bE_ok, bE_exc, bEs_ok, bEs_exc, bA_ok, bA_exc, bE2_ok, kAnd_ok, kOr_ok, kIf_ok, kIfS_ok, kIfS_exc, kCh_ok, kCh2_ok, kBand_ok, kBor_ok, kSl_ok, kSl2_ok, evEs_nil, evEs_cons, evA_nil, evA_val, evT_and, evT_or, evT_not, evT_v, evT_yes, evI_of, evI_rng1, evI_rng2, evI_enum, evI_zip2, evI_zip3, dsp_some, evE_cst, evE_gl, evE_inR, inR_int, evEvar, evE_peek, gv_val, gp_own, evE_tup, evE_lst, evE_o1, evE_o2, evE_o3, evE_dct, evE_chain, chn_bl, evE_band, bnd_bl, evE_bor, bor_bl, evE_bnot, evE_ifx, evE_slc, evE_call, evE_lc, exec_asg, exec_par, prO_some, exec_own, exec_app, apO_own, exec_ext, exO_lst, exec_seti, stO_own, poO_some, exec_ifs, exec_for, exec_whl, exec_ret, exec_retN, exec_ex, exec_raise, exec_pass, exec_kill, exec_freeze, exec_try, tryO_nx, tryO_rt, tryO_1, tryO_2, tryO_3, tryO_4, tryO_5, tryO_6, fzO_lst, fzO_dct, bindT_v, bindT_tup, bindT_lst, bindTs_nil, bindTs_cons, add_int, sub_int, mul_int, fdiv_int, mod_int, cmp_int, cmp_str, truth_non, truth_bl, truth_int, truth_tup, truth_lst, gI_non, gI_int, items_tup, items_lst, items_str, zipOf_tup, zipOf_lst, zip3_tup, zipD_map, ixT0, ixT1, ixT2, ixT3, ixT4, ixL0, ixL1, slT_n2, slT_n3, slT_1n, slT_2n, slT_3n, slT_m1, o2_add, o2_sub, o2_mul, o2_fdiv, o2_mod, o2_eq, o2_ne, o2_lt, o2_le, o2_gt, o2_ge, o2_inn, o2_notin, o2_idx, o2_max, o2_min, o1_neg, o1_len, len_tup, len_lst, len_dct, len_scr, o1_tuple_tup, o1_tuple_lst, o1_list_tup, o1_list_lst, o1_list_dct, o1_sorted_tup, o1_sorted_lst, o1_all, o1_abs, o1_int_int, o1_int_bl, o1_rev_tup, o1_rev_lst, o1_isTrue, o1_notTrue, o1_isFalse, o1_notFalse, setE, storeP, thaw, rdO, ofE_some, ofE_none, bind_ok, bind_exc, bind_stuck, nox_ok, of_some, of_none, out_ok, out_exc, out_stuck, then_nx, then_rt, then_exc, then_stuck, Fin_rt, Fin_nx, FinX_exc, Nxt_nx, List.getElem?_cons_zero, List.getElem?_cons_succ, List.set_cons_zero, List.set_cons_succ, wipeE, Option.bind_some, Option.bind_none, Option.map_some, Option.map_none, Option.some.injEq, isNonE, ite_ok, ite_int, ite_bl, Bool.if_true_left, Bool.if_false_right, Bool.if_true_right, Bool.if_false_left, if_true, if_false, Bool.false_eq_true, Bool.true_eq_false, reduceIte, ite_true, ite_false, decide_eq_true_eq, decide_true, decide_false, Bool.not_true, Bool.not_false, Bool.and_true, Bool.true_and, Bool.and_false, Bool.false_and, Bool.not_eq_true', decide_eq_false_iff_not, Bool.decide_eq_true, eqv_int, c]) lim]
    have s3 : ∀ s, callOf (run G T (n + 5)) fa [.val (.tup ((S.filter fun p => decide (p.1 = t1)).map fun p => encD p.2)), .val (.tup ((S.filter fun p => decide (p.1 = t1)).map fun p => encD p.2))] s = .ok (.bl true) s := fun s => a6 _ s (by
      have hfl : (S.filter fun p => decide (p.1 = t1)).length ≤ S.length := List.length_filter_le _ _
      show (decide (((S.filter fun p => decide (p.1 = t1)).map fun p => encD p.2).length ≤ LIM) && allL (sameN 4) ((S.filter fun p => decide (p.1 = t1)).map fun p => encD p.2)) = true
      rw [List.length_map, decide_eq_true (Nat.le_trans hfl lim), allL_map fun x _ => same_D 2 x.2]; rfl)
    simp only [Def.body, Def.slots, Def.params, startE, List.map_cons, List.map_nil, List.cons_append, List.nil_append, List.append_nil, List.reduceReplicate, List.length_cons, List.length_nil, Nat.reduceAdd, Nat.reduceSub, Nat.reduceLT, Nat.reduceLeDiff, Nat.zero_add, execs_nil, execs_cons, sq_nx, sq_rt, sq_exc, sq_stuck, bE_ok, bE_exc, bEs_ok, bEs_exc, bA_ok, bA_exc, bE2_ok, kAnd_ok, kOr_ok, kIf_ok, kIfS_ok, kIfS_exc, kCh_ok, kCh2_ok, kBand_ok, kBor_ok, kSl_ok, kSl2_ok, evEs_nil, evEs_cons, evA_nil, evA_val, evT_and, evT_or, evT_not, evT_v, evT_yes, evI_of, evI_rng1, evI_rng2, evI_enum, evI_zip2, evI_zip3, dsp_some, evE_cst, evE_gl, evE_inR, inR_int, evEvar, evE_peek, gv_val, gp_own, evE_tup, evE_lst, evE_o1, evE_o2, evE_o3, evE_dct, evE_chain, chn_bl, evE_band, bnd_bl, evE_bor, bor_bl, evE_bnot, evE_ifx, evE_slc, evE_call, evE_lc, exec_asg, exec_par, prO_some, exec_own, exec_app, apO_own, exec_ext, exO_lst, exec_seti, stO_own, poO_some, exec_ifs, exec_for, exec_whl, exec_ret, exec_retN, exec_ex, exec_raise, exec_pass, exec_kill, exec_freeze, exec_try, tryO_nx, tryO_rt, tryO_1, tryO_2, tryO_3, tryO_4, tryO_5, tryO_6, fzO_lst, fzO_dct, bindT_v, bindT_tup, bindT_lst, bindTs_nil, bindTs_cons, add_int, sub_int, mul_int, fdiv_int, mod_int, cmp_int, cmp_str, truth_non, truth_bl, truth_int, truth_tup, truth_lst, gI_non, gI_int, items_tup, items_lst, items_str, zipOf_tup, zipOf_lst, zip3_tup, zipD_map, ixT0, ixT1, ixT2, ixT3, ixT4, ixL0, ixL1, slT_n2, slT_n3, slT_1n, slT_2n, slT_3n, slT_m1, o2_add, o2_sub, o2_mul, o2_fdiv, o2_mod, o2_eq, o2_ne, o2_lt, o2_le, o2_gt, o2_ge, o2_inn, o2_notin, o2_idx, o2_max, o2_min, o1_neg, o1_len, len_tup, len_lst, len_dct, len_scr, o1_tuple_tup, o1_tuple_lst, o1_list_tup, o1_list_lst, o1_list_dct, o1_sorted_tup, o1_sorted_lst, o1_all, o1_abs, o1_int_int, o1_int_bl, o1_rev_tup, o1_rev_lst, o1_isTrue, o1_notTrue, o1_isFalse, o1_notFalse, setE, storeP, thaw, rdO, ofE_some, ofE_none, bind_ok, bind_exc, bind_stuck, nox_ok, of_some, of_none, out_ok, out_exc, out_stuck, then_nx, then_rt, then_exc, then_stuck, Fin_rt, Fin_nx, FinX_exc, Nxt_nx, List.getElem?_cons_zero, List.getElem?_cons_succ, List.set_cons_zero, List.set_cons_succ, wipeE, Option.bind_some, Option.bind_none, Option.map_some, Option.map_none, Option.some.injEq, isNonE, ite_ok, ite_int, ite_bl, Bool.if_true_left, Bool.if_false_right, Bool.if_true_right, Bool.if_false_left, if_true, if_false, Bool.false_eq_true, Bool.true_eq_false, reduceIte, ite_true, ite_false, decide_eq_true_eq, decide_true, decide_false, Bool.not_true, Bool.not_false, Bool.and_true, Bool.true_and, Bool.and_false, Bool.false_and, Bool.not_eq_true', decide_eq_false_iff_not, Bool.decide_eq_true, s3]
    rw [lcL_filter (p := fun p : Ev => decide (t1 ≤ p.1 ∧ p.1 < t2)) (g := encE) (fun p hp => by
      by_cases c : t1 ≤ p.1 ∧ p.1 < t2 <;> simp only [lcF_eq, encE, Def.body, Def.slots, Def.params, startE, List.map_cons, List.map_nil, List.cons_append, List.nil_append, List.append_nil, List.reduceReplicate, List.length_cons, List.length_nil, Nat.reduceAdd, Nat.reduceSub, Nat.reduceLT, Nat.reduceLeDiff, Nat.zero_add, execs_nil, execs_cons, sq_nx, sq_rt, sq_exc, sq_stuck, bE_ok, bE_exc, bEs_ok, bEs_exc, bA_ok, bA_exc, bE2_ok, kAnd_ok, kOr_ok, kIf_ok, kIfS_ok, kIfS_exc, kCh_ok, kCh2_ok, kBand_ok, kBor_ok, kSl_ok, kSl2_ok, evEs_nil, evEs_cons, evA_nil, evA_val, evT_and, evT_or, evT_not, evT_v, evT_yes, evI_of, evI_rng1, evI_rng2, evI_enum, evI_zip2, evI_zip3, dsp_some, evE_cst, evE_gl, evE_inR, inR_int, evEvar, evE_peek, gv_val, gp_own, evE_tup, evE_lst, evE_o1, evE_o2, evE_o3, evE_dct, evE_chain, chn_bl, evE_band, bnd_bl, evE_bor, bor_bl, evE_bnot, evE_ifx, evE_slc, evE_call, evE_lc, exec_asg, exec_par, prO_some, exec_own, exec_app, apO_own, exec_ext, exO_lst, exec_seti, stO_own, poO_some, exec_ifs, exec_for, exec_whl, exec_ret, exec_retN, exec_ex, exec_raise, exec_pass, exec_kill, exec_freeze, exec_try, tryO_nx, tryO_rt, tryO_1, tryO_2, tryO_3, tryO_4, tryO_5, tryO_6, fzO_lst, fzO_dct, bindT_v, bindT_tup, bindT_lst, bindTs_nil, bindTs_cons, add_int, sub_int, mul_int, fdiv_int, mod_int, cmp_int, cmp_str, truth_non, truth_bl, truth_int, truth_tup, truth_lst, gI_non, gI_int, items_tup, items_lst, items_str, zipOf_tup, zipOf_lst, zip3_tup, zipD_map, ixT0, ixT1, ixT2, ixT3, ixT4, ixL0, ixL1, slT_n2, slT_n3, slT_1n, slT_2n, slT_3n, slT_m1, o2_add, o2_sub, o2_mul, o2_fdiv, o2_mod, o2_eq, o2_ne, o2_lt, o2_le, o2_gt, o2_ge, o2_inn, o2_notin, o2_idx, o2_max, o2_min, o1_neg, o1_len, len_tup, len_lst, len_dct, len_scr, o1_tuple_tup, o1_tuple_lst, o1_list_tup, o1_list_lst, o1_list_dct, o1_sorted_tup, o1_sorted_lst, o1_all, o1_abs, o1_int_int, o1_int_bl, o1_rev_tup, o1_rev_lst, o1_isTrue, o1_notTrue, o1_isFalse, o1_notFalse, setE, storeP, thaw, rdO, ofE_some, ofE_none, bind_ok, bind_exc, bind_stuck, nox_ok, of_some, of_none, out_ok, out_exc, out_stuck, then_nx, then_rt, then_exc, then_stuck, Fin_rt, Fin_nx, FinX_exc, Nxt_nx, List.getElem?_cons_zero, List.getElem?_cons_succ, List.set_cons_zero, List.set_cons_succ, wipeE, Option.bind_some, Option.bind_none, Option.map_some, Option.map_none, Option.some.injEq, isNonE, ite_ok, ite_int, ite_bl, Bool.if_true_left, Bool.if_false_right, Bool.if_true_right, Bool.if_false_left, if_true, if_false, Bool.false_eq_true, Bool.true_eq_false, reduceIte, ite_true, ite_false, decide_eq_true_eq, decide_true, decide_false, Bool.not_true, Bool.not_false, Bool.and_true, Bool.true_and, Bool.and_false, Bool.false_and, Bool.not_eq_true', decide_eq_false_iff_not, Bool.decide_eq_true, c]) lim]
    have s4 := fun s => a6 (tupE (S.filter fun p => decide (t1 ≤ p.1 ∧ p.1 < t2))) s (same_tE 1 (Nat.le_trans (List.length_filter_le _ _) lim))
    simp only [Def.body, Def.slots, Def.params, startE, List.map_cons, List.map_nil, List.cons_append, List.nil_append, List.append_nil, List.reduceReplicate, List.length_cons, List.length_nil, Nat.reduceAdd, Nat.reduceSub, Nat.reduceLT, Nat.reduceLeDiff, Nat.zero_add, execs_nil, execs_cons, sq_nx, sq_rt, sq_exc, sq_stuck, bE_ok, bE_exc, bEs_ok, bEs_exc, bA_ok, bA_exc, bE2_ok, kAnd_ok, kOr_ok, kIf_ok, kIfS_ok, kIfS_exc, kCh_ok, kCh2_ok, kBand_ok, kBor_ok, kSl_ok, kSl2_ok, evEs_nil, evEs_cons, evA_nil, evA_val, evT_and, evT_or, evT_not, evT_v, evT_yes, evI_of, evI_rng1, evI_rng2, evI_enum, evI_zip2, evI_zip3, dsp_some, evE_cst, evE_gl, evE_inR, inR_int, evEvar, evE_peek, gv_val, gp_own, evE_tup, evE_lst, evE_o1, evE_o2, evE_o3, evE_dct, evE_chain, chn_bl, evE_band, bnd_bl, evE_bor, bor_bl, evE_bnot, evE_ifx, evE_slc, evE_call, evE_lc, exec_asg, exec_par, prO_some, exec_own, exec_app, apO_own, exec_ext, exO_lst, exec_seti, stO_own, poO_some, exec_ifs, exec_for, exec_whl, exec_ret, exec_retN, exec_ex, exec_raise, exec_pass, exec_kill, exec_freeze, exec_try, tryO_nx, tryO_rt, tryO_1, tryO_2, tryO_3, tryO_4, tryO_5, tryO_6, fzO_lst, fzO_dct, bindT_v, bindT_tup, bindT_lst, bindTs_nil, bindTs_cons, add_int, sub_int, mul_int, fdiv_int, mod_int, cmp_int, cmp_str, truth_non, truth_bl, truth_int, truth_tup, truth_lst, gI_non, gI_int, items_tup, items_lst, items_str, zipOf_tup, zipOf_lst, zip3_tup, zipD_map, ixT0, ixT1, ixT2, ixT3, ixT4, ixL0, ixL1, slT_n2, slT_n3, slT_1n, slT_2n, slT_3n, slT_m1, o2_add, o2_sub, o2_mul, o2_fdiv, o2_mod, o2_eq, o2_ne, o2_lt, o2_le, o2_gt, o2_ge, o2_inn, o2_notin, o2_idx, o2_max, o2_min, o1_neg, o1_len, len_tup, len_lst, len_dct, len_scr, o1_tuple_tup, o1_tuple_lst, o1_list_tup, o1_list_lst, o1_list_dct, o1_sorted_tup, o1_sorted_lst, o1_all, o1_abs, o1_int_int, o1_int_bl, o1_rev_tup, o1_rev_lst, o1_isTrue, o1_notTrue, o1_isFalse, o1_notFalse, setE, storeP, thaw, rdO, ofE_some, ofE_none, bind_ok, bind_exc, bind_stuck, nox_ok, of_some, of_none, out_ok, out_exc, out_stuck, then_nx, then_rt, then_exc, then_stuck, Fin_rt, Fin_nx, FinX_exc, Nxt_nx, List.getElem?_cons_zero, List.getElem?_cons_succ, List.set_cons_zero, List.set_cons_succ, wipeE, Option.bind_some, Option.bind_none, Option.map_some, Option.map_none, Option.some.injEq, isNonE, ite_ok, ite_int, ite_bl, Bool.if_true_left, Bool.if_false_right, Bool.if_true_right, Bool.if_false_left, if_true, if_false, Bool.false_eq_true, Bool.true_eq_false, reduceIte, ite_true, ite_false, decide_eq_true_eq, decide_true, decide_false, Bool.not_true, Bool.not_false, Bool.and_true, Bool.true_and, Bool.and_false, Bool.false_and, Bool.not_eq_true', decide_eq_false_iff_not, Bool.decide_eq_true, a11 S t1 t2 _ l3, s4, a4]
    rw [lcL_filter (p := fun p : Ev => decide (p.1 ≤ t1)) (g := encE) (fun p hp => by
      by_cases c : p.1 ≤ t1 <;> simp only [lcF_eq, encE, Def.body, Def.slots, Def.params, startE, List.map_cons, List.map_nil, List.cons_append, List.nil_append, List.append_nil, List.reduceReplicate, List.length_cons, List.length_nil, Nat.reduceAdd, Nat.reduceSub, Nat.reduceLT, Nat.reduceLeDiff, Nat.zero_add, execs_nil, execs_cons, sq_nx, sq_rt, sq_exc, sq_stuck, bE_ok, bE_exc, bEs_ok, bEs_exc, bA_ok, bA_exc, bE2_ok, kAnd_ok, kOr_ok, kIf_ok, kIfS_ok, kIfS_exc, kCh_ok, kCh2_ok, kBand_ok, kBor_ok, kSl_ok, kSl2_ok, evEs_nil, evEs_cons, evA_nil, evA_val, evT_and, evT_or, evT_not, evT_v, evT_yes, evI_of, evI_rng1, evI_rng2, evI_enum, evI_zip2, evI_zip3, dsp_some, evE_cst, evE_gl, evE_inR, inR_int, evEvar, evE_peek, gv_val, gp_own, evE_tup, evE_lst, evE_o1, evE_o2, evE_o3, evE_dct, evE_chain, chn_bl, evE_band, bnd_bl, evE_bor, bor_bl, evE_bnot, evE_ifx, evE_slc, evE_call, evE_lc, exec_asg, exec_par, prO_some, exec_own, exec_app, apO_own, exec_ext, exO_lst, exec_seti, stO_own, poO_some, exec_ifs, exec_for, exec_whl, exec_ret, exec_retN, exec_ex, exec_raise, exec_pass, exec_kill, exec_freeze, exec_try, tryO_nx, tryO_rt, tryO_1, tryO_2, tryO_3, tryO_4, tryO_5, tryO_6, fzO_lst, fzO_dct, bindT_v, bindT_tup, bindT_lst, bindTs_nil, bindTs_cons, add_int, sub_int, mul_int, fdiv_int, mod_int, cmp_int, cmp_str, truth_non, truth_bl, truth_int, truth_tup, truth_lst, gI_non, gI_int, items_tup, items_lst, items_str, zipOf_tup, zipOf_lst, zip3_tup, zipD_map, ixT0, ixT1, ixT2, ixT3, ixT4, ixL0, ixL1, slT_n2, slT_n3, slT_1n, slT_2n, slT_3n, slT_m1, o2_add, o2_sub, o2_mul, o2_fdiv, o2_mod, o2_eq, o2_ne, o2_lt, o2_le, o2_gt, o2_ge, o2_inn, o2_notin, o2_idx, o2_max, o2_min, o1_neg, o1_len, len_tup, len_lst, len_dct, len_scr, o1_tuple_tup, o1_tuple_lst, o1_list_tup, o1_list_lst, o1_list_dct, o1_sorted_tup, o1_sorted_lst, o1_all, o1_abs, o1_int_int, o1_int_bl, o1_rev_tup, o1_rev_lst, o1_isTrue, o1_notTrue, o1_isFalse, o1_notFalse, setE, storeP, thaw, rdO, ofE_some, ofE_none, bind_ok, bind_exc, bind_stuck, nox_ok, of_some, of_none, out_ok, out_exc, out_stuck, then_nx, then_rt, then_exc, then_stuck, Fin_rt, Fin_nx, FinX_exc, Nxt_nx, List.getElem?_cons_zero, List.getElem?_cons_succ, List.set_cons_zero, List.set_cons_succ, wipeE, Option.bind_some, Option.bind_none, Option.map_some, Option.map_none, Option.some.injEq, isNonE, ite_ok, ite_int, ite_bl, Bool.if_true_left, Bool.if_false_right, Bool.if_true_right, Bool.if_false_left, if_true, if_false, Bool.false_eq_true, Bool.true_eq_false, reduceIte, ite_true, ite_false, decide_eq_true_eq, decide_true, decide_false, Bool.not_true, Bool.not_false, Bool.and_true, Bool.true_and, Bool.and_false, Bool.false_and, Bool.not_eq_true', decide_eq_false_iff_not, Bool.decide_eq_true, c]) lim]
    simp only [Def.body, Def.slots, Def.params, startE, List.map_cons, List.map_nil, List.cons_append, List.nil_append, List.append_nil, List.reduceReplicate, List.length_cons, List.length_nil, Nat.reduceAdd, Nat.reduceSub, Nat.reduceLT, Nat.reduceLeDiff, Nat.zero_add, execs_nil, execs_cons, sq_nx, sq_rt, sq_exc, sq_stuck, bE_ok, bE_exc, bEs_ok, bEs_exc, bA_ok, bA_exc, bE2_ok, kAnd_ok, kOr_ok, kIf_ok, kIfS_ok, kIfS_exc, kCh_ok, kCh2_ok, kBand_ok, kBor_ok, kSl_ok, kSl2_ok, evEs_nil, evEs_cons, evA_nil, evA_val, evT_and, evT_or, evT_not, evT_v, evT_yes, evI_of, evI_rng1, evI_rng2, evI_enum, evI_zip2, evI_zip3, dsp_some, evE_cst, evE_gl, evE_inR, inR_int, evEvar, evE_peek, gv_val, gp_own, evE_tup, evE_lst, evE_o1, evE_o2, evE_o3, evE_dct, evE_chain, chn_bl, evE_band, bnd_bl, evE_bor, bor_bl, evE_bnot, evE_ifx, evE_slc, evE_call, evE_lc, exec_asg, exec_par, prO_some, exec_own, exec_app, apO_own, exec_ext, exO_lst, exec_seti, stO_own, poO_some, exec_ifs, exec_for, exec_whl, exec_ret, exec_retN, exec_ex, exec_raise, exec_pass, exec_kill, exec_freeze, exec_try, tryO_nx, tryO_rt, tryO_1, tryO_2, tryO_3, tryO_4, tryO_5, tryO_6, fzO_lst, fzO_dct, bindT_v, bindT_tup, bindT_lst, bindTs_nil, bindTs_cons, add_int, sub_int, mul_int, fdiv_int, mod_int, cmp_int, cmp_str, truth_non, truth_bl, truth_int, truth_tup, truth_lst, gI_non, gI_int, items_tup, items_lst, items_str, zipOf_tup, zipOf_lst, zip3_tup, zipD_map, ixT0, ixT1, ixT2, ixT3, ixT4, ixL0, ixL1, slT_n2, slT_n3, slT_1n, slT_2n, slT_3n, slT_m1, o2_add, o2_sub, o2_mul, o2_fdiv, o2_mod, o2_eq, o2_ne, o2_lt, o2_le, o2_gt, o2_ge, o2_inn, o2_notin, o2_idx, o2_max, o2_min, o1_neg, o1_len, len_tup, len_lst, len_dct, len_scr, o1_tuple_tup, o1_tuple_lst, o1_list_tup, o1_list_lst, o1_list_dct, o1_sorted_tup, o1_sorted_lst, o1_all, o1_abs, o1_int_int, o1_int_bl, o1_rev_tup, o1_rev_lst, o1_isTrue, o1_notTrue, o1_isFalse, o1_notFalse, setE, storeP, thaw, rdO, ofE_some, ofE_none, bind_ok, bind_exc, bind_stuck, nox_ok, of_some, of_none, out_ok, out_exc, out_stuck, then_nx, then_rt, then_exc, then_stuck, Fin_rt, Fin_nx, FinX_exc, Nxt_nx, List.getElem?_cons_zero, List.getElem?_cons_succ, List.set_cons_zero, List.set_cons_succ, wipeE, Option.bind_some, Option.bind_none, Option.map_some, Option.map_none, Option.some.injEq, isNonE, ite_ok, ite_int, ite_bl, Bool.if_true_left, Bool.if_false_right, Bool.if_true_right, Bool.if_false_left, if_true, if_false, Bool.false_eq_true, Bool.true_eq_false, reduceIte, ite_true, ite_false, decide_eq_true_eq, decide_true, decide_false, Bool.not_true, Bool.not_false, Bool.and_true, Bool.true_and, Bool.and_false, Bool.false_and, Bool.not_eq_true', decide_eq_false_iff_not, Bool.decide_eq_true]
    rw [lcL_filter (p := fun p : Ev => decide (t1 < p.1)) (g := encE) (fun p hp => by
      by_cases c : t1 < p.1 <;> simp only [lcF_eq, encE, Def.body, Def.slots, Def.params, startE, List.map_cons, List.map_nil, List.cons_append, List.nil_append, List.append_nil, List.reduceReplicate, List.length_cons, List.length_nil, Nat.reduceAdd, Nat.reduceSub, Nat.reduceLT, Nat.reduceLeDiff, Nat.zero_add, execs_nil, execs_cons, sq_nx, sq_rt, sq_exc, sq_stuck, bE_ok, bE_exc, bEs_ok, bEs_exc, bA_ok, bA_exc, bE2_ok, kAnd_ok, kOr_ok, kIf_ok, kIfS_ok, kIfS_exc, kCh_ok, kCh2_ok, kBand_ok, kBor_ok, kSl_ok, kSl2_ok, evEs_nil, evEs_cons, evA_nil, evA_val, evT_and, evT_or, evT_not, evT_v, evT_yes, evI_of, evI_rng1, evI_rng2, evI_enum, evI_zip2, evI_zip3, dsp_some, evE_cst, evE_gl, evE_inR, inR_int, evEvar, evE_peek, gv_val, gp_own, evE_tup, evE_lst, evE_o1, evE_o2, evE_o3, evE_dct, evE_chain, chn_bl, evE_band, bnd_bl, evE_bor, bor_bl, evE_bnot, evE_ifx, evE_slc, evE_call, evE_lc, exec_asg, exec_par, prO_some, exec_own, exec_app, apO_own, exec_ext, exO_lst, exec_seti, stO_own, poO_some, exec_ifs, exec_for, exec_whl, exec_ret, exec_retN, exec_ex, exec_raise, exec_pass, exec_kill, exec_freeze, exec_try, tryO_nx, tryO_rt, tryO_1, tryO_2, tryO_3, tryO_4, tryO_5, tryO_6, fzO_lst, fzO_dct, bindT_v, bindT_tup, bindT_lst, bindTs_nil, bindTs_cons, add_int, sub_int, mul_int, fdiv_int, mod_int, cmp_int, cmp_str, truth_non, truth_bl, truth_int, truth_tup, truth_lst, gI_non, gI_int, items_tup, items_lst, items_str, zipOf_tup, zipOf_lst, zip3_tup, zipD_map, ixT0, ixT1, ixT2, ixT3, ixT4, ixL0, ixL1, slT_n2, slT_n3, slT_1n, slT_2n, slT_3n, slT_m1, o2_add, o2_sub, o2_mul, o2_fdiv, o2_mod, o2_eq, o2_ne, o2_lt, o2_le, o2_gt, o2_ge, o2_inn, o2_notin, o2_idx, o2_max, o2_min, o1_neg, o1_len, len_tup, len_lst, len_dct, len_scr, o1_tuple_tup, o1_tuple_lst, o1_list_tup, o1_list_lst, o1_list_dct, o1_sorted_tup, o1_sorted_lst, o1_all, o1_abs, o1_int_int, o1_int_bl, o1_rev_tup, o1_rev_lst, o1_isTrue, o1_notTrue, o1_isFalse, o1_notFalse, setE, storeP, thaw, rdO, ofE_some, ofE_none, bind_ok, bind_exc, bind_stuck, nox_ok, of_some, of_none, out_ok, out_exc, out_stuck, then_nx, then_rt, then_exc, then_stuck, Fin_rt, Fin_nx, FinX_exc, Nxt_nx, List.getElem?_cons_zero, List.getElem?_cons_succ, List.set_cons_zero, List.set_cons_succ, wipeE, Option.bind_some, Option.bind_none, Option.map_some, Option.map_none, Option.some.injEq, isNonE, ite_ok, ite_int, ite_bl, Bool.if_true_left, Bool.if_false_right, Bool.if_true_right, Bool.if_false_left, if_true, if_false, Bool.false_eq_true, Bool.true_eq_false, reduceIte, ite_true, ite_false, decide_eq_true_eq, decide_true, decide_false, Bool.not_true, Bool.not_false, Bool.and_true, Bool.true_and, Bool.and_false, Bool.false_and, Bool.not_eq_true', decide_eq_false_iff_not, Bool.decide_eq_true, c]) lim]
    obtain ⟨sp1, sp2⟩ := rise_split t1 S 0 hrise
    generalize hdd : lawDeed (c + 7) = dd
    have i1 : ∀ s, callOf (run G T (n + 5)) fi [.val (tupE S), .val (.tup [.int t1, encD dd])] s = .ok (.tup ((S.filter fun p => decide (p.1 ≤ t1)).map encE ++ [.tup [.int t1, encD dd]] ++ (S.filter fun p => decide (t1 < p.1)).map encE)) s := fun s => by
      have q := a12 S (t1, dd) s l3
      rw [sp1, sp2] at q
      have e : tupE ((S.filter fun p => decide (p.1 ≤ t1)) ++ [(t1, dd)] ++ (S.filter fun p => decide (t1 < p.1))) = .tup ((S.filter fun p => decide (p.1 ≤ t1)).map encE ++ [.tup [.int t1, encD dd]] ++ (S.filter fun p => decide (t1 < p.1)).map encE) := by
        rw [tupE, List.map_append, List.map_append]; rfl
      rw [e] at q
      exact q
    have f1 : (S.filter fun p => decide (p.1 ≤ t1)).length ≤ S.length := List.length_filter_le _ _
    have f2 : (S.filter fun p => decide (t1 < p.1)).length ≤ S.length := List.length_filter_le _ _
    have s5 : ∀ s, callOf (run G T (n + 5)) fa [.val (.tup ((S.filter fun p => decide (p.1 ≤ t1)).map encE ++ [.tup [.int t1, encD dd]] ++ (S.filter fun p => decide (t1 < p.1)).map encE)), .val (.tup ((S.filter fun p => decide (p.1 ≤ t1)).map encE ++ [.tup [.int t1, encD dd]] ++ (S.filter fun p => decide (t1 < p.1)).map encE))] s = .ok (.bl true) s := fun s => a6 _ s (by
      have e : tupE ((S.filter fun p => decide (p.1 ≤ t1)) ++ [(t1, dd)] ++ (S.filter fun p => decide (t1 < p.1))) = .tup ((S.filter fun p => decide (p.1 ≤ t1)).map encE ++ [.tup [.int t1, encD dd]] ++ (S.filter fun p => decide (t1 < p.1)).map encE) := by
        rw [tupE, List.map_append, List.map_append]; rfl
      rw [← e]
      exact same_tE 1 (by simp only [List.length_append, List.length_cons, List.length_nil, LIM]; omega))
    have g1 : addD (.lst ((S.filter fun p => decide (p.1 ≤ t1)).map encE)) (.lst [.tup [.int t1, encD dd]]) = some (.lst ((S.filter fun p => decide (p.1 ≤ t1)).map encE ++ [.tup [.int t1, encD dd]])) := by
      rw [add_lst, if_pos (by simp only [List.length_map, List.length_cons, List.length_nil, LIM]; omega)]
    have g2 : addD (.lst ((S.filter fun p => decide (p.1 ≤ t1)).map encE ++ [.tup [.int t1, encD dd]])) (.lst ((S.filter fun p => decide (t1 < p.1)).map encE)) = some (.lst ((S.filter fun p => decide (p.1 ≤ t1)).map encE ++ [.tup [.int t1, encD dd]] ++ (S.filter fun p => decide (t1 < p.1)).map encE)) := by
      rw [add_lst, if_pos (by simp only [List.length_append, List.length_map, List.length_cons, List.length_nil, LIM]; omega)]
    generalize hpl : mix c 9787 ((S.length : Int) + 3) - 1 = pl
    simp only [Def.body, Def.slots, Def.params, startE, List.map_cons, List.map_nil, List.cons_append, List.nil_append, List.append_nil, List.reduceReplicate, List.length_cons, List.length_nil, Nat.reduceAdd, Nat.reduceSub, Nat.reduceLT, Nat.reduceLeDiff, Nat.zero_add, execs_nil, execs_cons, sq_nx, sq_rt, sq_exc, sq_stuck, bE_ok, bE_exc, bEs_ok, bEs_exc, bA_ok, bA_exc, bE2_ok, kAnd_ok, kOr_ok, kIf_ok, kIfS_ok, kIfS_exc, kCh_ok, kCh2_ok, kBand_ok, kBor_ok, kSl_ok, kSl2_ok, evEs_nil, evEs_cons, evA_nil, evA_val, evT_and, evT_or, evT_not, evT_v, evT_yes, evI_of, evI_rng1, evI_rng2, evI_enum, evI_zip2, evI_zip3, dsp_some, evE_cst, evE_gl, evE_inR, inR_int, evEvar, evE_peek, gv_val, gp_own, evE_tup, evE_lst, evE_o1, evE_o2, evE_o3, evE_dct, evE_chain, chn_bl, evE_band, bnd_bl, evE_bor, bor_bl, evE_bnot, evE_ifx, evE_slc, evE_call, evE_lc, exec_asg, exec_par, prO_some, exec_own, exec_app, apO_own, exec_ext, exO_lst, exec_seti, stO_own, poO_some, exec_ifs, exec_for, exec_whl, exec_ret, exec_retN, exec_ex, exec_raise, exec_pass, exec_kill, exec_freeze, exec_try, tryO_nx, tryO_rt, tryO_1, tryO_2, tryO_3, tryO_4, tryO_5, tryO_6, fzO_lst, fzO_dct, bindT_v, bindT_tup, bindT_lst, bindTs_nil, bindTs_cons, add_int, sub_int, mul_int, fdiv_int, mod_int, cmp_int, cmp_str, truth_non, truth_bl, truth_int, truth_tup, truth_lst, gI_non, gI_int, items_tup, items_lst, items_str, zipOf_tup, zipOf_lst, zip3_tup, zipD_map, ixT0, ixT1, ixT2, ixT3, ixT4, ixL0, ixL1, slT_n2, slT_n3, slT_1n, slT_2n, slT_3n, slT_m1, o2_add, o2_sub, o2_mul, o2_fdiv, o2_mod, o2_eq, o2_ne, o2_lt, o2_le, o2_gt, o2_ge, o2_inn, o2_notin, o2_idx, o2_max, o2_min, o1_neg, o1_len, len_tup, len_lst, len_dct, len_scr, o1_tuple_tup, o1_tuple_lst, o1_list_tup, o1_list_lst, o1_list_dct, o1_sorted_tup, o1_sorted_lst, o1_all, o1_abs, o1_int_int, o1_int_bl, o1_rev_tup, o1_rev_lst, o1_isTrue, o1_notTrue, o1_isFalse, o1_notFalse, setE, storeP, thaw, rdO, ofE_some, ofE_none, bind_ok, bind_exc, bind_stuck, nox_ok, of_some, of_none, out_ok, out_exc, out_stuck, then_nx, then_rt, then_exc, then_stuck, Fin_rt, Fin_nx, FinX_exc, Nxt_nx, List.getElem?_cons_zero, List.getElem?_cons_succ, List.set_cons_zero, List.set_cons_succ, wipeE, Option.bind_some, Option.bind_none, Option.map_some, Option.map_none, Option.some.injEq, isNonE, ite_ok, ite_int, ite_bl, Bool.if_true_left, Bool.if_false_right, Bool.if_true_right, Bool.if_false_left, if_true, if_false, Bool.false_eq_true, Bool.true_eq_false, reduceIte, ite_true, ite_false, decide_eq_true_eq, decide_true, decide_false, Bool.not_true, Bool.not_false, Bool.and_true, Bool.true_and, Bool.and_false, Bool.false_and, Bool.not_eq_true', decide_eq_false_iff_not, Bool.decide_eq_true, i1, g1, g2, s5, List.length_map, a2 _ 9787 ((S.length : Int) + 3) _ (by decide) (by decide) (by omega) (by omega), hpl]
    by_cases hc : 0 ≤ pl ∧ pl < S.length
    · obtain ⟨h0, h1⟩ := hc
      have q : ∀ s, callOf (run G T (n + 5)) fs [.val (.int 1), .val (tupE S), .val (.int pl)] s = .ok (tupE (S.take pl.toNat ++ S.drop (pl.toNat + 1))) s := fun s => by
        have q := a8 S pl s l3
        rw [if_pos ⟨h0, h1⟩] at q
        exact q
      simp only [Def.body, Def.slots, Def.params, startE, List.map_cons, List.map_nil, List.cons_append, List.nil_append, List.append_nil, List.reduceReplicate, List.length_cons, List.length_nil, Nat.reduceAdd, Nat.reduceSub, Nat.reduceLT, Nat.reduceLeDiff, Nat.zero_add, execs_nil, execs_cons, sq_nx, sq_rt, sq_exc, sq_stuck, bE_ok, bE_exc, bEs_ok, bEs_exc, bA_ok, bA_exc, bE2_ok, kAnd_ok, kOr_ok, kIf_ok, kIfS_ok, kIfS_exc, kCh_ok, kCh2_ok, kBand_ok, kBor_ok, kSl_ok, kSl2_ok, evEs_nil, evEs_cons, evA_nil, evA_val, evT_and, evT_or, evT_not, evT_v, evT_yes, evI_of, evI_rng1, evI_rng2, evI_enum, evI_zip2, evI_zip3, dsp_some, evE_cst, evE_gl, evE_inR, inR_int, evEvar, evE_peek, gv_val, gp_own, evE_tup, evE_lst, evE_o1, evE_o2, evE_o3, evE_dct, evE_chain, chn_bl, evE_band, bnd_bl, evE_bor, bor_bl, evE_bnot, evE_ifx, evE_slc, evE_call, evE_lc, exec_asg, exec_par, prO_some, exec_own, exec_app, apO_own, exec_ext, exO_lst, exec_seti, stO_own, poO_some, exec_ifs, exec_for, exec_whl, exec_ret, exec_retN, exec_ex, exec_raise, exec_pass, exec_kill, exec_freeze, exec_try, tryO_nx, tryO_rt, tryO_1, tryO_2, tryO_3, tryO_4, tryO_5, tryO_6, fzO_lst, fzO_dct, bindT_v, bindT_tup, bindT_lst, bindTs_nil, bindTs_cons, add_int, sub_int, mul_int, fdiv_int, mod_int, cmp_int, cmp_str, truth_non, truth_bl, truth_int, truth_tup, truth_lst, gI_non, gI_int, items_tup, items_lst, items_str, zipOf_tup, zipOf_lst, zip3_tup, zipD_map, ixT0, ixT1, ixT2, ixT3, ixT4, ixL0, ixL1, slT_n2, slT_n3, slT_1n, slT_2n, slT_3n, slT_m1, o2_add, o2_sub, o2_mul, o2_fdiv, o2_mod, o2_eq, o2_ne, o2_lt, o2_le, o2_gt, o2_ge, o2_inn, o2_notin, o2_idx, o2_max, o2_min, o1_neg, o1_len, len_tup, len_lst, len_dct, len_scr, o1_tuple_tup, o1_tuple_lst, o1_list_tup, o1_list_lst, o1_list_dct, o1_sorted_tup, o1_sorted_lst, o1_all, o1_abs, o1_int_int, o1_int_bl, o1_rev_tup, o1_rev_lst, o1_isTrue, o1_notTrue, o1_isFalse, o1_notFalse, setE, storeP, thaw, rdO, ofE_some, ofE_none, bind_ok, bind_exc, bind_stuck, nox_ok, of_some, of_none, out_ok, out_exc, out_stuck, then_nx, then_rt, then_exc, then_stuck, Fin_rt, Fin_nx, FinX_exc, Nxt_nx, List.getElem?_cons_zero, List.getElem?_cons_succ, List.set_cons_zero, List.set_cons_succ, wipeE, Option.bind_some, Option.bind_none, Option.map_some, Option.map_none, Option.some.injEq, isNonE, ite_ok, ite_int, ite_bl, Bool.if_true_left, Bool.if_false_right, Bool.if_true_right, Bool.if_false_left, if_true, if_false, Bool.false_eq_true, Bool.true_eq_false, reduceIte, ite_true, ite_false, decide_eq_true_eq, decide_true, decide_false, Bool.not_true, Bool.not_false, Bool.and_true, Bool.true_and, Bool.and_false, Bool.false_and, Bool.not_eq_true', decide_eq_false_iff_not, Bool.decide_eq_true, h0, h1, en]
      rw [lcL_filter (p := fun q : Int × Ev => !decide (q.1 = pl)) (g := fun q => encE q.2) (fun p hp => by
        by_cases c : p.1 = pl <;> simp only [lcF_eq, encE, Def.body, Def.slots, Def.params, startE, List.map_cons, List.map_nil, List.cons_append, List.nil_append, List.append_nil, List.reduceReplicate, List.length_cons, List.length_nil, Nat.reduceAdd, Nat.reduceSub, Nat.reduceLT, Nat.reduceLeDiff, Nat.zero_add, execs_nil, execs_cons, sq_nx, sq_rt, sq_exc, sq_stuck, bE_ok, bE_exc, bEs_ok, bEs_exc, bA_ok, bA_exc, bE2_ok, kAnd_ok, kOr_ok, kIf_ok, kIfS_ok, kIfS_exc, kCh_ok, kCh2_ok, kBand_ok, kBor_ok, kSl_ok, kSl2_ok, evEs_nil, evEs_cons, evA_nil, evA_val, evT_and, evT_or, evT_not, evT_v, evT_yes, evI_of, evI_rng1, evI_rng2, evI_enum, evI_zip2, evI_zip3, dsp_some, evE_cst, evE_gl, evE_inR, inR_int, evEvar, evE_peek, gv_val, gp_own, evE_tup, evE_lst, evE_o1, evE_o2, evE_o3, evE_dct, evE_chain, chn_bl, evE_band, bnd_bl, evE_bor, bor_bl, evE_bnot, evE_ifx, evE_slc, evE_call, evE_lc, exec_asg, exec_par, prO_some, exec_own, exec_app, apO_own, exec_ext, exO_lst, exec_seti, stO_own, poO_some, exec_ifs, exec_for, exec_whl, exec_ret, exec_retN, exec_ex, exec_raise, exec_pass, exec_kill, exec_freeze, exec_try, tryO_nx, tryO_rt, tryO_1, tryO_2, tryO_3, tryO_4, tryO_5, tryO_6, fzO_lst, fzO_dct, bindT_v, bindT_tup, bindT_lst, bindTs_nil, bindTs_cons, add_int, sub_int, mul_int, fdiv_int, mod_int, cmp_int, cmp_str, truth_non, truth_bl, truth_int, truth_tup, truth_lst, gI_non, gI_int, items_tup, items_lst, items_str, zipOf_tup, zipOf_lst, zip3_tup, zipD_map, ixT0, ixT1, ixT2, ixT3, ixT4, ixL0, ixL1, slT_n2, slT_n3, slT_1n, slT_2n, slT_3n, slT_m1, o2_add, o2_sub, o2_mul, o2_fdiv, o2_mod, o2_eq, o2_ne, o2_lt, o2_le, o2_gt, o2_ge, o2_inn, o2_notin, o2_idx, o2_max, o2_min, o1_neg, o1_len, len_tup, len_lst, len_dct, len_scr, o1_tuple_tup, o1_tuple_lst, o1_list_tup, o1_list_lst, o1_list_dct, o1_sorted_tup, o1_sorted_lst, o1_all, o1_abs, o1_int_int, o1_int_bl, o1_rev_tup, o1_rev_lst, o1_isTrue, o1_notTrue, o1_isFalse, o1_notFalse, setE, storeP, thaw, rdO, ofE_some, ofE_none, bind_ok, bind_exc, bind_stuck, nox_ok, of_some, of_none, out_ok, out_exc, out_stuck, then_nx, then_rt, then_exc, then_stuck, Fin_rt, Fin_nx, FinX_exc, Nxt_nx, List.getElem?_cons_zero, List.getElem?_cons_succ, List.set_cons_zero, List.set_cons_succ, wipeE, Option.bind_some, Option.bind_none, Option.map_some, Option.map_none, Option.some.injEq, isNonE, ite_ok, ite_int, ite_bl, Bool.if_true_left, Bool.if_false_right, Bool.if_true_right, Bool.if_false_left, if_true, if_false, Bool.false_eq_true, Bool.true_eq_false, reduceIte, ite_true, ite_false, decide_eq_true_eq, decide_true, decide_false, Bool.not_true, Bool.not_false, Bool.and_true, Bool.true_and, Bool.and_false, Bool.false_and, Bool.not_eq_true', decide_eq_false_iff_not, Bool.decide_eq_true, nev_int, c]) (by rw [enumZ_len]; exact lim)]
      have ef := enumZ_filter pl S 0 h0 (by omega)
      rw [Int.sub_zero] at ef
      have eg : ((enumZ 0 S).filter fun q => !decide (q.1 = pl)).map (fun q => encE q.2) = (S.take pl.toNat ++ S.drop (pl.toNat + 1)).map encE := by
        rw [← ef, List.map_map]; rfl
      have s6 := fun s => a6 (tupE (S.take pl.toNat ++ S.drop (pl.toNat + 1))) s (same_tE 1 (by simp only [List.length_append, List.length_take, List.length_drop, LIM]; omega))
      simp only [Def.body, Def.slots, Def.params, startE, List.map_cons, List.map_nil, List.cons_append, List.nil_append, List.append_nil, List.reduceReplicate, List.length_cons, List.length_nil, Nat.reduceAdd, Nat.reduceSub, Nat.reduceLT, Nat.reduceLeDiff, Nat.zero_add, execs_nil, execs_cons, sq_nx, sq_rt, sq_exc, sq_stuck, bE_ok, bE_exc, bEs_ok, bEs_exc, bA_ok, bA_exc, bE2_ok, kAnd_ok, kOr_ok, kIf_ok, kIfS_ok, kIfS_exc, kCh_ok, kCh2_ok, kBand_ok, kBor_ok, kSl_ok, kSl2_ok, evEs_nil, evEs_cons, evA_nil, evA_val, evT_and, evT_or, evT_not, evT_v, evT_yes, evI_of, evI_rng1, evI_rng2, evI_enum, evI_zip2, evI_zip3, dsp_some, evE_cst, evE_gl, evE_inR, inR_int, evEvar, evE_peek, gv_val, gp_own, evE_tup, evE_lst, evE_o1, evE_o2, evE_o3, evE_dct, evE_chain, chn_bl, evE_band, bnd_bl, evE_bor, bor_bl, evE_bnot, evE_ifx, evE_slc, evE_call, evE_lc, exec_asg, exec_par, prO_some, exec_own, exec_app, apO_own, exec_ext, exO_lst, exec_seti, stO_own, poO_some, exec_ifs, exec_for, exec_whl, exec_ret, exec_retN, exec_ex, exec_raise, exec_pass, exec_kill, exec_freeze, exec_try, tryO_nx, tryO_rt, tryO_1, tryO_2, tryO_3, tryO_4, tryO_5, tryO_6, fzO_lst, fzO_dct, bindT_v, bindT_tup, bindT_lst, bindTs_nil, bindTs_cons, add_int, sub_int, mul_int, fdiv_int, mod_int, cmp_int, cmp_str, truth_non, truth_bl, truth_int, truth_tup, truth_lst, gI_non, gI_int, items_tup, items_lst, items_str, zipOf_tup, zipOf_lst, zip3_tup, zipD_map, ixT0, ixT1, ixT2, ixT3, ixT4, ixL0, ixL1, slT_n2, slT_n3, slT_1n, slT_2n, slT_3n, slT_m1, o2_add, o2_sub, o2_mul, o2_fdiv, o2_mod, o2_eq, o2_ne, o2_lt, o2_le, o2_gt, o2_ge, o2_inn, o2_notin, o2_idx, o2_max, o2_min, o1_neg, o1_len, len_tup, len_lst, len_dct, len_scr, o1_tuple_tup, o1_tuple_lst, o1_list_tup, o1_list_lst, o1_list_dct, o1_sorted_tup, o1_sorted_lst, o1_all, o1_abs, o1_int_int, o1_int_bl, o1_rev_tup, o1_rev_lst, o1_isTrue, o1_notTrue, o1_isFalse, o1_notFalse, setE, storeP, thaw, rdO, ofE_some, ofE_none, bind_ok, bind_exc, bind_stuck, nox_ok, of_some, of_none, out_ok, out_exc, out_stuck, then_nx, then_rt, then_exc, then_stuck, Fin_rt, Fin_nx, FinX_exc, Nxt_nx, List.getElem?_cons_zero, List.getElem?_cons_succ, List.set_cons_zero, List.set_cons_succ, wipeE, Option.bind_some, Option.bind_none, Option.map_some, Option.map_none, Option.some.injEq, isNonE, ite_ok, ite_int, ite_bl, Bool.if_true_left, Bool.if_false_right, Bool.if_true_right, Bool.if_false_left, if_true, if_false, Bool.false_eq_true, Bool.true_eq_false, reduceIte, ite_true, ite_false, decide_eq_true_eq, decide_true, decide_false, Bool.not_true, Bool.not_false, Bool.and_true, Bool.true_and, Bool.and_false, Bool.false_and, Bool.not_eq_true', decide_eq_false_iff_not, Bool.decide_eq_true, eg, q, s6]
      exact ⟨_, _, _, _, _, _, _, _, _, _, _, _, _, _, _, _, _, _, rfl⟩
    · have q : ∀ s, callOf (run G T (n + 5)) fs [.val (.int 1), .val (tupE S), .val (.int pl)] s = .ok (.str neW) s := fun s => by
        have q := a8 S pl s l3
        rw [if_neg hc] at q
        exact q
      have s6 : ∀ s, callOf (run G T (n + 5)) fa [.val (.str neW), .val (.str [110, 111, 32, 101, 118, 101, 110, 116])] s = .ok (.bl true) s := fun s => a6 (.str neW) s rfl
      by_cases h0 : 0 ≤ pl
      · have h1 : ¬ pl < (S.length : Int) := fun q => hc ⟨h0, q⟩
        simp only [Def.body, Def.slots, Def.params, startE, List.map_cons, List.map_nil, List.cons_append, List.nil_append, List.append_nil, List.reduceReplicate, List.length_cons, List.length_nil, Nat.reduceAdd, Nat.reduceSub, Nat.reduceLT, Nat.reduceLeDiff, Nat.zero_add, execs_nil, execs_cons, sq_nx, sq_rt, sq_exc, sq_stuck, bE_ok, bE_exc, bEs_ok, bEs_exc, bA_ok, bA_exc, bE2_ok, kAnd_ok, kOr_ok, kIf_ok, kIfS_ok, kIfS_exc, kCh_ok, kCh2_ok, kBand_ok, kBor_ok, kSl_ok, kSl2_ok, evEs_nil, evEs_cons, evA_nil, evA_val, evT_and, evT_or, evT_not, evT_v, evT_yes, evI_of, evI_rng1, evI_rng2, evI_enum, evI_zip2, evI_zip3, dsp_some, evE_cst, evE_gl, evE_inR, inR_int, evEvar, evE_peek, gv_val, gp_own, evE_tup, evE_lst, evE_o1, evE_o2, evE_o3, evE_dct, evE_chain, chn_bl, evE_band, bnd_bl, evE_bor, bor_bl, evE_bnot, evE_ifx, evE_slc, evE_call, evE_lc, exec_asg, exec_par, prO_some, exec_own, exec_app, apO_own, exec_ext, exO_lst, exec_seti, stO_own, poO_some, exec_ifs, exec_for, exec_whl, exec_ret, exec_retN, exec_ex, exec_raise, exec_pass, exec_kill, exec_freeze, exec_try, tryO_nx, tryO_rt, tryO_1, tryO_2, tryO_3, tryO_4, tryO_5, tryO_6, fzO_lst, fzO_dct, bindT_v, bindT_tup, bindT_lst, bindTs_nil, bindTs_cons, add_int, sub_int, mul_int, fdiv_int, mod_int, cmp_int, cmp_str, truth_non, truth_bl, truth_int, truth_tup, truth_lst, gI_non, gI_int, items_tup, items_lst, items_str, zipOf_tup, zipOf_lst, zip3_tup, zipD_map, ixT0, ixT1, ixT2, ixT3, ixT4, ixL0, ixL1, slT_n2, slT_n3, slT_1n, slT_2n, slT_3n, slT_m1, o2_add, o2_sub, o2_mul, o2_fdiv, o2_mod, o2_eq, o2_ne, o2_lt, o2_le, o2_gt, o2_ge, o2_inn, o2_notin, o2_idx, o2_max, o2_min, o1_neg, o1_len, len_tup, len_lst, len_dct, len_scr, o1_tuple_tup, o1_tuple_lst, o1_list_tup, o1_list_lst, o1_list_dct, o1_sorted_tup, o1_sorted_lst, o1_all, o1_abs, o1_int_int, o1_int_bl, o1_rev_tup, o1_rev_lst, o1_isTrue, o1_notTrue, o1_isFalse, o1_notFalse, setE, storeP, thaw, rdO, ofE_some, ofE_none, bind_ok, bind_exc, bind_stuck, nox_ok, of_some, of_none, out_ok, out_exc, out_stuck, then_nx, then_rt, then_exc, then_stuck, Fin_rt, Fin_nx, FinX_exc, Nxt_nx, List.getElem?_cons_zero, List.getElem?_cons_succ, List.set_cons_zero, List.set_cons_succ, wipeE, Option.bind_some, Option.bind_none, Option.map_some, Option.map_none, Option.some.injEq, isNonE, ite_ok, ite_int, ite_bl, Bool.if_true_left, Bool.if_false_right, Bool.if_true_right, Bool.if_false_left, if_true, if_false, Bool.false_eq_true, Bool.true_eq_false, reduceIte, ite_true, ite_false, decide_eq_true_eq, decide_true, decide_false, Bool.not_true, Bool.not_false, Bool.and_true, Bool.true_and, Bool.and_false, Bool.false_and, Bool.not_eq_true', decide_eq_false_iff_not, Bool.decide_eq_true, h0, h1, q, s6]
        exact ⟨_, _, _, _, _, _, _, _, _, _, _, _, _, _, _, _, _, _, rfl⟩
      · simp only [Def.body, Def.slots, Def.params, startE, List.map_cons, List.map_nil, List.cons_append, List.nil_append, List.append_nil, List.reduceReplicate, List.length_cons, List.length_nil, Nat.reduceAdd, Nat.reduceSub, Nat.reduceLT, Nat.reduceLeDiff, Nat.zero_add, execs_nil, execs_cons, sq_nx, sq_rt, sq_exc, sq_stuck, bE_ok, bE_exc, bEs_ok, bEs_exc, bA_ok, bA_exc, bE2_ok, kAnd_ok, kOr_ok, kIf_ok, kIfS_ok, kIfS_exc, kCh_ok, kCh2_ok, kBand_ok, kBor_ok, kSl_ok, kSl2_ok, evEs_nil, evEs_cons, evA_nil, evA_val, evT_and, evT_or, evT_not, evT_v, evT_yes, evI_of, evI_rng1, evI_rng2, evI_enum, evI_zip2, evI_zip3, dsp_some, evE_cst, evE_gl, evE_inR, inR_int, evEvar, evE_peek, gv_val, gp_own, evE_tup, evE_lst, evE_o1, evE_o2, evE_o3, evE_dct, evE_chain, chn_bl, evE_band, bnd_bl, evE_bor, bor_bl, evE_bnot, evE_ifx, evE_slc, evE_call, evE_lc, exec_asg, exec_par, prO_some, exec_own, exec_app, apO_own, exec_ext, exO_lst, exec_seti, stO_own, poO_some, exec_ifs, exec_for, exec_whl, exec_ret, exec_retN, exec_ex, exec_raise, exec_pass, exec_kill, exec_freeze, exec_try, tryO_nx, tryO_rt, tryO_1, tryO_2, tryO_3, tryO_4, tryO_5, tryO_6, fzO_lst, fzO_dct, bindT_v, bindT_tup, bindT_lst, bindTs_nil, bindTs_cons, add_int, sub_int, mul_int, fdiv_int, mod_int, cmp_int, cmp_str, truth_non, truth_bl, truth_int, truth_tup, truth_lst, gI_non, gI_int, items_tup, items_lst, items_str, zipOf_tup, zipOf_lst, zip3_tup, zipD_map, ixT0, ixT1, ixT2, ixT3, ixT4, ixL0, ixL1, slT_n2, slT_n3, slT_1n, slT_2n, slT_3n, slT_m1, o2_add, o2_sub, o2_mul, o2_fdiv, o2_mod, o2_eq, o2_ne, o2_lt, o2_le, o2_gt, o2_ge, o2_inn, o2_notin, o2_idx, o2_max, o2_min, o1_neg, o1_len, len_tup, len_lst, len_dct, len_scr, o1_tuple_tup, o1_tuple_lst, o1_list_tup, o1_list_lst, o1_list_dct, o1_sorted_tup, o1_sorted_lst, o1_all, o1_abs, o1_int_int, o1_int_bl, o1_rev_tup, o1_rev_lst, o1_isTrue, o1_notTrue, o1_isFalse, o1_notFalse, setE, storeP, thaw, rdO, ofE_some, ofE_none, bind_ok, bind_exc, bind_stuck, nox_ok, of_some, of_none, out_ok, out_exc, out_stuck, then_nx, then_rt, then_exc, then_stuck, Fin_rt, Fin_nx, FinX_exc, Nxt_nx, List.getElem?_cons_zero, List.getElem?_cons_succ, List.set_cons_zero, List.set_cons_succ, wipeE, Option.bind_some, Option.bind_none, Option.map_some, Option.map_none, Option.some.injEq, isNonE, ite_ok, ite_int, ite_bl, Bool.if_true_left, Bool.if_false_right, Bool.if_true_right, Bool.if_false_left, if_true, if_false, Bool.false_eq_true, Bool.true_eq_false, reduceIte, ite_true, ite_false, decide_eq_true_eq, decide_true, decide_false, Bool.not_true, Bool.not_false, Bool.and_true, Bool.true_and, Bool.and_false, Bool.false_and, Bool.not_eq_true', decide_eq_false_iff_not, Bool.decide_eq_true, h0, q, s6]
        exact ⟨_, _, _, _, _, _, _, _, _, _, _, _, _, _, _, _, _, _, rfl⟩
  refine run_fin hT rfl ?_
  simp only [c_law_k03, Def.body, Def.slots, Def.params, startE, List.map_cons, List.map_nil, List.cons_append, List.nil_append, List.append_nil, List.reduceReplicate, List.length_cons, List.length_nil, Nat.reduceAdd, Nat.reduceSub, Nat.reduceLT, Nat.reduceLeDiff, Nat.zero_add, execs_nil, execs_cons, sq_nx, sq_rt, sq_exc, sq_stuck, bE_ok, bE_exc, bEs_ok, bEs_exc, bA_ok, bA_exc, bE2_ok, kAnd_ok, kOr_ok, kIf_ok, kIfS_ok, kIfS_exc, kCh_ok, kCh2_ok, kBand_ok, kBor_ok, kSl_ok, kSl2_ok, evEs_nil, evEs_cons, evA_nil, evA_val, evT_and, evT_or, evT_not, evT_v, evT_yes, evI_of, evI_rng1, evI_rng2, evI_enum, evI_zip2, evI_zip3, dsp_some, evE_cst, evE_gl, evE_inR, inR_int, evEvar, evE_peek, gv_val, gp_own, evE_tup, evE_lst, evE_o1, evE_o2, evE_o3, evE_dct, evE_chain, chn_bl, evE_band, bnd_bl, evE_bor, bor_bl, evE_bnot, evE_ifx, evE_slc, evE_call, evE_lc, exec_asg, exec_par, prO_some, exec_own, exec_app, apO_own, exec_ext, exO_lst, exec_seti, stO_own, poO_some, exec_ifs, exec_for, exec_whl, exec_ret, exec_retN, exec_ex, exec_raise, exec_pass, exec_kill, exec_freeze, exec_try, tryO_nx, tryO_rt, tryO_1, tryO_2, tryO_3, tryO_4, tryO_5, tryO_6, fzO_lst, fzO_dct, bindT_v, bindT_tup, bindT_lst, bindTs_nil, bindTs_cons, add_int, sub_int, mul_int, fdiv_int, mod_int, cmp_int, cmp_str, truth_non, truth_bl, truth_int, truth_tup, truth_lst, gI_non, gI_int, items_tup, items_lst, items_str, zipOf_tup, zipOf_lst, zip3_tup, zipD_map, ixT0, ixT1, ixT2, ixT3, ixT4, ixL0, ixL1, slT_n2, slT_n3, slT_1n, slT_2n, slT_3n, slT_m1, o2_add, o2_sub, o2_mul, o2_fdiv, o2_mod, o2_eq, o2_ne, o2_lt, o2_le, o2_gt, o2_ge, o2_inn, o2_notin, o2_idx, o2_max, o2_min, o1_neg, o1_len, len_tup, len_lst, len_dct, len_scr, o1_tuple_tup, o1_tuple_lst, o1_list_tup, o1_list_lst, o1_list_dct, o1_sorted_tup, o1_sorted_lst, o1_all, o1_abs, o1_int_int, o1_int_bl, o1_rev_tup, o1_rev_lst, o1_isTrue, o1_notTrue, o1_isFalse, o1_notFalse, setE, storeP, thaw, rdO, ofE_some, ofE_none, bind_ok, bind_exc, bind_stuck, nox_ok, of_some, of_none, out_ok, out_exc, out_stuck, then_nx, then_rt, then_exc, then_stuck, Fin_rt, Fin_nx, FinX_exc, Nxt_nx, List.getElem?_cons_zero, List.getElem?_cons_succ, List.set_cons_zero, List.set_cons_succ, wipeE, Option.bind_some, Option.bind_none, Option.map_some, Option.map_none, Option.some.injEq, isNonE, ite_ok, ite_int, ite_bl, Bool.if_true_left, Bool.if_false_right, Bool.if_true_right, Bool.if_false_left, if_true, if_false, Bool.false_eq_true, Bool.true_eq_false, reduceIte, ite_true, ite_false, decide_eq_true_eq, decide_true, decide_false, Bool.not_true, Bool.not_false, Bool.and_true, Bool.true_and, Bool.and_false, Bool.false_and, Bool.not_eq_true', decide_eq_false_iff_not, Bool.decide_eq_true, rng1_int (b := 10) (by omega) (by omega)]
  refine forL_go (fun a e s => Inv03 ns e s) ⟨_, _, _, _, _, _, _, _, _, _, _, _, _, _, _, _, _, _, rfl⟩ ?_ ?_
  · rintro a k b e s hl ⟨o1, o2, o3, o4, o5, o6, o7, o8, o9, o10, o11, o12, o13, o14, o15, o16, o17, o18, rfl⟩
    have hk : k ∈ rangeZ 0 (10 : Int).toNat := by rw [hl]; simp
    rw [mem_rangeZ] at hk
    have k9 : 0 ≤ k % 9 ∧ k % 9 < 9 := by omega
    have d9 : divOk 9 = true := divOk_of (by decide) (by decide)
    have x31 : mulOk 31 k = true := mulOk_left (by decide) (by decide)
    have hcb : Bits (cell ns (k % 9).toNat + 31 * k) 2000000 := (Bits.add (cell_bits hB _) ((Bits.small (by omega) (by omega)).mono (by omega))).mono (by omega)
    generalize hcc : cell ns (k % 9).toNat + 31 * k = c at hcb
    simp only [forF_eq, Def.body, Def.slots, Def.params, startE, List.map_cons, List.map_nil, List.cons_append, List.nil_append, List.append_nil, List.reduceReplicate, List.length_cons, List.length_nil, Nat.reduceAdd, Nat.reduceSub, Nat.reduceLT, Nat.reduceLeDiff, Nat.zero_add, execs_nil, execs_cons, sq_nx, sq_rt, sq_exc, sq_stuck, bE_ok, bE_exc, bEs_ok, bEs_exc, bA_ok, bA_exc, bE2_ok, kAnd_ok, kOr_ok, kIf_ok, kIfS_ok, kIfS_exc, kCh_ok, kCh2_ok, kBand_ok, kBor_ok, kSl_ok, kSl2_ok, evEs_nil, evEs_cons, evA_nil, evA_val, evT_and, evT_or, evT_not, evT_v, evT_yes, evI_of, evI_rng1, evI_rng2, evI_enum, evI_zip2, evI_zip3, dsp_some, evE_cst, evE_gl, evE_inR, inR_int, evEvar, evE_peek, gv_val, gp_own, evE_tup, evE_lst, evE_o1, evE_o2, evE_o3, evE_dct, evE_chain, chn_bl, evE_band, bnd_bl, evE_bor, bor_bl, evE_bnot, evE_ifx, evE_slc, evE_call, evE_lc, exec_asg, exec_par, prO_some, exec_own, exec_app, apO_own, exec_ext, exO_lst, exec_seti, stO_own, poO_some, exec_ifs, exec_for, exec_whl, exec_ret, exec_retN, exec_ex, exec_raise, exec_pass, exec_kill, exec_freeze, exec_try, tryO_nx, tryO_rt, tryO_1, tryO_2, tryO_3, tryO_4, tryO_5, tryO_6, fzO_lst, fzO_dct, bindT_v, bindT_tup, bindT_lst, bindTs_nil, bindTs_cons, add_int, sub_int, mul_int, fdiv_int, mod_int, cmp_int, cmp_str, truth_non, truth_bl, truth_int, truth_tup, truth_lst, gI_non, gI_int, items_tup, items_lst, items_str, zipOf_tup, zipOf_lst, zip3_tup, zipD_map, ixT0, ixT1, ixT2, ixT3, ixT4, ixL0, ixL1, slT_n2, slT_n3, slT_1n, slT_2n, slT_3n, slT_m1, o2_add, o2_sub, o2_mul, o2_fdiv, o2_mod, o2_eq, o2_ne, o2_lt, o2_le, o2_gt, o2_ge, o2_inn, o2_notin, o2_idx, o2_max, o2_min, o1_neg, o1_len, len_tup, len_lst, len_dct, len_scr, o1_tuple_tup, o1_tuple_lst, o1_list_tup, o1_list_lst, o1_list_dct, o1_sorted_tup, o1_sorted_lst, o1_all, o1_abs, o1_int_int, o1_int_bl, o1_rev_tup, o1_rev_lst, o1_isTrue, o1_notTrue, o1_isFalse, o1_notFalse, setE, storeP, thaw, rdO, ofE_some, ofE_none, bind_ok, bind_exc, bind_stuck, nox_ok, of_some, of_none, out_ok, out_exc, out_stuck, then_nx, then_rt, then_exc, then_stuck, Fin_rt, Fin_nx, FinX_exc, Nxt_nx, List.getElem?_cons_zero, List.getElem?_cons_succ, List.set_cons_zero, List.set_cons_succ, wipeE, Option.bind_some, Option.bind_none, Option.map_some, Option.map_none, Option.some.injEq, isNonE, ite_ok, ite_int, ite_bl, Bool.if_true_left, Bool.if_false_right, Bool.if_true_right, Bool.if_false_left, if_true, if_false, Bool.false_eq_true, Bool.true_eq_false, reduceIte, ite_true, ite_false, decide_eq_true_eq, decide_true, decide_false, Bool.not_true, Bool.not_false, Bool.and_true, Bool.true_and, Bool.and_false, Bool.false_and, Bool.not_eq_true', decide_eq_false_iff_not, Bool.decide_eq_true, d9, x31, a1 (k % 9) _ k9.1 (by omega), hcc, a3 c _ hcb]
    have t := tail k c o4 o5 o6 o7 o8 o9 o10 o11 o12 o13 o14 o15 o16 o17 o18 s hk.1 (by omega)
    simp only [c_law_k03, nthS, loopB, dropS, Def.body, Def.slots, Def.params, startE, List.map_cons, List.map_nil, List.cons_append, List.nil_append, List.append_nil, List.reduceReplicate, List.length_cons, List.length_nil, Nat.reduceAdd, Nat.reduceSub, Nat.reduceLT, Nat.reduceLeDiff, Nat.zero_add, execs_nil, execs_cons, sq_nx, sq_rt, sq_exc, sq_stuck, bE_ok, bE_exc, bEs_ok, bEs_exc, bA_ok, bA_exc, bE2_ok, kAnd_ok, kOr_ok, kIf_ok, kIfS_ok, kIfS_exc, kCh_ok, kCh2_ok, kBand_ok, kBor_ok, kSl_ok, kSl2_ok, evEs_nil, evEs_cons, evA_nil, evA_val, evT_and, evT_or, evT_not, evT_v, evT_yes, evI_of, evI_rng1, evI_rng2, evI_enum, evI_zip2, evI_zip3, dsp_some, evE_cst, evE_gl, evE_inR, inR_int, evEvar, evE_peek, gv_val, gp_own, evE_tup, evE_lst, evE_o1, evE_o2, evE_o3, evE_dct, evE_chain, chn_bl, evE_band, bnd_bl, evE_bor, bor_bl, evE_bnot, evE_ifx, evE_slc, evE_call, evE_lc, exec_asg, exec_par, prO_some, exec_own, exec_app, apO_own, exec_ext, exO_lst, exec_seti, stO_own, poO_some, exec_ifs, exec_for, exec_whl, exec_ret, exec_retN, exec_ex, exec_raise, exec_pass, exec_kill, exec_freeze, exec_try, tryO_nx, tryO_rt, tryO_1, tryO_2, tryO_3, tryO_4, tryO_5, tryO_6, fzO_lst, fzO_dct, bindT_v, bindT_tup, bindT_lst, bindTs_nil, bindTs_cons, add_int, sub_int, mul_int, fdiv_int, mod_int, cmp_int, cmp_str, truth_non, truth_bl, truth_int, truth_tup, truth_lst, gI_non, gI_int, items_tup, items_lst, items_str, zipOf_tup, zipOf_lst, zip3_tup, zipD_map, ixT0, ixT1, ixT2, ixT3, ixT4, ixL0, ixL1, slT_n2, slT_n3, slT_1n, slT_2n, slT_3n, slT_m1, o2_add, o2_sub, o2_mul, o2_fdiv, o2_mod, o2_eq, o2_ne, o2_lt, o2_le, o2_gt, o2_ge, o2_inn, o2_notin, o2_idx, o2_max, o2_min, o1_neg, o1_len, len_tup, len_lst, len_dct, len_scr, o1_tuple_tup, o1_tuple_lst, o1_list_tup, o1_list_lst, o1_list_dct, o1_sorted_tup, o1_sorted_lst, o1_all, o1_abs, o1_int_int, o1_int_bl, o1_rev_tup, o1_rev_lst, o1_isTrue, o1_notTrue, o1_isFalse, o1_notFalse, setE, storeP, thaw, rdO, ofE_some, ofE_none, bind_ok, bind_exc, bind_stuck, nox_ok, of_some, of_none, out_ok, out_exc, out_stuck, then_nx, then_rt, then_exc, then_stuck, Fin_rt, Fin_nx, FinX_exc, Nxt_nx, List.getElem?_cons_zero, List.getElem?_cons_succ, List.set_cons_zero, List.set_cons_succ, wipeE, Option.bind_some, Option.bind_none, Option.map_some, Option.map_none, Option.some.injEq, isNonE, ite_ok, ite_int, ite_bl, Bool.if_true_left, Bool.if_false_right, Bool.if_true_right, Bool.if_false_left, if_true, if_false, Bool.false_eq_true, Bool.true_eq_false, reduceIte, ite_true, ite_false, decide_eq_true_eq, decide_true, decide_false, Bool.not_true, Bool.not_false, Bool.and_true, Bool.true_and, Bool.and_false, Bool.false_and, Bool.not_eq_true', decide_eq_false_iff_not, Bool.decide_eq_true] at t
    exact t
  · rintro e s ⟨o1, o2, o3, o4, o5, o6, o7, o8, o9, o10, o11, o12, o13, o14, o15, o16, o17, o18, rfl⟩
    have q : ∀ s, callOf (run G T (n + 5)) fs [.val (.int 0), .val (.tup [.tup [.int 5, .tup [.str [119, 111, 114, 100], .str [97]]], .tup [.int 0, .tup [.str [119, 111, 114, 100], .str [98]]]]), .val (.int 0)] s = .ok (tupE [(5, wA), (5, wB)]) s := fun s => a7 [(5, wA), (0, wB)] 0 s (by decide)
    have v : eqVal (tupE [(5, wA), (5, wB)]) (.tup [.tup [.int 5, .tup [.str [119, 111, 114, 100], .str [97]]], .tup [.int 5, .tup [.str [119, 111, 114, 100], .str [98]]]]) = some (.bl true) := eqVal_self (plain_tE [(5, wA), (5, wB)])
    simp only [Def.body, Def.slots, Def.params, startE, List.map_cons, List.map_nil, List.cons_append, List.nil_append, List.append_nil, List.reduceReplicate, List.length_cons, List.length_nil, Nat.reduceAdd, Nat.reduceSub, Nat.reduceLT, Nat.reduceLeDiff, Nat.zero_add, execs_nil, execs_cons, sq_nx, sq_rt, sq_exc, sq_stuck, bE_ok, bE_exc, bEs_ok, bEs_exc, bA_ok, bA_exc, bE2_ok, kAnd_ok, kOr_ok, kIf_ok, kIfS_ok, kIfS_exc, kCh_ok, kCh2_ok, kBand_ok, kBor_ok, kSl_ok, kSl2_ok, evEs_nil, evEs_cons, evA_nil, evA_val, evT_and, evT_or, evT_not, evT_v, evT_yes, evI_of, evI_rng1, evI_rng2, evI_enum, evI_zip2, evI_zip3, dsp_some, evE_cst, evE_gl, evE_inR, inR_int, evEvar, evE_peek, gv_val, gp_own, evE_tup, evE_lst, evE_o1, evE_o2, evE_o3, evE_dct, evE_chain, chn_bl, evE_band, bnd_bl, evE_bor, bor_bl, evE_bnot, evE_ifx, evE_slc, evE_call, evE_lc, exec_asg, exec_par, prO_some, exec_own, exec_app, apO_own, exec_ext, exO_lst, exec_seti, stO_own, poO_some, exec_ifs, exec_for, exec_whl, exec_ret, exec_retN, exec_ex, exec_raise, exec_pass, exec_kill, exec_freeze, exec_try, tryO_nx, tryO_rt, tryO_1, tryO_2, tryO_3, tryO_4, tryO_5, tryO_6, fzO_lst, fzO_dct, bindT_v, bindT_tup, bindT_lst, bindTs_nil, bindTs_cons, add_int, sub_int, mul_int, fdiv_int, mod_int, cmp_int, cmp_str, truth_non, truth_bl, truth_int, truth_tup, truth_lst, gI_non, gI_int, items_tup, items_lst, items_str, zipOf_tup, zipOf_lst, zip3_tup, zipD_map, ixT0, ixT1, ixT2, ixT3, ixT4, ixL0, ixL1, slT_n2, slT_n3, slT_1n, slT_2n, slT_3n, slT_m1, o2_add, o2_sub, o2_mul, o2_fdiv, o2_mod, o2_eq, o2_ne, o2_lt, o2_le, o2_gt, o2_ge, o2_inn, o2_notin, o2_idx, o2_max, o2_min, o1_neg, o1_len, len_tup, len_lst, len_dct, len_scr, o1_tuple_tup, o1_tuple_lst, o1_list_tup, o1_list_lst, o1_list_dct, o1_sorted_tup, o1_sorted_lst, o1_all, o1_abs, o1_int_int, o1_int_bl, o1_rev_tup, o1_rev_lst, o1_isTrue, o1_notTrue, o1_isFalse, o1_notFalse, setE, storeP, thaw, rdO, ofE_some, ofE_none, bind_ok, bind_exc, bind_stuck, nox_ok, of_some, of_none, out_ok, out_exc, out_stuck, then_nx, then_rt, then_exc, then_stuck, Fin_rt, Fin_nx, FinX_exc, Nxt_nx, List.getElem?_cons_zero, List.getElem?_cons_succ, List.set_cons_zero, List.set_cons_succ, wipeE, Option.bind_some, Option.bind_none, Option.map_some, Option.map_none, Option.some.injEq, isNonE, ite_ok, ite_int, ite_bl, Bool.if_true_left, Bool.if_false_right, Bool.if_true_right, Bool.if_false_left, if_true, if_false, Bool.false_eq_true, Bool.true_eq_false, reduceIte, ite_true, ite_false, decide_eq_true_eq, decide_true, decide_false, Bool.not_true, Bool.not_false, Bool.and_true, Bool.true_and, Bool.and_false, Bool.false_and, Bool.not_eq_true', decide_eq_false_iff_not, Bool.decide_eq_true, q, v]
end Nt
set_option Elab.async false
set_option linter.all false
set_option maxRecDepth 100000
set_option maxHeartbeats 4000000
set_option autoImplicit false
namespace Nt.K03
open PySem PySem.Spec PyProof.Rows L2
def top (i : Nat) : Stmt := PySem.Challenge.pw_notetracks_k03_deltas.main.body.getD i (.Pass ⟨0, 0, 0, 0⟩)
def glL : List (Str × Nat) := [("LAST", 0)]
def fnL : List (Str × Nat) := [("must", 0), ("deltas", 1), ("from_deltas", 2), ("at", 3), ("between", 4), ("inserted", 5), ("without", 6), ("_law_cell", 7), ("_law_mix", 8), ("_law_same", 9), ("_law_deed", 10), ("_law_far_deed", 11), ("_law_track", 12), ("_law_end", 13), ("_law_word", 14), ("_law_said", 15), ("law", 16)]
def clL : List (Str × Nat) := [("NoteError", 0), ("NoTrack", 1), ("NoEvent", 2), ("NoBar", 3), ("NoKey", 4), ("NoBytes", 5), ("NoText", 6)]
def wdL : Option Str := some "_law_word"
def n0 : List Str := ["truth"]
/-- must -/
abbrev c0 : Def := c_must 
def n1 : List Str := ["track", "found", "before", "tick", "deed"]
/-- deltas -/
abbrev c1 : Def := c_deltas 
def n2 : List Str := ["some", "found", "tick", "more", "deed"]
/-- from_deltas -/
abbrev c2 : Def := c_from_deltas 0 0
def n3 : List Str := ["track", "tick", "here", "deed"]
/-- at -/
abbrev c3 : Def := c_at 
def n4 : List Str := ["track", "first", "last", "event"]
/-- between -/
abbrev c4 : Def := c_between 
def n5 : List Str := ["track", "event", "place", "one"]
/-- inserted -/
abbrev c5 : Def := c_inserted 
def n6 : List Str := ["track", "place"]
/-- without -/
abbrev c6 : Def := c_without 
def n7 : List Str := ["_law_script", "_law_k"]
/-- _law_cell -/
abbrev c7 : Def := c__law_cell 
def n8 : List Str := ["_law_cell_here", "_law_prime", "_law_many", "_law_blend"]
/-- _law_mix -/
abbrev c8 : Def := c__law_mix 
def n9 : List Str := ["_law_found", "_law_due", "_law_one", "_law_other"]
/-- _law_same -/
abbrev c9 : Def := c__law_same 9
def n10 : List Str := ["_law_cell_here", "_law_way", "_law_channel", "_law_pitch"]
/-- _law_deed -/
abbrev c10 : Def := c__law_deed 8
def n11 : List Str := ["_law_cell_here", "_law_way", "_law_one", "_law_other", "_law_channel"]
/-- _law_far_deed -/
abbrev c11 : Def := c__law_far_deed 8
def n12 : List Str := ["_law_cell_here", "_law_most", "_law_found", "_law_tick", "_law_k", "_law_seed"]
/-- _law_track -/
abbrev c12 : Def := c__law_track 8 11 10
def n13 : List Str := ["_law_track_here"]
/-- _law_end -/
abbrev c13 : Def := c__law_end 
-- _law_word: told by hand
def n15 : List Str := ["_law_way", "_law_one", "_law_other", "e"]
/-- _law_said -/
abbrev c15 : Def := c__law_said_k03 2 6
def n16 : List Str := ["_law_script", "_law_k", "_law_cell_here", "_law_track_here", "_law_ticks", "_law_event", "_law_due", "_law_j", "_law_bad", "_law_one", "_law_last", "_law_first", "_law_then", "_law_tick", "_law_deed_here", "_law_less", "_law_more", "_law_place", "_law_rest"]
/-- law -/
abbrev c16 : Def := c_law_k03 7 12 15 1 9 13 8 3 4 10 5
theorem k0 : chkSs ⟨n0, glL, fnL, clL, wdL⟩ c0.body (defScope (top 10)).names (defBody (top 10)) = true := by kernel_rfl
theorem k1 : chkSs ⟨n1, glL, fnL, clL, wdL⟩ c1.body (defScope (top 11)).names (defBody (top 11)) = true := by kernel_rfl
theorem k2 : chkSs ⟨n2, glL, fnL, clL, wdL⟩ c2.body (defScope (top 12)).names (defBody (top 12)) = true := by kernel_rfl
theorem k3 : chkSs ⟨n3, glL, fnL, clL, wdL⟩ c3.body (defScope (top 13)).names (defBody (top 13)) = true := by kernel_rfl
theorem k4 : chkSs ⟨n4, glL, fnL, clL, wdL⟩ c4.body (defScope (top 14)).names (defBody (top 14)) = true := by kernel_rfl
theorem k5 : chkSs ⟨n5, glL, fnL, clL, wdL⟩ c5.body (defScope (top 15)).names (defBody (top 15)) = true := by kernel_rfl
theorem k6 : chkSs ⟨n6, glL, fnL, clL, wdL⟩ c6.body (defScope (top 16)).names (defBody (top 16)) = true := by kernel_rfl
theorem k7 : chkSs ⟨n7, glL, fnL, clL, wdL⟩ c7.body (defScope (top 18)).names (defBody (top 18)) = true := by kernel_rfl
theorem k8 : chkSs ⟨n8, glL, fnL, clL, wdL⟩ c8.body (defScope (top 19)).names (defBody (top 19)) = true := by kernel_rfl
theorem k9 : chkSs ⟨n9, glL, fnL, clL, wdL⟩ c9.body (defScope (top 20)).names (defBody (top 20)) = true := by kernel_rfl
theorem k10 : chkSs ⟨n10, glL, fnL, clL, wdL⟩ c10.body (defScope (top 21)).names (defBody (top 21)) = true := by kernel_rfl
theorem k11 : chkSs ⟨n11, glL, fnL, clL, wdL⟩ c11.body (defScope (top 22)).names (defBody (top 22)) = true := by kernel_rfl
theorem k12 : chkSs ⟨n12, glL, fnL, clL, wdL⟩ c12.body (defScope (top 23)).names (defBody (top 23)) = true := by kernel_rfl
theorem k13 : chkSs ⟨n13, glL, fnL, clL, wdL⟩ c13.body (defScope (top 24)).names (defBody (top 24)) = true := by kernel_rfl
theorem k15 : chkSs ⟨n15, glL, fnL, clL, wdL⟩ c15.body (defScope (top 26)).names (defBody (top 26)) = true := by kernel_rfl
theorem k16 : chkSs ⟨n16, glL, fnL, clL, wdL⟩ c16.body (defScope (top 27)).names (defBody (top 27)) = true := by kernel_rfl
def tab : Table := fun f => match f with
  | 0 => some (.code c0)
  | 1 => some (.code c1)
  | 2 => some (.code c2)
  | 3 => some (.code c3)
  | 4 => some (.code c4)
  | 5 => some (.code c5)
  | 6 => some (.code c6)
  | 7 => some (.code c7)
  | 8 => some (.code c8)
  | 9 => some (.code c9)
  | 10 => some (.code c10)
  | 11 => some (.code c11)
  | 12 => some (.code c12)
  | 13 => some (.code c13)
  | 15 => some (.code c15)
  | 16 => some (.code c16)
  | _ => none
def glob : Glob := fun k => match k with
  | 0 => some (.int 99999)
  | _ => none
abbrev s0 : Stmt := top 10
def d0 : He.DefD := ⟨("must", none), "must", "must", defArgs s0, defBody s0, defScope s0, [], []⟩
abbrev s1 : Stmt := top 11
def d1 : He.DefD := ⟨("deltas", none), "deltas", "deltas", defArgs s1, defBody s1, defScope s1, [], []⟩
abbrev s2 : Stmt := top 12
def d2 : He.DefD := ⟨("from_deltas", none), "from_deltas", "from_deltas", defArgs s2, defBody s2, defScope s2, [], []⟩
abbrev s3 : Stmt := top 13
def d3 : He.DefD := ⟨("at", none), "at", "at", defArgs s3, defBody s3, defScope s3, [], []⟩
abbrev s4 : Stmt := top 14
def d4 : He.DefD := ⟨("between", none), "between", "between", defArgs s4, defBody s4, defScope s4, [], []⟩
abbrev s5 : Stmt := top 15
def d5 : He.DefD := ⟨("inserted", none), "inserted", "inserted", defArgs s5, defBody s5, defScope s5, [], []⟩
abbrev s6 : Stmt := top 16
def d6 : He.DefD := ⟨("without", none), "without", "without", defArgs s6, defBody s6, defScope s6, [], []⟩
abbrev s7 : Stmt := top 18
def d7 : He.DefD := ⟨("_law_cell", none), "_law_cell", "_law_cell", defArgs s7, defBody s7, defScope s7, [], []⟩
abbrev s8 : Stmt := top 19
def d8 : He.DefD := ⟨("_law_mix", none), "_law_mix", "_law_mix", defArgs s8, defBody s8, defScope s8, [], []⟩
abbrev s9 : Stmt := top 20
def d9 : He.DefD := ⟨("_law_same", none), "_law_same", "_law_same", defArgs s9, defBody s9, defScope s9, [], []⟩
abbrev s10 : Stmt := top 21
def d10 : He.DefD := ⟨("_law_deed", none), "_law_deed", "_law_deed", defArgs s10, defBody s10, defScope s10, [], []⟩
abbrev s11 : Stmt := top 22
def d11 : He.DefD := ⟨("_law_far_deed", none), "_law_far_deed", "_law_far_deed", defArgs s11, defBody s11, defScope s11, [], []⟩
abbrev s12 : Stmt := top 23
def d12 : He.DefD := ⟨("_law_track", none), "_law_track", "_law_track", defArgs s12, defBody s12, defScope s12, [], []⟩
abbrev s13 : Stmt := top 24
def d13 : He.DefD := ⟨("_law_end", none), "_law_end", "_law_end", defArgs s13, defBody s13, defScope s13, [], []⟩
abbrev s14 : Stmt := top 25
def d14 : He.DefD := ⟨("_law_word", none), "_law_word", "_law_word", defArgs s14, defBody s14, defScope s14, [], []⟩
abbrev s15 : Stmt := top 26
def d15 : He.DefD := ⟨("_law_said", none), "_law_said", "_law_said", defArgs s15, defBody s15, defScope s15, [], []⟩
abbrev s16 : Stmt := top 27
def d16 : He.DefD := ⟨("law", none), "law", "law", defArgs s16, defBody s16, defScope s16, [], []⟩
def fn : List He.DefD := [d0, d1, d2, d3, d4, d5, d6, d7, d8, d9, d10, d11, d12, d13, d14, d15, d16]
def fa : List He.Fa := [.glo "must", .glo "deltas", .glo "from_deltas", .glo "at", .glo "between", .glo "inserted", .glo "without", .glo "_law_cell", .glo "_law_mix", .glo "_law_same", .glo "_law_deed", .glo "_law_far_deed", .glo "_law_track", .glo "_law_end", .glo "_law_word", .glo "_law_said", .glo "law", .glo "NoteError", .glo "NoTrack", .glo "NoEvent", .glo "NoBar", .glo "NoKey", .glo "NoBytes", .glo "NoText", .exc "NoteError", .exc "NoTrack", .exc "NoEvent", .exc "NoBar", .exc "NoKey", .exc "NoBytes", .exc "NoText", .free "len", .free "tuple", .free "list", .free "sorted", .free "all", .free "sum", .free "max", .free "min", .free "abs", .free "int", .free "str", .free "bool", .free "isinstance", .free "range", .free "zip", .free "enumerate", .free "set", .free "dict", .free "ValueError"]
abbrev R : PySem.W.OpenRow := PySem.W.OpenLaw.row PySem.Challenge.rw_notetracks_k03_deltas
def cs : List (Str × D) := [("LAST", .int 99999)]
def exB (K : PySem.W.Frag) : Bool := wordB K
abbrev hk : PySem.W.Hook := hookN 4 fa fn cs exB
def ob (s : PySem.W.SharedT) : AlN := obsN 4 fa fn cs exB (HandSHeadRun.getT s)
theorem ob_eq (s : PySem.W.SharedT) : ob s = hk.obs s.abs := obsN_eq (HandSHeadRun.getT_eq s)
def names : List Str := ["NoteError", "NoTrack", "NoEvent", "NoBar", "NoKey", "NoBytes", "NoText", "LAST", "must", "deltas", "from_deltas", "at", "between", "inserted", "without", "_law_cell", "_law_mix", "_law_same", "_law_deed", "_law_far_deed", "_law_track", "_law_end", "_law_word", "_law_said"]
theorem run_top (w : World) : HandSHeadRun.RunEq R (PySem.W.view R.prog [27]) hk ob 5600 names w := by
  intro os
  kernel_rfl
def tx : Tx := ⟨[], glL, fnL, clL, wdL⟩
def pm (K : PySem.W.Frag) : Pm := ⟨K, fun c => match c with
  | 0 => He.ga K "NoteError"
  | 1 => He.ga K "NoTrack"
  | 2 => He.ga K "NoEvent"
  | 3 => He.ga K "NoBar"
  | 4 => He.ga K "NoKey"
  | 5 => He.ga K "NoBytes"
  | 6 => He.ga K "NoText"
  | _ => 0⟩
section
variable {K : PySem.W.Frag} {h : Heap} {mg : Str → Option Value} {prog : Program} {w : World} {base : Heap}
theorem gk (X : K.In h) (G : h.Ns mainGlobals mg) (hc : cs.all (gB K) = true) (i : Nat) {k : Nat} {x : Str} {d : D} (hi : cs[i]? = some (x, d)) (hk : glob k = some d) : ∃ u v d, mg x = some u ∧ RelV v u ∧ glob k = some d ∧ ∀ M H, RV (pm K) M H d v := by
  obtain ⟨u, v, h1, h2, h3⟩ := gB_ok (cls := (pm K).cls) X G (List.all_eq_true.mp hc _ (List.mem_of_getElem? hi))
  exact ⟨u, v, d, h1, h2, hk, h3⟩
theorem sc0 : FnScope n0 ["truth"] (defScope s0) := ⟨rfl, rfl, rfl, by decide +kernel, rfl, by decide +kernel, by decide +kernel⟩
theorem g0 (X : K.In h) (G : h.Ns mainGlobals mg) (c : He.SaysD fa fn K) : GoodF (pm K) glob tx tab prog w base mg "must" 0 := by
  obtain ⟨fd, F⟩ := c.def_ 0 (d := d0) rfl
  exact ⟨_, fd, ["truth"], He.glo_ok X G (c.fact 0 (f := .glo "must") rfl), F.kp, F.bindsN (ps := ["truth"]) (fun _ _ _ _ _ _ us hl => match us, hl with | [_], _ => rfl), fn_at F sc0 rfl rfl rfl (by decide) k0⟩
theorem sc1 : FnScope n1 ["track"] (defScope s1) := ⟨rfl, rfl, rfl, by decide +kernel, rfl, by decide +kernel, by decide +kernel⟩
theorem g1 (X : K.In h) (G : h.Ns mainGlobals mg) (c : He.SaysD fa fn K) : GoodF (pm K) glob tx tab prog w base mg "deltas" 1 := by
  obtain ⟨fd, F⟩ := c.def_ 1 (d := d1) rfl
  exact ⟨_, fd, ["track"], He.glo_ok X G (c.fact 1 (f := .glo "deltas") rfl), F.kp, F.bindsN (ps := ["track"]) (fun _ _ _ _ _ _ us hl => match us, hl with | [_], _ => rfl), fn_at F sc1 rfl rfl rfl (by decide) k1⟩
theorem sc2 : FnScope n2 ["some"] (defScope s2) := ⟨rfl, rfl, rfl, by decide +kernel, rfl, by decide +kernel, by decide +kernel⟩
theorem g2 (X : K.In h) (G : h.Ns mainGlobals mg) (c : He.SaysD fa fn K) : GoodF (pm K) glob tx tab prog w base mg "from_deltas" 2 := by
  obtain ⟨fd, F⟩ := c.def_ 2 (d := d2) rfl
  exact ⟨_, fd, ["some"], He.glo_ok X G (c.fact 2 (f := .glo "from_deltas") rfl), F.kp, F.bindsN (ps := ["some"]) (fun _ _ _ _ _ _ us hl => match us, hl with | [_], _ => rfl), fn_at F sc2 rfl rfl rfl (by decide) k2⟩
theorem sc3 : FnScope n3 ["track", "tick"] (defScope s3) := ⟨rfl, rfl, rfl, by decide +kernel, rfl, by decide +kernel, by decide +kernel⟩
theorem g3 (X : K.In h) (G : h.Ns mainGlobals mg) (c : He.SaysD fa fn K) : GoodF (pm K) glob tx tab prog w base mg "at" 3 := by
  obtain ⟨fd, F⟩ := c.def_ 3 (d := d3) rfl
  exact ⟨_, fd, ["track", "tick"], He.glo_ok X G (c.fact 3 (f := .glo "at") rfl), F.kp, F.bindsN (ps := ["track", "tick"]) (fun _ _ _ _ _ _ us hl => match us, hl with | [_, _], _ => rfl), fn_at F sc3 rfl rfl rfl (by decide) k3⟩
theorem sc4 : FnScope n4 ["track", "first", "last"] (defScope s4) := ⟨rfl, rfl, rfl, by decide +kernel, rfl, by decide +kernel, by decide +kernel⟩
theorem g4 (X : K.In h) (G : h.Ns mainGlobals mg) (c : He.SaysD fa fn K) : GoodF (pm K) glob tx tab prog w base mg "between" 4 := by
  obtain ⟨fd, F⟩ := c.def_ 4 (d := d4) rfl
  exact ⟨_, fd, ["track", "first", "last"], He.glo_ok X G (c.fact 4 (f := .glo "between") rfl), F.kp, F.bindsN (ps := ["track", "first", "last"]) (fun _ _ _ _ _ _ us hl => match us, hl with | [_, _, _], _ => rfl), fn_at F sc4 rfl rfl rfl (by decide) k4⟩
theorem sc5 : FnScope n5 ["track", "event"] (defScope s5) := ⟨rfl, rfl, rfl, by decide +kernel, rfl, by decide +kernel, by decide +kernel⟩
theorem g5 (X : K.In h) (G : h.Ns mainGlobals mg) (c : He.SaysD fa fn K) : GoodF (pm K) glob tx tab prog w base mg "inserted" 5 := by
  obtain ⟨fd, F⟩ := c.def_ 5 (d := d5) rfl
  exact ⟨_, fd, ["track", "event"], He.glo_ok X G (c.fact 5 (f := .glo "inserted") rfl), F.kp, F.bindsN (ps := ["track", "event"]) (fun _ _ _ _ _ _ us hl => match us, hl with | [_, _], _ => rfl), fn_at F sc5 rfl rfl rfl (by decide) k5⟩
theorem sc6 : FnScope n6 ["track", "place"] (defScope s6) := ⟨rfl, rfl, rfl, by decide +kernel, rfl, by decide +kernel, by decide +kernel⟩
theorem g6 (X : K.In h) (G : h.Ns mainGlobals mg) (c : He.SaysD fa fn K) : GoodF (pm K) glob tx tab prog w base mg "without" 6 := by
  obtain ⟨fd, F⟩ := c.def_ 6 (d := d6) rfl
  exact ⟨_, fd, ["track", "place"], He.glo_ok X G (c.fact 6 (f := .glo "without") rfl), F.kp, F.bindsN (ps := ["track", "place"]) (fun _ _ _ _ _ _ us hl => match us, hl with | [_, _], _ => rfl), fn_at F sc6 rfl rfl rfl (by decide) k6⟩
theorem sc7 : FnScope n7 ["_law_script", "_law_k"] (defScope s7) := ⟨rfl, rfl, rfl, by decide +kernel, rfl, by decide +kernel, by decide +kernel⟩
theorem g7 (X : K.In h) (G : h.Ns mainGlobals mg) (c : He.SaysD fa fn K) : GoodF (pm K) glob tx tab prog w base mg "_law_cell" 7 := by
  obtain ⟨fd, F⟩ := c.def_ 7 (d := d7) rfl
  exact ⟨_, fd, ["_law_script", "_law_k"], He.glo_ok X G (c.fact 7 (f := .glo "_law_cell") rfl), F.kp, F.bindsN (ps := ["_law_script", "_law_k"]) (fun _ _ _ _ _ _ us hl => match us, hl with | [_, _], _ => rfl), fn_at F sc7 rfl rfl rfl (by decide) k7⟩
theorem sc8 : FnScope n8 ["_law_cell_here", "_law_prime", "_law_many"] (defScope s8) := ⟨rfl, rfl, rfl, by decide +kernel, rfl, by decide +kernel, by decide +kernel⟩
theorem g8 (X : K.In h) (G : h.Ns mainGlobals mg) (c : He.SaysD fa fn K) : GoodF (pm K) glob tx tab prog w base mg "_law_mix" 8 := by
  obtain ⟨fd, F⟩ := c.def_ 8 (d := d8) rfl
  exact ⟨_, fd, ["_law_cell_here", "_law_prime", "_law_many"], He.glo_ok X G (c.fact 8 (f := .glo "_law_mix") rfl), F.kp, F.bindsN (ps := ["_law_cell_here", "_law_prime", "_law_many"]) (fun _ _ _ _ _ _ us hl => match us, hl with | [_, _, _], _ => rfl), fn_at F sc8 rfl rfl rfl (by decide) k8⟩
theorem sc9 : FnScope n9 ["_law_found", "_law_due"] (defScope s9) := ⟨rfl, rfl, rfl, by decide +kernel, rfl, by decide +kernel, by decide +kernel⟩
theorem g9 (X : K.In h) (G : h.Ns mainGlobals mg) (c : He.SaysD fa fn K) : GoodF (pm K) glob tx tab prog w base mg "_law_same" 9 := by
  obtain ⟨fd, F⟩ := c.def_ 9 (d := d9) rfl
  exact ⟨_, fd, ["_law_found", "_law_due"], He.glo_ok X G (c.fact 9 (f := .glo "_law_same") rfl), F.kp, F.bindsN (ps := ["_law_found", "_law_due"]) (fun _ _ _ _ _ _ us hl => match us, hl with | [_, _], _ => rfl), fn_at F sc9 rfl rfl rfl (by decide) k9⟩
theorem sc10 : FnScope n10 ["_law_cell_here"] (defScope s10) := ⟨rfl, rfl, rfl, by decide +kernel, rfl, by decide +kernel, by decide +kernel⟩
theorem g10 (X : K.In h) (G : h.Ns mainGlobals mg) (c : He.SaysD fa fn K) : GoodF (pm K) glob tx tab prog w base mg "_law_deed" 10 := by
  obtain ⟨fd, F⟩ := c.def_ 10 (d := d10) rfl
  exact ⟨_, fd, ["_law_cell_here"], He.glo_ok X G (c.fact 10 (f := .glo "_law_deed") rfl), F.kp, F.bindsN (ps := ["_law_cell_here"]) (fun _ _ _ _ _ _ us hl => match us, hl with | [_], _ => rfl), fn_at F sc10 rfl rfl rfl (by decide) k10⟩
theorem sc11 : FnScope n11 ["_law_cell_here"] (defScope s11) := ⟨rfl, rfl, rfl, by decide +kernel, rfl, by decide +kernel, by decide +kernel⟩
theorem g11 (X : K.In h) (G : h.Ns mainGlobals mg) (c : He.SaysD fa fn K) : GoodF (pm K) glob tx tab prog w base mg "_law_far_deed" 11 := by
  obtain ⟨fd, F⟩ := c.def_ 11 (d := d11) rfl
  exact ⟨_, fd, ["_law_cell_here"], He.glo_ok X G (c.fact 11 (f := .glo "_law_far_deed") rfl), F.kp, F.bindsN (ps := ["_law_cell_here"]) (fun _ _ _ _ _ _ us hl => match us, hl with | [_], _ => rfl), fn_at F sc11 rfl rfl rfl (by decide) k11⟩
theorem sc12 : FnScope n12 ["_law_cell_here", "_law_most"] (defScope s12) := ⟨rfl, rfl, rfl, by decide +kernel, rfl, by decide +kernel, by decide +kernel⟩
theorem g12 (X : K.In h) (G : h.Ns mainGlobals mg) (c : He.SaysD fa fn K) : GoodF (pm K) glob tx tab prog w base mg "_law_track" 12 := by
  obtain ⟨fd, F⟩ := c.def_ 12 (d := d12) rfl
  exact ⟨_, fd, ["_law_cell_here", "_law_most"], He.glo_ok X G (c.fact 12 (f := .glo "_law_track") rfl), F.kp, F.bindsN (ps := ["_law_cell_here", "_law_most"]) (fun _ _ _ _ _ _ us hl => match us, hl with | [_, _], _ => rfl), fn_at F sc12 rfl rfl rfl (by decide) k12⟩
theorem sc13 : FnScope n13 ["_law_track_here"] (defScope s13) := ⟨rfl, rfl, rfl, by decide +kernel, rfl, by decide +kernel, by decide +kernel⟩
theorem g13 (X : K.In h) (G : h.Ns mainGlobals mg) (c : He.SaysD fa fn K) : GoodF (pm K) glob tx tab prog w base mg "_law_end" 13 := by
  obtain ⟨fd, F⟩ := c.def_ 13 (d := d13) rfl
  exact ⟨_, fd, ["_law_track_here"], He.glo_ok X G (c.fact 13 (f := .glo "_law_end") rfl), F.kp, F.bindsN (ps := ["_law_track_here"]) (fun _ _ _ _ _ _ us hl => match us, hl with | [_], _ => rfl), fn_at F sc13 rfl rfl rfl (by decide) k13⟩
theorem g14 (X : K.In h) (G : h.Ns mainGlobals mg) (c : He.SaysD fa fn K) : GoodF (pm K) glob tx tab prog w base mg "_law_word" 14 := by
  obtain ⟨fd, F⟩ := c.def_ 14 (d := d14) rfl
  exact ⟨_, fd, ["_law_kept"], He.glo_ok X G (c.fact 14 (f := .glo "_law_word") rfl), F.kp, F.bindsN (ps := ["_law_kept"]) (fun _ _ _ _ _ _ us hl => match us, hl with | [_], _ => rfl), fun n _ => fn_none rfl n⟩
theorem sc15 : FnScope n15 ["_law_way", "_law_one", "_law_other"] (defScope s15) := ⟨rfl, rfl, rfl, by decide +kernel, rfl, by decide +kernel, by decide +kernel⟩
theorem g15 (X : K.In h) (G : h.Ns mainGlobals mg) (c : He.SaysD fa fn K) : GoodF (pm K) glob tx tab prog w base mg "_law_said" 15 := by
  obtain ⟨fd, F⟩ := c.def_ 15 (d := d15) rfl
  exact ⟨_, fd, ["_law_way", "_law_one", "_law_other"], He.glo_ok X G (c.fact 15 (f := .glo "_law_said") rfl), F.kp, F.bindsN (ps := ["_law_way", "_law_one", "_law_other"]) (fun _ _ _ _ _ _ us hl => match us, hl with | [_, _, _], _ => rfl), fn_at F sc15 rfl rfl rfl (by decide) k15⟩
theorem sc16 : FnScope n16 ["_law_script"] (defScope s16) := ⟨rfl, rfl, rfl, by decide +kernel, rfl, by decide +kernel, by decide +kernel⟩
theorem g16 (X : K.In h) (G : h.Ns mainGlobals mg) (c : He.SaysD fa fn K) : GoodF (pm K) glob tx tab prog w base mg "law" 16 := by
  obtain ⟨fd, F⟩ := c.def_ 16 (d := d16) rfl
  exact ⟨_, fd, ["_law_script"], He.glo_ok X G (c.fact 16 (f := .glo "law") rfl), F.kp, F.bindsN (ps := ["_law_script"]) (fun _ _ _ _ _ _ us hl => match us, hl with | [_], _ => rfl), fn_at F sc16 rfl rfl rfl (by decide) k16⟩
theorem gc0 (X : K.In h) (G : h.Ns mainGlobals mg) (c : He.SaysD fa fn K) : mg "NoteError" = some (.ref ((pm K).cls 0)) ∧ PySem.W.keepIn K (.ref ((pm K).cls 0)) = true ∧ ExcOk K ((pm K).cls 0) := ⟨He.glo_ok X G (c.fact 17 (f := .glo "NoteError") rfl), excOk_of (x := "NoteError") (c.fact 24 (f := .exc "NoteError") rfl)⟩
theorem gc1 (X : K.In h) (G : h.Ns mainGlobals mg) (c : He.SaysD fa fn K) : mg "NoTrack" = some (.ref ((pm K).cls 1)) ∧ PySem.W.keepIn K (.ref ((pm K).cls 1)) = true ∧ ExcOk K ((pm K).cls 1) := ⟨He.glo_ok X G (c.fact 18 (f := .glo "NoTrack") rfl), excOk_of (x := "NoTrack") (c.fact 25 (f := .exc "NoTrack") rfl)⟩
theorem gc2 (X : K.In h) (G : h.Ns mainGlobals mg) (c : He.SaysD fa fn K) : mg "NoEvent" = some (.ref ((pm K).cls 2)) ∧ PySem.W.keepIn K (.ref ((pm K).cls 2)) = true ∧ ExcOk K ((pm K).cls 2) := ⟨He.glo_ok X G (c.fact 19 (f := .glo "NoEvent") rfl), excOk_of (x := "NoEvent") (c.fact 26 (f := .exc "NoEvent") rfl)⟩
theorem gc3 (X : K.In h) (G : h.Ns mainGlobals mg) (c : He.SaysD fa fn K) : mg "NoBar" = some (.ref ((pm K).cls 3)) ∧ PySem.W.keepIn K (.ref ((pm K).cls 3)) = true ∧ ExcOk K ((pm K).cls 3) := ⟨He.glo_ok X G (c.fact 20 (f := .glo "NoBar") rfl), excOk_of (x := "NoBar") (c.fact 27 (f := .exc "NoBar") rfl)⟩
theorem gc4 (X : K.In h) (G : h.Ns mainGlobals mg) (c : He.SaysD fa fn K) : mg "NoKey" = some (.ref ((pm K).cls 4)) ∧ PySem.W.keepIn K (.ref ((pm K).cls 4)) = true ∧ ExcOk K ((pm K).cls 4) := ⟨He.glo_ok X G (c.fact 21 (f := .glo "NoKey") rfl), excOk_of (x := "NoKey") (c.fact 28 (f := .exc "NoKey") rfl)⟩
theorem gc5 (X : K.In h) (G : h.Ns mainGlobals mg) (c : He.SaysD fa fn K) : mg "NoBytes" = some (.ref ((pm K).cls 5)) ∧ PySem.W.keepIn K (.ref ((pm K).cls 5)) = true ∧ ExcOk K ((pm K).cls 5) := ⟨He.glo_ok X G (c.fact 22 (f := .glo "NoBytes") rfl), excOk_of (x := "NoBytes") (c.fact 29 (f := .exc "NoBytes") rfl)⟩
theorem gc6 (X : K.In h) (G : h.Ns mainGlobals mg) (c : He.SaysD fa fn K) : mg "NoText" = some (.ref ((pm K).cls 6)) ∧ PySem.W.keepIn K (.ref ((pm K).cls 6)) = true ∧ ExcOk K ((pm K).cls 6) := ⟨He.glo_ok X G (c.fact 23 (f := .glo "NoText") rfl), excOk_of (x := "NoText") (c.fact 30 (f := .exc "NoText") rfl)⟩
theorem scw : FnScope ["_law_kept", "_law_kinds"] ["_law_kept"] (defScope s14) := ⟨rfl, rfl, rfl, by decide +kernel, rfl, by decide +kernel, by decide +kernel⟩
theorem gtop (X : K.In h) (G : h.Ns mainGlobals mg) (c : SaysN fa fn cs exB K) : Top (pm K) glob tx tab prog w base mg where
  glob := fun x k e => by
    have hall : ∀ p ∈ glL, ∃ u v d, mg p.1 = some u ∧ RelV v u ∧ glob p.2 = some d ∧ ∀ M H, RV (pm K) M H d v := by
      simp only [glL, List.forall_mem_cons]
      exact ⟨gk X G c.2.1 0 rfl rfl, fun _ z => nomatch z⟩
    exact hall _ (lookup_mem e)
  fn := fun x f e => by
    have hall : ∀ p ∈ fnL, GoodF (pm K) glob tx tab prog w base mg p.1 p.2 := by
      simp only [fnL, List.forall_mem_cons]
      exact ⟨g0 X G c.1, g1 X G c.1, g2 X G c.1, g3 X G c.1, g4 X G c.1, g5 X G c.1, g6 X G c.1, g7 X G c.1, g8 X G c.1, g9 X G c.1, g10 X G c.1, g11 X G c.1, g12 X G c.1, g13 X G c.1, g14 X G c.1, g15 X G c.1, g16 X G c.1, fun _ z => nomatch z⟩
    exact hall _ (lookup_mem e)
  cl := fun x k e => by
    have hall : ∀ p ∈ clL, mg p.1 = some (.ref ((pm K).cls p.2)) ∧ PySem.W.keepIn K (.ref ((pm K).cls p.2)) = true ∧ ExcOk K ((pm K).cls p.2) := by
      simp only [clL, List.forall_mem_cons]
      exact ⟨gc0 X G c.1, gc1 X G c.1, gc2 X G c.1, gc3 X G c.1, gc4 X G c.1, gc5 X G c.1, gc6 X G c.1, fun _ z => nomatch z⟩
    exact hall _ (lookup_mem e)
  blt := by
    simp only [List.forall_mem_cons]
    exact ⟨He.free_ok X G (c.1.fact 31 (f := .free "len") rfl), He.free_ok X G (c.1.fact 32 (f := .free "tuple") rfl), He.free_ok X G (c.1.fact 33 (f := .free "list") rfl), He.free_ok X G (c.1.fact 34 (f := .free "sorted") rfl), He.free_ok X G (c.1.fact 35 (f := .free "all") rfl), He.free_ok X G (c.1.fact 36 (f := .free "sum") rfl), He.free_ok X G (c.1.fact 37 (f := .free "max") rfl), He.free_ok X G (c.1.fact 38 (f := .free "min") rfl), He.free_ok X G (c.1.fact 39 (f := .free "abs") rfl), He.free_ok X G (c.1.fact 40 (f := .free "int") rfl), He.free_ok X G (c.1.fact 41 (f := .free "str") rfl), He.free_ok X G (c.1.fact 42 (f := .free "bool") rfl), He.free_ok X G (c.1.fact 43 (f := .free "isinstance") rfl), He.free_ok X G (c.1.fact 44 (f := .free "range") rfl), He.free_ok X G (c.1.fact 45 (f := .free "zip") rfl), He.free_ok X G (c.1.fact 46 (f := .free "enumerate") rfl), He.free_ok X G (c.1.fact 47 (f := .free "set") rfl), He.free_ok X G (c.1.fact 48 (f := .free "dict") rfl), fun _ z => nomatch z⟩
  wd := fun x e k z hz => by
    cases (show some ("_law_word" : Str) = some x from e)
    obtain ⟨fd, F⟩ := c.1.def_ 14 (d := d14) rfl
    obtain ⟨h1, h2⟩ := wd_all (P := prog) (w := w) (mg := mg) (base := base) (cls := (pm K).cls) c.2.2 F scw (by kernel_rfl) ⟨by kernel_rfl, by kernel_rfl⟩ (by kernel_rfl) ⟨by decide, by decide⟩ ⟨by decide, by decide⟩ (He.free_ok X G (c.1.fact 43 (f := .free "isinstance") rfl)) (He.free_ok X G (c.1.fact 49 (f := .free "ValueError") rfl)) (fun i hi => match i, hi with | 0, _ => He.glo_ok X G (c.1.fact 18 (f := .glo "NoTrack") rfl) | 1, _ => He.glo_ok X G (c.1.fact 19 (f := .glo "NoEvent") rfl) | 2, _ => He.glo_ok X G (c.1.fact 20 (f := .glo "NoBar") rfl) | 3, _ => He.glo_ok X G (c.1.fact 21 (f := .glo "NoKey") rfl) | 4, _ => He.glo_ok X G (c.1.fact 22 (f := .glo "NoBytes") rfl) | 5, _ => He.glo_ok X G (c.1.fact 23 (f := .glo "NoText") rfl)) (fun i hi => match i, hi with | 0, _ => rfl | 1, _ => rfl | 2, _ => rfl | 3, _ => rfl | 4, _ => rfl | 5, _ => rfl) rfl hz
    exact ⟨_, fd, "_law_kept", He.glo_ok X G (c.1.fact 14 (f := .glo "_law_word") rfl), F.kp, F.bindsN (ps := ["_law_kept"]) (fun _ _ _ _ _ _ us hl => match us, hl with | [_], _ => rfl), h1, h2⟩
end
def spLaw (K : PySem.W.Frag) : Sp := fun vs H Q _ => spF (pm K) (run glob tab 40 16) vs H Q fun _ _ _ => False
theorem facts {P : Program} {w : World} {K : PySem.W.Frag} {h : Heap} {mg : Str → Option Value} {f : Addr} (X : K.In h) (G : h.Ns mainGlobals mg) (hfa : mg ("law" : Str) = some (.ref f)) (c : SaysN fa fn cs exB K) :
    ∃ fd : FuncData, (∀ (s : Shared) (v : Value), BindsTo s fd ⟨[v], []⟩ [("_law_script", v)]) ∧ ∀ base : Heap, K.In base → base.Ns mainGlobals mg → FnOk P w K mg base CX0 41 f fd ["_law_script"] (spLaw K) := by
  obtain ⟨fd, F⟩ := c.1.def_ 16 (d := d16) rfl
  have e := hfa.symm.trans (He.glo_ok X G (c.1.fact 16 (f := .glo "law") rfl))
  cases e
  have b := FunD.bindsA (ps := ["_law_script"]) F fun _ _ _ _ _ _ us hl => match us, hl with | [_], _ => rfl
  exact ⟨fd, fun s v => b s [v] rfl, fun base _ _ => fn_calm (fn_at (Tb := tab) (f := 16) F sc16 rfl rfl rfl (by decide) k16 39 ((gtop X G c).kn 39))⟩
theorem main (ns : List Int) (h : ns.length ≤ 63) (hB : ∀ z ∈ ns, Nt.Bits z 1048576) : ∃ s, run glob tab 40 16 [.val (.scr ns)] [] = .ok (.bl true) s := law03 (G := glob) (T := tab) (n := 34) rfl rfl rfl rfl rfl rfl rfl rfl rfl rfl rfl rfl rfl rfl rfl rfl rfl ns hB
end Nt.K03
open PySem PySem.W PySem.Calls PyProof.Rows in
theorem PySem.Challenge.cw_notetracks_k03_deltas_holds : PySem.Challenge.rw_notetracks_k03_deltas.Holds := by
  w_on; o_law
  refine HandSHeadRun.head_any (r := OpenLaw.row PySem.Challenge.rw_notetracks_k03_deltas) (q := view (OpenLaw.row PySem.Challenge.rw_notetracks_k03_deltas).prog [27]) (H := Nt.K03.hk) (ob := Nt.K03.ob) (M := 5600) (loose := Nt.K03.names) (d := HandSHeadRun.topDef (OpenLaw.row PySem.Challenge.rw_notetracks_k03_deltas).prog 27) (kwd := []) Nt.K03.ob_eq
    (by kernel_rfl) (fun s => by kernel_rfl) Nt.K03.run_top (by kernel_rfl) (by kernel_rfl) (by kernel_rfl) (by rfl) (by first | assumption | decide +kernel) (by decide +kernel) ⟨rfl, rfl, rfl, rfl, rfl, by decide +kernel⟩ ?hw ?hc
  case hw => w_witness2
  case hc =>
    refine Nt.walk_ofEB (l := PySem.Challenge.rw_notetracks_k03_deltas) (n := 63) (k := 41) (x := "_law_script") (CX := L2.CX0) rfl (by decide) (by kernel_rfl) ⟨rfl, by decide, by decide⟩ ?F (fun _ _ _ _ z => z)
    intro w mg fa h Y G hmg0
    obtain ⟨K, KX, c⟩ := Y
    have hmg : mg ("law" : PySem.Str) = some (.ref fa) := by
      have e : (HandSHeadRun.topDef (OpenLaw.row PySem.Challenge.rw_notetracks_k03_deltas).prog 27).name = ("law" : PySem.Str) := by kernel_rfl
      rw [← e]
      exact hmg0
    obtain ⟨fd, hb, hF⟩ := Nt.K03.facts (P := (PySem.Challenge.rw_notetracks_k03_deltas).prog) (w := w) KX G hmg c
    refine ⟨K, fd, Nt.K03.spLaw K, KX, hb, fun H a ns hl hB _ hS => ?_, hF⟩
    obtain ⟨s', hs⟩ := Nt.K03.main ns hl hB
    exact Nt.law_sp (P := Nt.K03.pm K) hs hS
