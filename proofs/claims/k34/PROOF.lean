import PyProof.Rows.All
import PySem.Str
import Wide.All
import OpenK.AllK
import Wide.FinOn
import PyProof.EqAt
import PyProof.EqKinds
import PyProof.TupleCall
import HandS.Base
import HandS.Call
import HandS.List
import HandS.Comp
import HandS.Ends
import HandS.Dict
import HandS.Iter
import HandS.Text
import HandS.Exc
import HandS.TryOnly
import HandS.TupLe
import HandS.ExcOwn
import HandS.Words
import HandS.WordsDict
import HandS.Conv
import HandS.NoneIn
import HandS.Style
import HandS.WordsList
import HandS.WordsExc
import HandS.Wide
import HandS.Zip
import HandS.TupAny
import HandS.CallSlots
import PyProof.ExcBaseAll.ValueError
import KE.GoesEnum
import HandS.IsInst
import HandS.TupSets
import HandS.Sort
import HandS.SortOrd
import HandS.SortRule
import HandS.SortInts
import HandS.Strs
import HandS.SetFor
import HandS.ExcIs
import HandS.ExcBuiltin
import HandS.Deep
import KE.KSortTupAny
import PySem.Challenge.RW_tracklines_k34_whole_grids_held
set_option Elab.async false
set_option linter.all false
set_option autoImplicit false
/-! F1: data, small syntax, evaluator (plain Lean). -/
namespace PD
open PySem
/-- values by value; dicts as their pairs; exc: an exception's class by its number -/
inductive D where
  | non | bl (b : Bool) | int (i : Int) | str (x : Str)
  | tup (xs : List D) | lst (xs : List D) | dic (t : Bool) (kvs : List (D × D)) | exc (c : Nat)
  /-- the script -/
  | scr (ns : List Int)
inductive Slot where
  | no | sh (d : D) | ow (d : D) | lk (d : D)
/-- an operand: a value, or the list that stands in a slot -/
inductive Opd where
  | val (d : D) | bor (i : Nat)
/-- a run's end -/
inductive Res (α : Type) where
  | ok (a : α) (st : List Slot) | exc (c : Nat) (st : List Slot) | bad
/-- how a statement goes on -/
inductive Fl where
  | nx | rt (fr : Bool) (d : D) | bk | ct
abbrev RE := Res (Bool × D)
abbrev RS := Res Fl
/-- what a def hands back -/
inductive FR where
  | ok (fr : Bool) (d : D) | exc (c : Nat) | bad
def Res.th {α β : Type} (r : Res α) (f : α → List Slot → Res β) : Res β := match r with | ok a st => f a st | exc c st => .exc c st | bad => .bad
theorem Res.th_ok {α β : Type} (a : α) (st : List Slot) (f : α → List Slot → Res β) : (Res.ok a st).th f = f a st := rfl
theorem Res.th_exc {α β : Type} (c : Nat) (st : List Slot) (f : α → List Slot → Res β) : (Res.exc c st : Res α).th f = .exc c st := rfl
theorem Res.th_bad {α β : Type} (f : α → List Slot → Res β) : (Res.bad : Res α).th f = .bad := rfl
/-- a bool's two ways -/
def br {β : Type} (f g : List Slot → Res β) (a : Bool × D) (st : List Slot) : Res β := match a.2 with | .bl b => if b then f st else g st | _ => .bad
def ret (d : D) (st : List Slot) : RE := .ok (false, d) st
/-! ### syntax -/
inductive Bop where
  | add | sub | mul | fdiv | mod | pow
inductive Cop where
  | eq | ne | lt | le | gt | ge | isIn | notIn | is | isNot
inductive Bi where
  | len | abs | min | max | sum | any | all | sorted | tuple | list | dict | int | str | lenSet | sortedSet | lstRng | tupRng
  | isInt | isBool | isTuple | isList | isStr | isExc (c n : Nat)
inductive Mt where
  | count | index | get | join | split
inductive Itk where
  | seq | range | zip | enum
mutual
inductive Tg where
  | nm (i : Nat) | tup (ts : Tgs)
inductive Tgs where
  | nil | cons (t : Tg) (ts : Tgs)
end
inductive Cst where
  | non | bl (b : Bool) | int (i : Int) | str (x : Str)
mutual
inductive E where
  | c (k : Cst) | v (i : Nat) | g (k : Cst) (x : Str)
  | tup (es : Es) | lst (es : Es) | dic (t : Bool) (ks vs : Es)
  | bin (o : Bop) (a b : E) | neg (a : E) | not (a : E) | and (a b : E) | or (a b : E)
  | cmp (o : Cop) (a b : E) | chain (o o' : Cop) (a b c : E)
  | ite (c a b : E)
  | call (f : Nat) (es : Es) | callIx (fs : List Nat) (i : E) (es : Es)
  | bi (n : Bi) (es : Es)
  | ix (a b : E) | slF (a lo : E) | slT (a hi : E) | sl (a lo hi : E) | rev (a : E) | even (a : E)
  | lc (elt : E) (tg : Tg) (k : Itk) (es : Es) (cond : Es) (own : List Nat)
  | mt (m : Mt) (a : E) (es : Es)
  | pop (i : Nat) | popAt (i : Nat) (a : E)
inductive Es where
  | nil | cons (e : E) (es : Es)
end
mutual
inductive S where
  | ex (e : E) | asg (t : Tg) (e : E) | par (ts : Tgs) (es : Es)
  | app (i : Nat) (e : E) | ext (i : Nat) (e : E) | setIx (i : Nat) (k e : E) | rvs (i : Nat)
  | iff (c : E) (a b : Ss) | whl (c : E) (b : Ss) | for_ (t : Tg) (k : Itk) (es : Es) (b : Ss)
  | ret (e : E) | retN | raise (c : Nat)
  | tryKeep (b : Ss) (c n i j : Nat) | tryC (b : Ss) (c : Nat) (h : Ss)
inductive Ss where
  | nil | cons (s : S) (ss : Ss)
end
/-- a def: its number of parameters, of slots, its body -/
structure FD where
  np : Nat
  ns : Nat
  body : Ss
/-! ### operations on data -/
/-- data that == takes: no dict, no exception, not too deep -/
def okN : Nat → D → Bool
  | _, .non => true | _, .bl _ => true | _, .int _ => true | _, .str x => x.cps.all (· < 0x110000)
  | n + 1, .tup xs => xs.all (okN n)
  | n + 1, .lst xs => xs.all (okN n)
  | _, _ => false
mutual
def dEq : D → D → Bool
  | .non, .non => true
  | .bl a, .bl b => a == b
  | .bl a, .int b => (if a then 1 else 0) == b
  | .int a, .bl b => a == (if b then 1 else 0)
  | .int a, .int b => a == b
  | .str a, .str b => a == b
  | .tup a, .tup b => dEqs a b
  | .lst a, .lst b => dEqs a b
  | _, _ => false
def dEqs : List D → List D → Bool
  | [], [] => true
  | a :: as, b :: bs => dEq a b && dEqs as bs
  | _, _ => false
end
def BIG : Nat := 2 ^ 4000
def SZ : Nat := 1000000
def mulOk (i j : Int) : Prop := (i.natAbs < 2 ^ 64 ∨ j.natAbs < 2 ^ 64) ∨ (i.natAbs < BIG ∧ j.natAbs < BIG)
instance (i j : Int) : Decidable (mulOk i j) := inferInstanceAs (Decidable (_ ∨ _))
def divOk (j : Int) : Prop := 0 < j ∧ j.natAbs < BIG
instance (j : Int) : Decidable (divOk j) := inferInstanceAs (Decidable (_ ∧ _))
def powOk (i j : Int) : Prop := 0 ≤ j ∧ j ≤ 1000 ∧ i.natAbs < 2 ^ 64
instance (i j : Int) : Decidable (powOk i j) := inferInstanceAs (Decidable (_ ∧ _))
def binD : Bop → D → D → Option (Bool × D)
  | .add, .int i, .int j => some (false, .int (i + j))
  | .add, .str x, .str y => if x.length + y.length ≤ SZ then some (false, .str (x ++ y)) else none
  | .add, .tup x, .tup y => if x.length + y.length ≤ SZ then some (false, .tup (x ++ y)) else none
  | .add, .lst x, .lst y => if x.length + y.length ≤ SZ then some (true, .lst (x ++ y)) else none
  | .sub, .int i, .int j => some (false, .int (i - j))
  | .mul, .int i, .int j => if mulOk i j then some (false, .int (i * j)) else none
  | .mul, .lst x, .int j => if j ≤ 1000 ∧ 0 ≤ j ∧ x.length ≤ 1000 then some (true, .lst ((List.replicate j.toNat x).flatten)) else none
  | .fdiv, .int i, .int j => if divOk j then some (false, .int (i / j)) else none
  | .mod, .int i, .int j => if 0 < j then some (false, .int (i % j)) else none
  | .pow, .int i, .int j => if powOk i j then some (false, .int (i ^ j.toNat)) else none
  | _, _, _ => none
/-- == by values (a dict or an exception is not asked) -/
def eqD : D → D → Option Bool
  | .scr ns, .lst [] => some ns.isEmpty
  | x, y => if okN 60 x && okN 60 y then some (dEq x y) else none
def isScal : D → Bool
  | .int _ => true | .str _ => true | _ => false
/-- a key of a dict whose keys are intsD and texts, or (t) tuples of such -/
def keyOk : Bool → D → Bool
  | false, .int _ => true | false, .str _ => true | true, .tup xs => xs.all isScal | _, _ => false
/-- a key's value among the pairs -/
def dlook (k : D) : List (D × D) → Option D
  | [] => none
  | (q, v) :: r => if dEq q k then some v else dlook k r
def dput (k v : D) (kvs : List (D × D)) : List (D × D) :=
  if (kvs.any fun kv => dEq kv.1 k) = true then kvs.map (fun kv => if dEq kv.1 k = true then (kv.1, v) else kv) else kvs ++ [(k, v)]
def ddrop (k : D) (kvs : List (D × D)) : List (D × D) := kvs.filter fun kv => !dEq kv.1 k
def inD (x : D) : D → Option Bool
  | .lst ys => if okN 60 x && okN 60 (.lst ys) then some (ys.any fun y => dEq y x) else none
  | .tup ys => if okN 60 x && okN 60 (.tup ys) then some (ys.any fun y => dEq y x) else none
  | _ => none
def icmp (f : Int → Int → Bool) : D → D → Option Bool
  | .int i, .int j => some (f i j)
  | _, _ => none
/-- at most, whole numbers or pairs of them -/
def leD : D → D → Option Bool
  | .int i, .int j => some (decide (i ≤ j))
  | .tup [.int a, .int b], .tup [.int c, .int d] => some (decide (a < c ∨ (a = c ∧ b ≤ d)))
  | _, _ => none
def isC : D → D → Option Bool
  | x, .non => match x with | .non => some true | _ => some false
  | .bl a, .bl b => some (a == b)
  | _, _ => none
def cmpD : Cop → D → D → Option Bool
  | .eq => fun x y => eqD x y
  | .ne => fun x y => (eqD x y).map (!·)
  | .lt => icmp fun i j => decide (i < j)
  | .le => leD
  | .gt => icmp fun i j => decide (j < i)
  | .ge => icmp fun i j => decide (j ≤ i)
  | .isIn => inD
  | .notIn => fun x y => (inD x y).map (!·)
  | .is => isC
  | .isNot => fun x y => (isC x y).map (!·)
def ixAt (n : Nat) (i : Int) : Option Nat := if 0 ≤ i then (if i < n then some i.toNat else none) else if -(n : Int) ≤ i then some (i + n).toNat else none
def atD (xs : List D) (i : Int) : Option D := (ixAt xs.length i).bind fun j => xs[j]?
def ixD : D → D → Option D
  | .scr xs, .int i => (ixAt xs.length i).bind fun j => (xs[j]?).map .int
  | .lst xs, .int i => atD xs i
  | .tup xs, .int i => atD xs i
  | .str x, .int i => if x.length ≤ SZ then (ixAt x.length i).bind fun j => (x.cps.toList[j]?).map fun c => .str ⟨#[c]⟩ else none
  | .dic t kvs, k => if keyOk t k then dlook k kvs else none
  | _, _ => none
/-- a slice's bound as a place among n -/
def cutIx (n : Nat) (v : Int) : Nat := if v < 0 then (v + (n : Int)).toNat else min v.toNat n
def cut {α : Type} (xs : List α) (lo hi : Nat) : List α := (xs.drop lo).take (hi - lo)
def slD (x : D) (lo hi : Option Int) : Option (Bool × D) := match x with
  | .lst xs => some (true, .lst (cut xs ((lo.map (cutIx xs.length)).getD 0) ((hi.map (cutIx xs.length)).getD xs.length)))
  | .tup xs => some (false, .tup (cut xs ((lo.map (cutIx xs.length)).getD 0) ((hi.map (cutIx xs.length)).getD xs.length)))
  | .str x => if x.length ≤ SZ then some (false, .str ⟨(cut x.cps.toList ((lo.map (cutIx x.length)).getD 0) ((hi.map (cutIx x.length)).getD x.length)).toArray⟩) else none
  | _ => none
def evens {α : Type} : List α → List α
  | [] => []
  | [a] => [a]
  | a :: _ :: r => a :: evens r
/-- intsD of a list of data -/
def intsD : List D → Option (List Int)
  | [] => some []
  | .int i :: r => (intsD r).map (i :: ·)
  | _ => none
def boolsD : List D → Option (List Bool)
  | [] => some []
  | .bl i :: r => (boolsD r).map (i :: ·)
  | _ => none
def maxI : List Int → Int
  | [] => 0
  | a :: r => r.foldl (fun m x => if x > m then x else m) a
def minI : List Int → Int
  | [] => 0
  | a :: r => r.foldl (fun m x => if x < m then x else m) a
def itemsD : D → Option (List D)
  | .lst xs => some xs
  | .tup xs => some xs
  | _ => none
end PD
namespace PD
open PySem
/-! ### sorting -/
def pI (p : Int × Int) : D := .tup [.int p.1, .int p.2]
def pairI : D → Option (Int × Int)
  | .tup [.int a, .int b] => some (a, b)
  | _ => none
def pairsI : List D → Option (List (Int × Int))
  | [] => some []
  | x :: r => match pairI x, pairsI r with
    | some a, some b => some (a :: b)
    | _, _ => none
/-- pairs in their order -/
def pLe (a b : Int × Int) : Bool := decide (a.1 < b.1 ∨ (a.1 = b.1 ∧ a.2 ≤ b.2))
/-- distinct ones, in the order in which they are met -/
def dedP (ps : List (Int × Int)) : List (Int × Int) := ps.foldl (fun σ k => if σ.any (· == k) then σ else σ ++ [k]) []
/-- data that < takes: whole numbers, texts, tuples of such -/
def okO : Nat → D → Bool
  | _, .int _ => true
  | _, .str x => x.cps.all (· < 0x110000)
  | n + 1, .tup xs => xs.all (okO n)
  | _, _ => false
def rk : D → Nat
  | .int _ => 0 | .str _ => 1 | .tup _ => 2 | _ => 3
mutual
/-- Python's order -/
def ltQ : D → D → Bool
  | .int a, .int b => decide (a < b)
  | .str x, .str y => decide (x.cps.toList < y.cps.toList)
  | .tup xs, .tup ys => ltQs xs ys
  | x, y => decide (rk x < rk y)
termination_by x y => sizeOf x + sizeOf y
def ltQs : List D → List D → Bool
  | [], [] => false
  | [], _ :: _ => true
  | _ :: _, [] => false
  | x :: xs, y :: ys => ltQ x y || (!ltQ y x && ltQs xs ys)
termination_by xs ys => sizeOf xs + sizeOf ys
end
mutual
/-- of one kind at each place -/
def sameK : D → D → Bool
  | .int _, .int _ => true
  | .str _, .str _ => true
  | .tup xs, .tup ys => sameKs xs ys
  | _, _ => false
def sameKs : List D → List D → Bool
  | x :: xs, y :: ys => sameK x y && sameKs xs ys
  | _, _ => true
end
def leQ (a b : D) : Bool := !ltQ b a
/-- texts of a list of data -/
def strsD : List D → Option (List Str)
  | [] => some []
  | .str x :: r => (strsD r).map (x :: ·)
  | _ => none
/-- tuples that can be sorted -/
def okSort (xs : List D) : Bool := xs.all (okO 20) && xs.all (fun x => xs.all fun y => sameK x y) && xs.all fun x => match x with | .tup (_ :: _) => true | _ => false
def sortD2 (xs : List D) : Option (List D) :=
  if 63 < xs.length then none else
  match intsD xs with
  | some ns => some ((ns.mergeSort fun a b => decide (a ≤ b)).map .int)
  | none => match pairsI xs with
    | some ps => some ((ps.mergeSort pLe).map pI)
    | none => none
def sortD (xs : List D) : Option (List D) := match sortD2 xs with
  | some ys => some ys
  | none => if decide (xs.length ≤ 63) && ((strsD xs).isSome || okSort xs) then some (xs.mergeSort leQ) else none
def sortSetD (xs : List D) : Option (List D) :=
  if 63 < xs.length then none else
  match pairsI xs with
  | some ps => some (((dedP ps).mergeSort pLe).map pI)
  | none => none
def seqD : D → Option (List D)
  | .lst xs => some xs
  | .tup xs => some xs
  | _ => none
def pairsD : List D → Option (List (D × D))
  | [] => some []
  | .tup [k, v] :: r => if keyOk false k then (pairsD r).map ((k, v) :: ·) else none
  | _ => none
/-- class 0: TrackError, class 100: ValueError, over all others -/
def excIs (c k : Nat) : Bool := c == k || c == 0 || c == 100
def isD : Bi → D → Bool
  | .isInt, .int _ => true | .isInt, .bl _ => true
  | .isBool, .bl _ => true
  | .isTuple, .tup _ => true
  | .isList, .lst _ => true
  | .isStr, .str _ => true
  | .isExc c _, .exc k => excIs c k
  | _, _ => false
def sh1 (d : D) : Option (Bool × D) := some (false, d)
def lenB : List D → Option (Bool × D)
  | [.scr xs] => sh1 (.int xs.length)
  | [.lst xs] => sh1 (.int xs.length)
  | [.tup xs] => sh1 (.int xs.length)
  | [.dic false xs] => sh1 (.int xs.length)
  | [.str x] => if x.length ≤ SZ then sh1 (.int x.length) else none
  | _ => none
def absB : List D → Option (Bool × D)
  | [.int i] => sh1 (.int (if i < 0 then -i else i))
  | _ => none
def maxB : List D → Option (Bool × D)
  | [.int i, .int j] => sh1 (.int (if j > i then j else i))
  | [.lst xs] => match intsD xs with | some (a :: r) => sh1 (.int (maxI (a :: r))) | _ => none
  | _ => none
def minB : List D → Option (Bool × D)
  | [.int i, .int j] => sh1 (.int (if j < i then j else i))
  | [.lst xs] => match intsD xs with | some (a :: r) => sh1 (.int (minI (a :: r))) | _ => none
  | _ => none
def sumB : List D → Option (Bool × D)
  | [.lst xs] => (intsD xs).map fun ns => (false, .int ns.sum)
  | _ => none
def anyB : List D → Option (Bool × D)
  | [.lst xs] => (boolsD xs).map fun bs => (false, .bl (bs.any id))
  | _ => none
def allB : List D → Option (Bool × D)
  | [.lst xs] => (boolsD xs).map fun bs => (false, .bl (bs.all id))
  | _ => none
def tupleB : List D → Option (Bool × D)
  | [.lst xs] => sh1 (.tup xs)
  | [.tup xs] => sh1 (.tup xs)
  | _ => none
def listB : List D → Option (Bool × D)
  | [.lst xs] => some (true, .lst xs)
  | [.tup xs] => some (true, .lst xs)
  | [.dic false xs] => some (true, .lst (xs.map (·.1)))
  | _ => none
def sortedB2 : List D → Option (Bool × D)
  | [.lst xs] => (sortD2 xs).map fun ys => (true, .lst ys)
  | _ => none
def sortedB : List D → Option (Bool × D)
  | [.lst xs] => (sortD xs).map fun ys => (true, .lst ys)
  | _ => none
/-- distinct ones, in the order in which they are met -/
def dedI (ns : List Int) : List Int := ns.foldl (fun σ k => if σ.any (· == k) then σ else σ ++ [k]) []
def sortedSetB : List D → Option (Bool × D)
  | [.lst xs] => (sortSetD xs).map fun ys => (true, .lst ys)
  | [.tup xs] => match intsD xs with
    | some ns => if ns.length ≤ 63 then some (true, .lst (((dedI ns).mergeSort fun a b => decide (a ≤ b)).map .int)) else none
    | none => none
  | _ => none
def lenSetB : List D → Option (Bool × D)
  | [.lst xs] => match intsD xs with
    | some ns => if ns.length ≤ 63 then some (false, .int (dedI ns).length) else none
    | none => match pairsI xs with
      | some ps => if ps.length ≤ 63 then some (false, .int (dedP ps).length) else none
      | none => none
  | _ => none
def intB : List D → Option (Bool × D)
  | [.int i] => sh1 (.int i)
  | [.bl b] => sh1 (.int (if b then 1 else 0))
  | _ => none
def strB : List D → Option (Bool × D)
  | [.int i] => if i.natAbs < BIG then sh1 (.str (toString i)) else none
  | _ => none
def dictB : List D → Option (Bool × D)
  | [.dic t xs] => some (true, .dic t xs)
  | _ => none
/-- served questions -/
def okIs : Bi → D → Bool
  | .isExc _ n, .exc k => decide (k < n)
  | .isExc _ _, _ => false
  | .isInt, .scr _ => false | .isInt, .exc _ => false
  | .isBool, .scr _ => false | .isBool, .exc _ => false
  | .isTuple, .scr _ => false | .isTuple, .exc _ => false
  | .isList, .scr _ => false | .isList, .exc _ => false
  | .isStr, .scr _ => false | .isStr, .exc _ => false
  | _, _ => true
def isB (b : Bi) : List D → Option (Bool × D)
  | [x] => if okIs b x then sh1 (.bl (isD b x)) else none
  | _ => none
def rangeL (a : Int) (n : Nat) : List D := (List.range n).map fun (k : Nat) => D.int (a + (k : Int))
def rangeC (a c : Int) (n : Nat) : List D := (List.range n).map fun (k : Nat) => D.int (a + (k : Int) * c)
/-- how many turns range(a, b, c) has, c above nought -/
def stepN (a b c : Int) : Nat := if a < b then ((b - a - 1) / c + 1).toNat else 0
/-- what a range of whole numbers holds -/
def rngD : List D → Option (List D)
  | [.int n] => if -10000 ≤ n ∧ n ≤ 10000 then some (rangeL 0 n.toNat) else none
  | [.int a, .int b] => if (-10000 ≤ a ∧ a ≤ 10000) ∧ -10000 ≤ b ∧ b ≤ 10000 then some (rangeL a (b - a).toNat) else none
  | [.int a, .int b, .int c] => if ((-10000 ≤ a ∧ a ≤ 10000) ∧ -10000 ≤ b ∧ b ≤ 10000) ∧ 1 ≤ c ∧ c ≤ 1000000 then some (rangeC a c (stepN a b c)) else none
  | _ => none
def lstRngB (ds : List D) : Option (Bool × D) := (rngD ds).map fun xs => (true, .lst xs)
def tupRngB (ds : List D) : Option (Bool × D) := (rngD ds).map fun xs => (false, .tup xs)
def biD : Bi → List D → Option (Bool × D)
  | .len => lenB | .abs => absB | .max => maxB | .min => minB | .sum => sumB | .any => anyB | .all => allB | .tuple => tupleB | .list => listB
  | .sorted => sortedB | .sortedSet => sortedSetB | .lenSet => lenSetB | .lstRng => lstRngB | .tupRng => tupRngB | .int => intB | .str => strB | .dict => dictB
  | b => isB b
def countD (x : D) : List D → Nat
  | [] => 0
  | y :: r => (if dEq y x then 1 else 0) + countD x r
def indexD (x : D) : List D → Option Nat
  | [] => none
  | y :: r => if dEq y x then some 0 else (indexD x r).map (· + 1)
def mtD : Mt → D → List D → Option (Bool × D)
  | .count, .lst xs, [x] => if okN 60 x && okN 60 (.lst xs) then some (false, .int (countD x xs)) else none
  | .index, .lst xs, [x] => if okN 60 x && okN 60 (.lst xs) then (match indexD x xs with | some n => some (false, .int (n : Nat)) | none => none) else none
  | .get, .dic t kvs, [k, x] => if keyOk t k then some (false, (dlook k kvs).getD x) else none
  | _, _, _ => none
/-- served receivers -/
def isDicO : Option D → Bool
  | some (.dic _ _) => true
  | _ => false
def isLstO : Option D → Bool
  | some (.lst _) => true
  | _ => false
def isStrO : Option D → Bool
  | some (.str _) => true
  | _ => false
def mtOk (m : Mt) (o : Option D) : Bool := match m with
  | .get => isDicO o
  | .count => isLstO o
  | .index => isLstO o
  | .join => isStrO o
  | .split => isStrO o
/-! ### slots -/
def rd (i : Nat) (st : List Slot) : RE := match st[i]? with
  | some (.sh d) => .ok (false, d) st
  | some (.ow d) => .ok (false, d) (st.set i (.sh d))
  | some (.lk d) => .ok (false, d) (st.set i (.sh d))
  | _ => .bad
/-- a name as an operand that is looked at at once -/
def rdO (i : Nat) (st : List Slot) : Res Opd := match st[i]? with
  | some (.sh d) => .ok (.val d) st
  | some (.ow _) => .ok (.bor i) st
  | some (.lk _) => .ok (.bor i) st
  | _ => .bad
def opnd (e : E) (f : List Slot → RE) (st : List Slot) : Res Opd := match e with
  | .v i => rdO i st
  | _ => (f st).th fun a st => .ok (.val a.2) st
/-- what an operand is when it is looked at -/
def rs1 (st : List Slot) : Opd → Option D
  | .val d => some d
  | .bor i => match st[i]? with | some (.ow d) => some d | some (.lk d) => some d | _ => none
def rsAll (st : List Slot) : List Opd → Option (List D)
  | [] => some []
  | o :: r => match rs1 st o, rsAll st r with | some d, some ds => some (d :: ds) | _, _ => none
def outE (o : Option (Bool × D)) (st : List Slot) : RE := match o with | some a => .ok a st | none => .bad
def outB (o : Option Bool) (st : List Slot) : RE := match o with | some b => .ok (false, .bl b) st | none => .bad
def outD (o : Option D) (st : List Slot) : RE := match o with | some b => .ok (false, b) st | none => .bad
def outF (r : FR) (st : List Slot) : RE := match r with | .ok fr d => .ok (fr, d) st | .exc c => .exc c st | .bad => .bad
def cst : Cst → D
  | .non => .non | .bl b => .bl b | .int i => .int i | .str x => .str x
mutual
def bind : Tg → D → List Slot → Option (List Slot)
  | .nm i, d, st => if i < st.length then some (st.set i (.sh d)) else none
  | .tup ts, d, st => match seqD d with | some xs => binds ts xs st | none => none
def binds : Tgs → List D → List Slot → Option (List Slot)
  | .nil, [], st => some st
  | .cons t ts, d :: ds, st => match bind t d st with | some st' => binds ts ds st' | none => none
  | _, _, _ => none
end
def wipeS (st : List Slot) : List Nat → List Slot
  | [] => st
  | i :: r => (wipeS st r).set i .no
def backS (st0 st : List Slot) : List Nat → List Slot
  | [] => st
  | i :: r => (backS st0 st r).set i ((st0[i]?).getD .no)
/-- no list of the block's own names is owned -/
def wipeOk (st : List Slot) : List Nat → Bool
  | [] => true
  | i :: r => (match st[i]? with | some (.ow _) => false | some (.lk _) => false | _ => true) && wipeOk st r
/-- no slot owns a list -/
def noOwn (st : List Slot) : Bool := st.all fun s => match s with | .ow _ => false | .lk _ => false | _ => true
def lockS (i : Nat) (st : List Slot) : List Slot := match st[i]? with | some (.ow d) => st.set i (.lk d) | _ => st
def unlockS (i : Nat) (st : List Slot) : List Slot := match st[i]? with | some (.lk d) => st.set i (.ow d) | _ => st
/-- a value stored: a new list is owned -/
def putS (i : Nat) (fr : Bool) (d : D) (st : List Slot) : Option (List Slot) := if i < st.length then some (st.set i (if fr then .ow d else .sh d)) else none
def idxL (n : Nat) : Int → Option Nat := ixAt n
def rngOk (i : Int) : Prop := -(2 ^ 61) ≤ i ∧ i < 2 ^ 61
instance (i : Int) : Decidable (rngOk i) := inferInstanceAs (Decidable (_ ∧ _))
/-- the number of turns of range(a, b, c) -/
def rangeN (a b c : Int) : Nat := if 0 < c then ((b - a + c - 1) / c).toNat else ((a - b + -c - 1) / -c).toNat
def zipD : List D → List D → List D
  | a :: as, b :: bs => .tup [a, b] :: zipD as bs
  | _, _ => []
def enumD : Nat → List D → List D
  | _, [] => []
  | n, a :: r => .tup [.int n, a] :: enumD (n + 1) r
def itSeq : List D → Option (List D)
  | [d] => itemsD d
  | _ => none
def itRange : List D → Option (List D)
  | [.int n] => if rngOk n then some (rangeL 0 n.toNat) else none
  | [.int a, .int b] => if rngOk a ∧ rngOk b then some (rangeL a (b - a).toNat) else none
  | [.int a, .int b, .int (-1)] => if rngOk a ∧ rngOk b then some (rangeC a (-1) (a - b).toNat) else none
  | _ => none
def itZip : List D → Option (List D)
  | [.lst a, .lst b] => some (zipD a b)
  | [.tup a, .tup b] => some (zipD a b)
  | _ => none
def itEnum : List D → Option (List D)
  | [.lst a] => some (enumD 0 a)
  | [.tup a] => some (enumD 0 a)
  | _ => none
def iterD : Itk → List D → Option (List D)
  | .seq => itSeq | .range => itRange | .zip => itZip | .enum => itEnum
/-- the slots whose lists are walked -/
def lockAll : List Opd → List Slot → List Slot
  | [], st => st
  | .bor i :: r, st => lockS i (lockAll r st)
  | _ :: r, st => lockAll r st
/-- .. that were owned ahead -/
def unlockAll (st0 : List Slot) : List Opd → List Slot → List Slot
  | [], st => st
  | .bor i :: r, st => match st0[i]? with | some (.ow _) => unlockS i (unlockAll st0 r st) | _ => unlockAll st0 r st
  | _ :: r, st => unlockAll st0 r st
/-- a comprehension's turns -/
def lcGo (tg : Tg) (own : List Nat) (cond : List Slot → RE) (elt : List Slot → RE) : List D → List D → List Slot → RE
  | [], acc, st => .ok (true, .lst acc) st
  | x :: xs, acc, st => match bind tg x st with
    | none => .bad
    | some st1 => (cond st1).th (br
        (fun st2 => (elt st2).th fun a st3 => lcGo tg own cond elt xs (acc ++ [a.2]) (wipeS st3 own))
        (fun st2 => lcGo tg own cond elt xs acc (wipeS st2 own)))
/-- within a comprehension nothing may be raised -/
def Res.noExc {α : Type} : Res α → Res α
  | .exc _ _ => .bad
  | r => r
def ownedAt (i : Nat) (st : List Slot) : Bool := match st[i]? with | some (.ow _) => true | _ => false
def ownedL (i : Nat) (st : List Slot) : Bool := match st[i]? with | some (.ow (.lst _)) => true | _ => false
/-- a mutation of an owned list -/
def modS (i : Nat) (st : List Slot) (f : D → Option D) : RS := match st[i]? with
  | some (.ow d) => (match f d with | some d' => .ok .nx (st.set i (.ow d')) | none => .bad)
  | _ => .bad
def appD (x : D) : D → Option D
  | .lst xs => if xs.length < SZ then some (.lst (xs ++ [x])) else none
  | _ => none
def extD (x : D) : D → Option D
  | .lst xs => match x with | .lst ys => if xs.length + ys.length < SZ then some (.lst (xs ++ ys)) else none | _ => none
  | _ => none
def rvsD : D → Option D
  | .lst xs => some (.lst xs.reverse)
  | _ => none
def setD (k x : D) : D → Option D
  | .lst xs => match k with | .int n => (ixAt xs.length n).map fun j => .lst (xs.set j x) | _ => none
  | .dic t kvs => if keyOk t k && decide (kvs.length < SZ) then some (.dic t (dput k x kvs)) else none
  | _ => none
/-- what pop hands back, and leaves -/
def popD : D → Option (D × D)
  | .lst xs => xs.getLast?.map fun d => (d, .lst xs.dropLast)
  | _ => none
def popAtD (k : D) : D → Option (D × D)
  | .lst xs => match k with | .int n => if xs.length ≤ SZ then (ixAt xs.length n).bind fun j => (xs[j]?).map fun d => (d, .lst (xs.eraseIdx j)) else none | _ => none
  | .dic t kvs => if keyOk t k then (dlook k kvs).map fun d => (d, .dic t (ddrop k kvs)) else none
  | _ => none
def popAtL (k : D) (d : D) : Option (D × D) := match d with | .lst _ => popAtD k d | _ => none
def popS (i : Nat) (st : List Slot) (f : D → Option (D × D)) : RE := match st[i]? with
  | some (.ow d) => (match f d with | some (r, d') => .ok (false, r) (st.set i (.ow d')) | none => .bad)
  | _ => .bad
section
variable (FT : Nat → List D → FR)
mutual
def evE : E → List Slot → RE
  | .c k, st => .ok (false, cst k) st
  | .g k _, st => .ok (false, cst k) st
  | .v i, st => rd i st
  | .tup es, st => (evA es st).th fun ds st => .ok (false, .tup ds) st
  | .lst es, st => (evA es st).th fun ds st => .ok (true, .lst ds) st
  | .dic t ks vs, st => (evA ks st).th fun kd st => (evA vs st).th fun vd st =>
      if kd.all (keyOk t) && kd.length == vd.length then .ok (true, .dic t ((kd.zip vd).foldl (fun acc p => dput p.1 p.2 acc) [])) st else .bad
  | .bin o a b, st => (opnd a (evE a) st).th fun x st => (opnd b (evE b) st).th fun y st => match rs1 st x, rs1 st y with
      | some d, some d' => outE (binD o d d') st
      | _, _ => .bad
  | .neg a, st => (evE a st).th fun d st => match d.2 with | .int i => .ok (false, .int (-i)) st | _ => .bad
  | .not a, st => (evE a st).th (br (fun st => ret (.bl false) st) (fun st => ret (.bl true) st))
  | .and a b, st => (evE a st).th (br (fun st => (evE b st).th (br (fun st => ret (.bl true) st) (fun st => ret (.bl false) st))) (fun st => ret (.bl false) st))
  | .or a b, st => (evE a st).th (br (fun st => ret (.bl true) st) (fun st => (evE b st).th (br (fun st => ret (.bl true) st) (fun st => ret (.bl false) st))))
  | .cmp o a b, st => (opnd a (evE a) st).th fun x st => (opnd b (evE b) st).th fun y st => match rs1 st x, rs1 st y with
      | some d, some d' => outB (cmpD o d d') st
      | _, _ => .bad
  | .chain o o' a b c, st => (evE a st).th fun x st => (evE b st).th fun y st => match cmpD o x.2 y.2 with
      | some true => (evE c st).th fun z st => outB (cmpD o' y.2 z.2) st
      | some false => ret (.bl false) st
      | none => .bad
  | .ite c a b, st => (evE c st).th (br (fun st => evE a st) (fun st => evE b st))
  | .call f es, st => (evA es st).th fun ds st => outF (FT f ds) st
  | .callIx fs i es, st => (evE i st).th fun k st => match k.2 with
      | .int k => match (ixAt fs.length k).bind fun j => fs[j]? with
        | some f => (evA es st).th fun ds st => outF (FT f ds) st
        | none => .bad
      | _ => .bad
  | .bi n es, st => (evO es st).th fun os st => match rsAll st os with | some ds => outE (biD n ds) st | none => .bad
  | .ix a b, st => (opnd a (evE a) st).th fun x st => (opnd b (evE b) st).th fun y st => match rs1 st x, rs1 st y with
      | some d, some i => outD (ixD d i) st
      | _, _ => .bad
  | .slF a lo, st => (opnd a (evE a) st).th fun x st => (opnd lo (evE lo) st).th fun l st => match rs1 st x, rs1 st l with
      | some d, some (.int l) => outE (slD d (some l) none) st
      | _, _ => .bad
  | .slT a hi, st => (opnd a (evE a) st).th fun x st => (opnd hi (evE hi) st).th fun l st => match rs1 st x, rs1 st l with
      | some d, some (.int l) => outE (slD d none (some l)) st
      | _, _ => .bad
  | .sl a lo hi, st => (opnd a (evE a) st).th fun x st => (evE lo st).th fun l st => match l.2 with
      | .int i => (evE hi st).th fun h st => match rs1 st x, h.2 with | some d, .int j => outE (slD d (some i) (some j)) st | _, _ => .bad
      | _ => .bad
  | .rev a, st => (opnd a (evE a) st).th fun x st => match rs1 st x with
      | some (.lst xs) => .ok (true, .lst xs.reverse) st
      | some (.tup xs) => .ok (false, .tup xs.reverse) st
      | _ => .bad
  | .even a, st => (opnd a (evE a) st).th fun x st => match rs1 st x with
      | some (.tup xs) => .ok (false, .tup (evens xs)) st
      | _ => .bad
  | .lc elt tg k es cond own, st => (evO es st).th fun os st => match rsAll st os with
      | none => .bad
      | some ds => match iterD k ds with
        | none => .bad
        | some items => if wipeOk (lockAll os st) own && decide (items.length ≤ SZ) then
            (lcGo tg own (evC cond) (evE elt) items [] (wipeS (lockAll os st) own)).noExc.th fun d st' => .ok (true, d.2) (unlockAll st os (backS (lockAll os st) st' own))
          else .bad
  | .mt m a es, st => (opnd a (evE a) st).th fun x st => if mtOk m (rs1 st x) then (evA es st).th fun ds st => match rs1 st x with
      | some d => outE (mtD m d ds) st
      | _ => .bad else .bad
  | .pop i, st => popS i st popD
  | .popAt i a, st => if ownedL i st then (evE a st).th fun k st => popS i st (popAtL k.2) else .bad
def evA : Es → List Slot → Res (List D)
  | .nil, st => .ok [] st
  | .cons e es, st => (evE e st).th fun d st => (evA es st).th fun ds st => .ok (d.2 :: ds) st
/-- operands -/
def evO : Es → List Slot → Res (List Opd)
  | .nil, st => .ok [] st
  | .cons e es, st => (opnd e (evE e) st).th fun d st => (evO es st).th fun ds st => .ok (d :: ds) st
/-- a comprehension's tests: none or one -/
def evC : Es → List Slot → RE
  | .nil, st => .ok (false, .bl true) st
  | .cons e .nil, st => evE e st
  | _, _ => .bad
end
/-- the first n turns -/
def whileF (c : List Slot → RE) (b : List Slot → RS) : Nat → List Slot → RS
  | 0, _ => .bad
  | n + 1, st => (c st).th (br (fun st => (b st).th fun f st => match f with
      | .nx => whileF c b n st
      | .ct => whileF c b n st
      | .bk => .ok .nx st
      | .rt fr d => .ok (.rt fr d) st) (fun st => .ok .nx st))
open Classical in
noncomputable def whileD (c : List Slot → RE) (b : List Slot → RS) (st : List Slot) : RS :=
  if h : ∃ n, whileF c b n st ≠ .bad then whileF c b (Classical.choose h) st else .bad
def forGo (tg : Tg) (b : List Slot → RS) : List D → List Slot → RS
  | [], st => .ok .nx st
  | x :: xs, st => match bind tg x st with
    | none => .bad
    | some st1 => (b st1).th fun f st => match f with
      | .nx => forGo tg b xs st
      | .ct => forGo tg b xs st
      | .bk => .ok .nx st
      | .rt fr d => .ok (.rt fr d) st
/-- return: a list that stands in a slot alone goes out as a new one -/
def evR (e : E) (st : List Slot) : RS := match e with
  | .v i => (match st[i]? with
    | some (.ow d) => .ok (.rt true d) st
    | _ => (rd i st).th fun a st => .ok (.rt a.1 a.2) st)
  | e => (evE FT e st).th fun a st => .ok (.rt a.1 a.2) st
def nxS (o : Option (List Slot)) : RS := match o with | some st => .ok .nx st | none => .bad
/-- a parallel assignment: all values, then stored from the right -/
def evPar : Tgs → Es → List Slot → RS
  | .nil, .nil, st => .ok .nx st
  | .cons (.nm i) ts, .cons e es, st => (evE FT e st).th fun a st1 => (evPar ts es st1).th fun _ st2 => nxS (putS i a.1 a.2 st2)
  | _, _, _ => .bad
mutual
noncomputable def evS : S → List Slot → RS
  | .ex e, st => (evE FT e st).th fun _ st => .ok .nx st
  | .asg t e, st => (evE FT e st).th fun a st => nxS (match t with | .nm i => putS i a.1 a.2 st | t => bind t a.2 st)
  | .par ts es, st => evPar FT ts es st
  | .app i e, st => if ownedL i st then (evE FT e st).th fun a st => modS i st (appD a.2) else .bad
  | .ext i e, st => if ownedL i st then (evE FT e st).th fun a st => modS i st (extD a.2) else .bad
  | .rvs i, st => modS i st rvsD
  | .setIx i k e, st => (evE FT e st).th fun a st => if ownedL i st then (evE FT k st).th fun kd st => if ownedL i st then modS i st (setD kd.2 a.2) else .bad else .bad
  | .iff c a b, st => (evE FT c st).th (br (fun st => evSs a st) (fun st => evSs b st))
  | .whl c b, st => whileD (evE FT c) (evSs b) st
  | .for_ t k es b, st => (evA FT es st).th fun ds st => match iterD k ds with
      | some items => forGo t (evSs b) items st
      | none => .bad
  | .ret e, st => evR FT e st
  | .retN, st => .ok (.rt false .non) st
  | .raise c, st => .exc c st
  | .tryKeep b c n i j, st => if noOwn st then match evSs b st with
    | .exc k st' => if excIs c k && decide (k < n) && decide (i < st'.length) && decide (j < st'.length) then .ok .nx ((st'.set i .no).set j (.sh (.exc k))) else .bad
    | r => r else .bad
  | .tryC b c h, st => match evSs b st with
    | .exc k st' => if excIs c k then evSs h st' else .bad
    | r => r
noncomputable def evSs : Ss → List Slot → RS
  | .nil, st => .ok .nx st
  | .cons s ss, st => (evS s st).th fun f st => match f with
    | .nx => evSs ss st
    | f => .ok f st
end
/-- a def's run -/
noncomputable def run (d : FD) (ds : List D) : FR :=
  if ds.length = d.np then match evSs FT d.body (ds.map .sh ++ List.replicate (d.ns - d.np) .no) with
    | .ok .nx _ => .ok false .non
    | .ok (.rt fr x) _ => .ok fr x
    | .exc c _ => .exc c
    | _ => .bad
  else .bad
end
/-- what the defs of a program hand back, k calls deep -/
noncomputable def runL (PT : Nat → Option FD) : Nat → Nat → List D → FR
  | 0, _, _ => .bad
  | k + 1, f, ds => match PT f with
    | some d => run (runL PT k) d ds
    | none => .bad
end PD
/-! F2: data and the abstract heap. -/
namespace PD
open PySem PySem.Spec PyProof.Rows L2
/-- an exception that was caught -/
def ExK (cls : Value) (a : Addr) : HO := .ext fun h => ∃ (oe : Obj) (vs : Array Value), h.get? a = some oe ∧ Zc cls none oe ∧ oe.data = .fields vs
def keyD : Key → D
  | .inl i => .int i
  | .inr x => .str x
/-- the script's list: locked, or of the written part -/
def ScrAt (K : PySem.W.Frag) (H : Hp) (a : Addr) (xs : List V) : Prop := (∃ o, H a = some (.frz o (.lst xs))) ∨
    ∃ (o : Obj) (its : Array Value) (n : Nat), K.lookup a = some o ∧ o.cls = .type "list" ∧ o.dict = none ∧ o.data = .seq its n ∧ its.size ≤ sizeLine ∧ Vals xs its.toList
theorem ScrAt.sq {K : PySem.W.Frag} {H : Hp} {a : Addr} {xs : List V} (h : ScrAt K H a xs) : SqL K H a xs := by
  rcases h with ⟨o, h⟩ | h
  · exact .inl (.inr ⟨o, h⟩)
  · exact .inr h
theorem ScrAt.of {K : PySem.W.Frag} {H : Hp} {a : Addr} {xs : List V} (h : SqL K H a xs) (o : Only H) : ScrAt K H a xs := by
  rcases h with (h | h) | h
  · rcases o a with q | ⟨u, ys, q⟩ <;> rw [h] at q <;> cases q
  · exact .inl h
  · exact .inr h
section
variable (K : PySem.W.Frag) (cm : Nat → Value) (H : Hp) (av : Addr → Prop)
mutual
/-- a value is a datum; what may change stands outside av -/
inductive R : V → D → Prop
  | non : R .non .non
  | bl (b : Bool) : R (.bl b) (.bl b)
  | int (i : Int) : R (.int i) (.int i)
  | str (x : Str) : R (.str x) (.str x)
  | tup {a : Addr} {vs : List V} {ds : List D} : H a = some (.tup vs) → Rs vs ds → R (.ref a) (.tup ds)
  | lst {a : Addr} {vs : List V} {ds : List D} : ¬ av a → H a = some (.lst vs) → Rs vs ds → R (.ref a) (.lst ds)
  | scr {a : Addr} {ns : List Int} : ScrAt K H a (ns.map V.int) → R (.ref a) (.scr ns)
  | dK {a : Addr} {ks : List (Key × V)} {kvs : List (D × D)} : ¬ av a → H a = some (.dK ks) → RK ks kvs → R (.ref a) (.dic false kvs)
  | dT {a : Addr} {ks : List (List Key × V)} {kvs : List (D × D)} : ¬ av a → H a = some (.dT ks) → RT ks kvs → R (.ref a) (.dic true kvs)
  | exc {a : Addr} {c : Nat} : H a = some (ExK (cm c) a) → R (.ref a) (.exc c)
inductive Rs : List V → List D → Prop
  | nil : Rs [] []
  | cons {v : V} {d : D} {vs : List V} {ds : List D} : R v d → Rs vs ds → Rs (v :: vs) (d :: ds)
inductive RK : List (Key × V) → List (D × D) → Prop
  | nil : RK [] []
  | cons {k : Key} {v : V} {d : D} {r : List (Key × V)} {s : List (D × D)} : R v d → RK r s → RK ((k, v) :: r) ((keyD k, d) :: s)
inductive RT : List (List Key × V) → List (D × D) → Prop
  | nil : RT [] []
  | cons {k : List Key} {v : V} {d : D} {r : List (List Key × V)} {s : List (D × D)} : R v d → RT r s → RT ((k, v) :: r) ((.tup (k.map keyD), d) :: s)
end
/-- the object at a is a list or dict of that content -/
inductive RO : Addr → D → Prop
  | lst {a : Addr} {vs : List V} {ds : List D} : H a = some (.lst vs) → Rs K cm H av vs ds → RO a (.lst ds)
  | dK {a : Addr} {ks : List (Key × V)} {kvs : List (D × D)} : H a = some (.dK ks) → RK K cm H av ks kvs → RO a (.dic false kvs)
  | dT {a : Addr} {ks : List (List Key × V)} {kvs : List (D × D)} : H a = some (.dT ks) → RT K cm H av ks kvs → RO a (.dic true kvs)
/-- .. or it stands by itself -/
def RX (v : V) (d : D) : Prop := R K cm H av v d ∨ ∃ a, v = .ref a ∧ RO K cm H av a d
inductive RXs : List V → List D → Prop
  | nil : RXs [] []
  | cons {v : V} {d : D} {vs : List V} {ds : List D} : RX K cm H av v d → RXs vs ds → RXs (v :: vs) (d :: ds)
end
/-- what may be written -/
def MutO (o : HO) : Prop := (∃ xs, o = .lst xs) ∨ (∃ ks, o = .dK ks) ∨ (∃ ks, o = .dT ks)
/-- what is to be avoided, what may change -/
structure Vw where
  av : Addr → Prop
  mo : Addr → Prop
abbrev Vw.fz (av : Addr → Prop) : Vw := ⟨av, fun _ => False⟩
section
variable {K : PySem.W.Frag} {cm : Nat → Value} {H H' : Hp} {w w' : Vw}
theorem SqT.keepB {a : Addr} {xs : List V} (k : ∀ b o, H b = some o → b = a → H' b = some o) (h : SqT K H a xs) : SqT K H' a xs := by
  rcases h with (h | ⟨o, h⟩) | h
  · exact .inl (.inl (k _ _ h rfl))
  · exact .inl (.inr ⟨o, k _ _ h rfl⟩)
  · exact .inr h
theorem SqL.keepB {a : Addr} {xs : List V} (k : ∀ b o, H b = some o → b = a → H' b = some o) (h : SqL K H a xs) : SqL K H' a xs := by
  rcases h with (h | ⟨o, h⟩) | h
  · exact .inl (.inl (k _ _ h rfl))
  · exact .inl (.inr ⟨o, k _ _ h rfl⟩)
  · exact .inr h
/-- from one heap to a later one: what may not change stays -/
structure Kp (w : Vw) (H : Hp) (w' : Vw) (H' : Hp) : Prop where
  le : ∀ a, w.mo a → w.av a
  sub : ∀ a o, H a = some o → ¬ w.av a → ¬ w'.av a
  mosub : ∀ a o, H a = some o → ¬ w.mo a → ¬ w'.mo a
  keep : ∀ b o, H b = some o → ¬ w.mo b → H' b = some o
  fix : ∀ b o, H b = some o → ¬ MutO o → H' b = some o
  dom : ∀ b, H b ≠ none → H' b ≠ none
theorem Same.dom {H H' : Hp} (s : Same H H') (b : Addr) (h : H b ≠ none) : H' b ≠ none := by
  cases e : H b with
  | none => exact absurd e h
  | some o => rw [s b o e]; exact fun z => nomatch z
theorem not_mut_tup {xs : List V} : ¬ MutO (.tup xs) := by rintro (⟨_, h⟩ | ⟨_, h⟩ | ⟨_, h⟩) <;> cases h
theorem not_mut_frz {o : Obj} {u : HO} : ¬ MutO (.frz o u) := by rintro (⟨_, h⟩ | ⟨_, h⟩ | ⟨_, h⟩) <;> cases h
theorem not_mut_ext {φ : Heap → Prop} : ¬ MutO (.ext φ) := by rintro (⟨_, h⟩ | ⟨_, h⟩ | ⟨_, h⟩) <;> cases h
mutual
theorem R.kp (k : Kp w H w' H') : ∀ {v : V} {d : D}, R K cm H w.av v d → R K cm H' w'.av v d
  | _, _, .non => .non
  | _, _, .bl b => .bl b
  | _, _, .int i => .int i
  | _, _, .str x => .str x
  | _, _, .tup h r => .tup (k.fix _ _ h not_mut_tup) (Rs.kp k r)
  | _, _, .lst n h r => .lst (k.sub _ _ h n) (k.keep _ _ h fun z => n (k.le _ z)) (Rs.kp k r)
  | _, _, .scr h => by
    rcases h with ⟨o, h⟩ | h
    · exact .scr (.inl ⟨o, k.fix _ _ h not_mut_frz⟩)
    · exact .scr (.inr h)
  | _, _, .dK n h r => .dK (k.sub _ _ h n) (k.keep _ _ h fun z => n (k.le _ z)) (RK.kp k r)
  | _, _, .dT n h r => .dT (k.sub _ _ h n) (k.keep _ _ h fun z => n (k.le _ z)) (RT.kp k r)
  | _, _, .exc h => .exc (k.fix _ _ h not_mut_ext)
theorem Rs.kp (k : Kp w H w' H') : ∀ {vs : List V} {ds : List D}, Rs K cm H w.av vs ds → Rs K cm H' w'.av vs ds
  | _, _, .nil => .nil
  | _, _, .cons h r => .cons (R.kp k h) (Rs.kp k r)
theorem RK.kp (k : Kp w H w' H') : ∀ {vs : List (Key × V)} {ds : List (D × D)}, RK K cm H w.av vs ds → RK K cm H' w'.av vs ds
  | _, _, .nil => .nil
  | _, _, .cons h r => .cons (R.kp k h) (RK.kp k r)
theorem RT.kp (k : Kp w H w' H') : ∀ {vs : List (List Key × V)} {ds : List (D × D)}, RT K cm H w.av vs ds → RT K cm H' w'.av vs ds
  | _, _, .nil => .nil
  | _, _, .cons h r => .cons (R.kp k h) (RT.kp k r)
end
theorem RO.kp (k : Kp w H w' H') {a : Addr} {d : D} (h : RO K cm H w.av a d) (ka : ∀ o, H a = some o → H' a = some o) : RO K cm H' w'.av a d := by
  cases h with
  | lst e r => exact .lst (ka _ e) (r.kp k)
  | dK e r => exact .dK (ka _ e) (r.kp k)
  | dT e r => exact .dT (ka _ e) (r.kp k)
theorem Kp.of_same (s : Same H H') (le : ∀ a, w.mo a → w.av a) : Kp w H w H' := ⟨le, fun _ _ _ h => h, fun _ _ _ h => h, fun b o e _ => s b o e, fun b o e _ => s b o e, Same.dom s⟩
theorem Kp.of_sub (le : ∀ a, w.mo a → w.av a) (s : ∀ a, w'.av a → w.av a) (m : ∀ a, w'.mo a → w.mo a) : Kp w H w' H := ⟨le, fun a _ _ h z => h (s a z), fun a _ _ h z => h (m a z), fun _ _ e _ => e, fun _ _ e _ => e, fun _ h => h⟩
theorem Kp.trans {w1 w2 w3 : Vw} {H1 H2 H3 : Hp} (a : Kp w1 H1 w2 H2) (b : Kp w2 H2 w3 H3) : Kp w1 H1 w3 H3 where
  le := a.le
  sub := fun x o e h => by
    cases q : H2 x with
    | none => exact absurd q (a.dom x (by rw [e]; exact fun z => nomatch z))
    | some u => exact b.sub x u q (a.sub x o e h)
  mosub := fun x o e h => b.mosub x o (a.keep x o e h) (a.mosub x o e h)
  keep := fun x o e h => b.keep x o (a.keep x o e h) (a.mosub x o e h)
  fix := fun x o e h => b.fix x o (a.fix x o e h) h
  dom := fun x h => b.dom x (a.dom x h)
section
variable {av av' : Addr → Prop}
/-- nothing changes, less or more is to be avoided -/
theorem Kp.fz (s : Same H H') (n : ∀ a o, H a = some o → ¬ av a → ¬ av' a) : Kp (.fz av) H (.fz av') H' := ⟨fun _ z => z.elim, n, fun _ _ _ h => h, fun b o e _ => s b o e, fun b o e _ => s b o e, Same.dom s⟩
theorem Rs.length {vs : List V} {ds : List D} (h : Rs K cm H av vs ds) : vs.length = ds.length := by
  induction ds generalizing vs with
  | nil => cases h; rfl
  | cons d ds ih => cases h with | cons a r => simp [ih r]
theorem Rs.get {vs : List V} {ds : List D} (h : Rs K cm H av vs ds) {i : Nat} {d : D} (e : ds[i]? = some d) : ∃ v, vs[i]? = some v ∧ R K cm H av v d := by
  induction ds generalizing vs i with
  | nil => simp at e
  | cons x ds ih =>
    cases h with
    | cons a r =>
      cases i with
      | zero => simp at e; subst e; exact ⟨_, rfl, a⟩
      | succ i => simpa using ih r (by simpa using e)
theorem Rs.getV {vs : List V} {ds : List D} (h : Rs K cm H av vs ds) {i : Nat} {v : V} (e : vs[i]? = some v) : ∃ d, ds[i]? = some d ∧ R K cm H av v d := by
  induction ds generalizing vs i with
  | nil => cases h; simp at e
  | cons x ds ih =>
    cases h with
    | cons a r =>
      cases i with
      | zero => simp at e; subst e; exact ⟨_, rfl, a⟩
      | succ i => simpa using ih r (by simpa using e)
theorem Rs.append {vs ws : List V} {ds es : List D} (h : Rs K cm H av vs ds) (g : Rs K cm H av ws es) : Rs K cm H av (vs ++ ws) (ds ++ es) := by
  induction ds generalizing vs with
  | nil => cases h; exact g
  | cons x ds ih => cases h with | cons a r => exact .cons a (ih r)
theorem Rs.take {vs : List V} {ds : List D} (n : Nat) (h : Rs K cm H av vs ds) : Rs K cm H av (vs.take n) (ds.take n) := by
  induction n generalizing vs ds with
  | zero => exact .nil
  | succ n ih => cases h with
    | nil => exact .nil
    | cons a r => exact .cons a (ih r)
theorem Rs.drop {vs : List V} {ds : List D} (n : Nat) (h : Rs K cm H av vs ds) : Rs K cm H av (vs.drop n) (ds.drop n) := by
  induction n generalizing vs ds with
  | zero => exact h
  | succ n ih => cases h with
    | nil => exact .nil
    | cons a r => exact ih r
theorem Rs.reverse {vs : List V} {ds : List D} (h : Rs K cm H av vs ds) : Rs K cm H av vs.reverse ds.reverse := by
  induction ds generalizing vs with
  | nil => cases h; exact .nil
  | cons x ds ih => cases h with | cons a r => rw [List.reverse_cons, List.reverse_cons]; exact (ih r).append (.cons a .nil)
theorem Rs.set {vs : List V} {ds : List D} {v : V} {d : D} (h : Rs K cm H av vs ds) (r : R K cm H av v d) (i : Nat) : Rs K cm H av (vs.set i v) (ds.set i d) := by
  induction ds generalizing vs i with
  | nil => cases h; exact .nil
  | cons x ds ih => cases h with
    | cons a q => cases i with
      | zero => exact .cons r q
      | succ i => exact .cons a (ih q i)
theorem Rs.eraseIdx {vs : List V} {ds : List D} (h : Rs K cm H av vs ds) (i : Nat) : Rs K cm H av (vs.eraseIdx i) (ds.eraseIdx i) := by
  induction ds generalizing vs i with
  | nil => cases h; exact .nil
  | cons x ds ih => cases h with
    | cons a q => cases i with
      | zero => exact q
      | succ i => exact .cons a (ih q i)
theorem Rs.mem {vs : List V} {ds : List D} (h : Rs K cm H av vs ds) {d : D} (m : d ∈ ds) : ∃ v ∈ vs, R K cm H av v d := by
  obtain ⟨i, hi⟩ := List.getElem?_of_mem m
  obtain ⟨v, e, r⟩ := h.get hi
  exact ⟨v, List.mem_of_getElem? e, r⟩
theorem RXs.length {vs : List V} {ds : List D} (h : RXs K cm H av vs ds) : vs.length = ds.length := by
  induction ds generalizing vs with
  | nil => cases h; rfl
  | cons d ds ih => cases h with | cons a r => simp [ih r]
end
end
/-! ### slots -/
def isOw : Slot → Bool
  | .ow _ => true | .lk _ => true | _ => false
/-- a slot's own list stands at a -/
def OwnA (st : List Slot) (σ : L2.St) (a : Addr) : Prop := ∃ (i : Nat) (s : Slot), st[i]? = some s ∧ isOw s = true ∧ σ[i]? = some (some (.ref a))
def AV (av : Addr → Prop) (st : List Slot) (σ : L2.St) (a : Addr) : Prop := av a ∨ OwnA st σ a
/-- .. and may be written -/
def OwM (st : List Slot) (σ : L2.St) (a : Addr) : Prop := ∃ (i : Nat) (d : D), st[i]? = some (.ow d) ∧ σ[i]? = some (some (.ref a))
abbrev VW (av : Addr → Prop) (st : List Slot) (σ : L2.St) : Vw := ⟨AV av st σ, OwM st σ⟩
theorem vw_le {av : Addr → Prop} {st : List Slot} {σ : L2.St} (a : Addr) (h : (VW av st σ).mo a) : (VW av st σ).av a := by
  obtain ⟨i, d, e, q⟩ := h
  exact .inr ⟨i, _, e, rfl, q⟩
/-- the state: av what is to be avoided beside, H0 the heap at the entry (stays) -/
structure SRel (K : PySem.W.Frag) (cm : Nat → Value) (av : Addr → Prop) (H0 : Hp) (st : List Slot) (σ : L2.St) (H : Hp) : Prop where
  len : st.length = σ.length
  sh : ∀ (i : Nat) (d : D), st[i]? = some (.sh d) → ∃ v, σ[i]? = some (some v) ∧ R K cm H (AV av st σ) v d
  ow : ∀ (i : Nat) (s : Slot) (d : D), st[i]? = some s → (s = .ow d ∨ s = .lk d) → ∃ a, σ[i]? = some (some (.ref a)) ∧ ¬ av a ∧ H0 a = none ∧ RO K cm H (AV av st σ) a d
  dist : ∀ (i j : Nat) (s t : Slot) (a : Addr), st[i]? = some s → st[j]? = some t → isOw s = true → isOw t = true → σ[i]? = some (some (.ref a)) → σ[j]? = some (some (.ref a)) → i = j
  avd : ∀ a, av a → H a ≠ none
  base : Same H0 H
end PD
namespace PD
open PySem PySem.Spec PyProof.Rows L2
section
variable {K : PySem.W.Frag} {cm : Nat → Value} {av : Addr → Prop} {H0 H H' : Hp} {st st' : List Slot} {σ : L2.St}
theorem RO.mut {a : Addr} {d : D} (h : RO K cm H av a d) : ∃ o, H a = some o ∧ MutO o := by
  cases h with
  | lst e r => exact ⟨_, e, .inl ⟨_, rfl⟩⟩
  | dK e r => exact ⟨_, e, .inr (.inl ⟨_, rfl⟩)⟩
  | dT e r => exact ⟨_, e, .inr (.inr ⟨_, rfl⟩)⟩
theorem RO.r {a : Addr} {d : D} (h : RO K cm H av a d) (n : ¬ av a) : R K cm H av (.ref a) d := by
  cases h with
  | lst e r => exact .lst n e r
  | dK e r => exact .dK n e r
  | dT e r => exact .dT n e r
theorem own_ix {i : Nat} {s : Slot} (S : SRel K cm av H0 st σ H) (e : st[i]? = some s) (o : isOw s = true) : ∃ a d, (s = .ow d ∨ s = .lk d) ∧ σ[i]? = some (some (.ref a)) ∧ ¬ av a ∧ H0 a = none ∧ RO K cm H (AV av st σ) a d := by
  cases s with
  | ow d => obtain ⟨a, q⟩ := S.ow i _ d e (.inl rfl); exact ⟨a, d, .inl rfl, q⟩
  | lk d => obtain ⟨a, q⟩ := S.ow i _ d e (.inr rfl); exact ⟨a, d, .inr rfl, q⟩
  | no => cases o
  | sh d => cases o
theorem SRel.own (S : SRel K cm av H0 st σ H) {a : Addr} (h : OwnA st σ a) : ¬ av a ∧ H0 a = none ∧ ∃ o, H a = some o ∧ MutO o := by
  obtain ⟨i, s, e, o, q⟩ := h
  obtain ⟨b, d, _, q', n, z, r⟩ := own_ix S e o
  rw [q] at q'; cases q'
  exact ⟨n, z, r.mut⟩
theorem SRel.there (S : SRel K cm av H0 st σ H) {a : Addr} (h : AV av st σ a) : H a ≠ none := by
  rcases h with h | h
  · exact S.avd a h
  · obtain ⟨_, _, o, e, _⟩ := S.own h
    rw [e]; exact fun z => nomatch z
theorem SRel.fresh (S : SRel K cm av H0 st σ H) {a : Addr} (h : H a = none) : ¬ AV av st σ a := fun z => S.there z h
theorem SRel.fresh0 (S : SRel K cm av H0 st σ H) {a : Addr} (h : H a = none) : H0 a = none := S.base.free h
/-- the heap grows -/
theorem SRel.same (S : SRel K cm av H0 st σ H) (s : Same H H') : SRel K cm av H0 st σ H' where
  len := S.len
  sh := fun i d e => let ⟨v, q, r⟩ := S.sh i d e; ⟨v, q, r.kp (.fz s fun _ _ _ h => h)⟩
  ow := fun i s' d e h => let ⟨a, q, n, z, r⟩ := S.ow i s' d e h; ⟨a, q, n, z, r.kp (.fz s fun _ _ _ h => h) (s a)⟩
  dist := S.dist
  avd := fun a h => Same.dom s a (S.avd a h)
  base := S.base.trans s
theorem getSet {α : Type} {l : List α} {i j : Nat} {x y : α} (h : (l.set i x)[j]? = some y) : (j = i ∧ y = x ∧ i < l.length) ∨ (j ≠ i ∧ l[j]? = some y) := by
  by_cases e : j = i
  · subst e
    rw [List.getElem?_set] at h
    split at h
    · split at h
      · cases h; exact .inl ⟨rfl, rfl, by assumption⟩
      · cases h
    · exact absurd rfl ‹_›
  · exact .inr ⟨e, by rwa [List.getElem?_set_ne (Ne.symm e)] at h⟩
/-- a slot's list goes into the open -/
theorem own_set {i : Nat} {t : Slot} (ht : isOw t = false ∨ ∃ s, st[i]? = some s ∧ isOw s = true) {a : Addr} (h : OwnA (st.set i t) σ a) : OwnA st σ a := by
  obtain ⟨j, s, e, o, q⟩ := h
  rcases getSet e with ⟨rfl, rfl, _⟩ | ⟨_, e⟩
  · rcases ht with ht | ⟨s', e', o'⟩
    · rw [ht] at o; cases o
    · exact ⟨j, s', e', o', q⟩
  · exact ⟨j, s, e, o, q⟩
theorem own_set_iff {i : Nat} {s t : Slot} (e : st[i]? = some s) (hs : isOw s = true) (ht : isOw t = true) {a : Addr} : OwnA (st.set i t) σ a ↔ OwnA st σ a := by
  constructor
  · exact own_set (.inr ⟨s, e, hs⟩)
  · rintro ⟨j, u, e', o, q⟩
    by_cases hj : j = i
    · subst hj
      exact ⟨j, t, by rw [List.getElem?_set_self (List.getElem?_eq_some_iff.mp e).1], ht, q⟩
    · exact ⟨j, u, by rw [List.getElem?_set_ne (Ne.symm hj)]; exact e', o, q⟩
theorem av_same {i : Nat} {s t : Slot} (e : st[i]? = some s) (hs : isOw s = true) (ht : isOw t = true) : AV av (st.set i t) σ = AV av st σ := by
  funext a
  exact propext ⟨fun h => h.imp id (own_set_iff e hs ht).mp, fun h => h.imp id (own_set_iff e hs ht).mpr⟩
theorem owm_set {i : Nat} {t : Slot} (ht : (∀ d, t ≠ .ow d) ∨ ∃ d, st[i]? = some (.ow d)) {a : Addr} (h : OwM (st.set i t) σ a) : OwM st σ a := by
  obtain ⟨j, d, e, q⟩ := h
  rcases getSet e with ⟨rfl, rfl, _⟩ | ⟨_, e⟩
  · rcases ht with ht | ⟨d', e'⟩
    · exact absurd rfl (ht d)
    · exact ⟨j, d', e', q⟩
  · exact ⟨j, d, e, q⟩
theorem not_ow {t : Slot} (ht : isOw t = false) (d : D) : t ≠ .ow d := by rintro rfl; cases ht
theorem kp_open {i : Nat} {t : Slot} (ht : isOw t = false) : Kp (VW av st σ) H (VW av (st.set i t) σ) H := .of_sub vw_le (fun _ h => h.imp id (own_set (.inl ht))) fun _ h => owm_set (.inl (not_ow ht)) h
/-- a name is read: what stood in it goes into the open -/
theorem SRel.opened {i : Nat} {s : Slot} {d : D} (S : SRel K cm av H0 st σ H) (e : st[i]? = some s) (h : s = .ow d ∨ s = .lk d) :
    SRel K cm av H0 (st.set i (.sh d)) σ H ∧ ∃ v, σ[i]? = some (some v) ∧ R K cm H (AV av (st.set i (.sh d)) σ) v d := by
  have hi := (List.getElem?_eq_some_iff.mp e).1
  have hs : isOw s = true := by rcases h with rfl | rfl <;> rfl
  have kp : Kp (VW av st σ) H (VW av (st.set i (.sh d)) σ) H := kp_open rfl
  obtain ⟨a, q, n, z, r⟩ := S.ow i s d e h
  have na : ¬ AV av (st.set i (.sh d)) σ a := by
    rintro (w | ⟨j, t, e', o, q'⟩)
    · exact n w
    · rcases getSet e' with ⟨rfl, rfl, _⟩ | ⟨hj, e'⟩
      · cases o
      · exact hj (S.dist j i t s a e' e o hs q' q)
  have rv : R K cm H (AV av (st.set i (.sh d)) σ) (.ref a) d := (r.kp kp fun _ x => x).r na
  refine ⟨⟨by rw [List.length_set]; exact S.len, fun j d' e' => ?_, fun j s' d' e' h' => ?_, fun j k s' t a' e1 e2 o1 o2 q1 q2 => ?_, S.avd, S.base⟩, .ref a, q, rv⟩
  · rcases getSet e' with ⟨rfl, w, _⟩ | ⟨_, e'⟩
    · cases w; exact ⟨_, q, rv⟩
    · obtain ⟨v, q', r'⟩ := S.sh j d' e'
      exact ⟨v, q', r'.kp kp⟩
  · rcases getSet e' with ⟨rfl, w, _⟩ | ⟨_, e'⟩
    · subst w; rcases h' with h' | h' <;> cases h'
    · obtain ⟨b, q', n', z', r'⟩ := S.ow j s' d' e' h'
      exact ⟨b, q', n', z', r'.kp kp fun _ x => x⟩
  · rcases getSet e1 with ⟨_, rfl, _⟩ | ⟨_, e1⟩
    · cases o1
    · rcases getSet e2 with ⟨_, rfl, _⟩ | ⟨_, e2⟩
      · cases o2
      · exact S.dist j k s' t a' e1 e2 o1 o2 q1 q2
/-- the owned object at a slot is written -/
theorem SRel.write {i : Nat} {d d' : D} {a : Addr} {o : HO} (S : SRel K cm av H0 st σ H) (e : st[i]? = some (.ow d)) (q : σ[i]? = some (some (.ref a)))
    (hm : MutO o) (r : RO K cm (upd H a o) (AV av st σ) a d') : SRel K cm av H0 (st.set i (.ow d')) σ (upd H a o) ∧ Kp (VW av st σ) H (VW av (st.set i (.ow d')) σ) (upd H a o) := by
  have ea : AV av (st.set i (.ow d')) σ = AV av st σ := av_same e rfl rfl
  obtain ⟨b, q', n, z, r0⟩ := S.ow i _ d e (.inl rfl)
  rw [q] at q'; cases q'
  obtain ⟨o0, eo, m0⟩ := r0.mut
  have own : OwM st σ a := ⟨i, d, e, q⟩
  have kp0 : Kp (VW av st σ) H (VW av st σ) (upd H a o) := by
    refine ⟨vw_le, fun _ _ _ x => x, fun _ _ _ x => x, fun b u eb hb => ?_, fun b u eb hb => ?_, fun b hb => ?_⟩
    · rw [upd_ne (fun w => hb (by rw [w]; exact own))]; exact eb
    · rw [upd_ne (fun w => by subst w; rw [eo] at eb; cases eb; exact hb m0)]; exact eb
    · by_cases w : b = a
      · subst w; rw [upd_same]; exact fun z => nomatch z
      · rw [upd_ne w]; exact hb
  have kp : Kp (VW av st σ) H (VW av (st.set i (.ow d')) σ) (upd H a o) := kp0.trans (.of_sub vw_le (fun a h => by show AV av st σ a; rw [← ea]; exact h) fun a h => owm_set (.inr ⟨d, e⟩) h)
  refine ⟨⟨by rw [List.length_set]; exact S.len, fun j d1 e' => ?_, fun j s' d1 e' h' => ?_, fun j k s' u a' e1 e2 o1 o2 q1 q2 => ?_, fun b hb => kp0.dom b (S.avd b hb), fun b u eb => ?_⟩, kp⟩
  · rcases getSet e' with ⟨rfl, w, _⟩ | ⟨_, e'⟩
    · cases w
    · obtain ⟨v, q', r'⟩ := S.sh j d1 e'
      exact ⟨v, q', r'.kp kp⟩
  · rcases getSet e' with ⟨rfl, w, _⟩ | ⟨hj, e'⟩
    · subst w
      have ed : d1 = d' := by rcases h' with h' | h' <;> cases h'; rfl
      subst ed
      exact ⟨a, q, n, z, by rw [ea]; exact r⟩
    · obtain ⟨b, q', n', z', r'⟩ := S.ow j s' d1 e' h'
      have so : isOw s' = true := by rcases h' with rfl | rfl <;> rfl
      refine ⟨b, q', n', z', r'.kp kp fun u eb => ?_⟩
      rw [upd_ne (fun w => by subst w; exact hj (S.dist j i s' _ _ e' e so rfl q' q))]; exact eb
  · have c1 : ∃ x, st[j]? = some x ∧ isOw x = true := by
      rcases getSet e1 with ⟨rfl, _, _⟩ | ⟨_, e1⟩
      · exact ⟨_, e, rfl⟩
      · exact ⟨s', e1, o1⟩
    have c2 : ∃ x, st[k]? = some x ∧ isOw x = true := by
      rcases getSet e2 with ⟨rfl, _, _⟩ | ⟨_, e2⟩
      · exact ⟨_, e, rfl⟩
      · exact ⟨u, e2, o2⟩
    obtain ⟨x, f1, g1⟩ := c1
    obtain ⟨y, f2, g2⟩ := c2
    exact S.dist j k x y a' f1 f2 g1 g2 q1 q2
  · rw [upd_ne (fun w => by subst w; have := S.base _ _ eb; rw [z] at eb; cases eb)]; exact S.base _ _ eb
/-- ownership's kind changes: owned, locked -/
theorem SRel.relock {i : Nat} {s t : Slot} {d : D} (S : SRel K cm av H0 st σ H) (e : st[i]? = some s) (h : s = .ow d ∨ s = .lk d) (ht : t = .ow d ∨ t = .lk d) : SRel K cm av H0 (st.set i t) σ H ∧ AV av (st.set i t) σ = AV av st σ := by
  have hs : isOw s = true := by rcases h with rfl | rfl <;> rfl
  have htt : isOw t = true := by rcases ht with rfl | rfl <;> rfl
  have ea : AV av (st.set i t) σ = AV av st σ := av_same e hs htt
  refine ⟨⟨by rw [List.length_set]; exact S.len, fun j d1 e' => ?_, fun j s' d1 e' h' => ?_, fun j k s' u a' e1 e2 o1 o2 q1 q2 => ?_, S.avd, S.base⟩, ea⟩
  · rcases getSet e' with ⟨rfl, w, _⟩ | ⟨_, e'⟩
    · subst w; cases htt
    · obtain ⟨v, q', r'⟩ := S.sh j d1 e'
      exact ⟨v, q', by rw [ea]; exact r'⟩
  · rcases getSet e' with ⟨rfl, w, _⟩ | ⟨hj, e'⟩
    · subst w
      have ed : d1 = d := by rcases ht with rfl | rfl <;> rcases h' with h' | h' <;> cases h' <;> rfl
      subst ed
      obtain ⟨b, q', r'⟩ := S.ow j s d1 e h
      exact ⟨b, q', by rw [ea]; exact r'⟩
    · obtain ⟨b, q', n', z', r'⟩ := S.ow j s' d1 e' h'
      exact ⟨b, q', n', z', by rw [ea]; exact r'⟩
  · have c1 : ∃ x, st[j]? = some x ∧ isOw x = true := by
      rcases getSet e1 with ⟨rfl, _, _⟩ | ⟨_, e1⟩
      · exact ⟨s, e, hs⟩
      · exact ⟨s', e1, o1⟩
    have c2 : ∃ x, st[k]? = some x ∧ isOw x = true := by
      rcases getSet e2 with ⟨rfl, _, _⟩ | ⟨_, e2⟩
      · exact ⟨s, e, hs⟩
      · exact ⟨u, e2, o2⟩
    obtain ⟨x, f1, g1⟩ := c1
    obtain ⟨y, f2, g2⟩ := c2
    exact S.dist j k x y a' f1 f2 g1 g2 q1 q2
/-- what stands in the old slots, behind a store at i -/
theorem own_store {i : Nat} {t : Slot} {x : Option V} {a : Addr} (h : OwnA (st.set i t) (σ.set i x) a) : OwnA st σ a ∨ (isOw t = true ∧ x = some (.ref a)) := by
  obtain ⟨j, s, e, o, q⟩ := h
  rcases getSet e with ⟨rfl, rfl, _⟩ | ⟨hj, e⟩
  · rcases getSet q with ⟨_, w, _⟩ | ⟨w, _⟩
    · exact .inr ⟨o, w.symm⟩
    · exact absurd rfl w
  · rw [List.getElem?_set_ne (Ne.symm hj)] at q
    exact .inl ⟨j, s, e, o, q⟩
theorem owm_store {i : Nat} {t : Slot} {x : Option V} {a : Addr} (h : OwM (st.set i t) (σ.set i x) a) : OwM st σ a ∨ ((∃ d, t = .ow d) ∧ x = some (.ref a)) := by
  obtain ⟨j, d, e, q⟩ := h
  rcases getSet e with ⟨rfl, h1, _⟩ | ⟨hj, e⟩
  · rcases getSet q with ⟨_, w, _⟩ | ⟨w, _⟩
    · exact .inr ⟨⟨d, h1.symm⟩, w.symm⟩
    · exact absurd rfl w
  · rw [List.getElem?_set_ne (Ne.symm hj)] at q
    exact .inl ⟨j, d, e, q⟩
/-- a value is stored -/
theorem SRel.store {i : Nat} {d : D} {v : V} (S : SRel K cm av H0 st σ H) (hi : i < st.length) (r : R K cm H (AV av st σ) v d) :
    SRel K cm av H0 (st.set i (.sh d)) (σ.set i (some v)) H ∧ Kp (VW av st σ) H (VW av (st.set i (.sh d)) (σ.set i (some v))) H := by
  have kp : Kp (VW av st σ) H (VW av (st.set i (.sh d)) (σ.set i (some v))) H := .of_sub vw_le (fun a h => h.imp id fun h => (own_store h).elim id fun z => by cases z.1) fun a h => (owm_store h).elim id fun z => by obtain ⟨⟨d', z⟩, _⟩ := z; cases z
  have hσ : i < σ.length := by rw [← S.len]; exact hi
  refine ⟨⟨by rw [List.length_set, List.length_set]; exact S.len, fun j d' e' => ?_, fun j s' d' e' h' => ?_, fun j k s' t a' e1 e2 o1 o2 q1 q2 => ?_, S.avd, S.base⟩, kp⟩
  · rcases getSet e' with ⟨rfl, w, _⟩ | ⟨hj, e'⟩
    · cases w; exact ⟨v, List.getElem?_set_self hσ, r.kp kp⟩
    · obtain ⟨v', q', r'⟩ := S.sh j d' e'
      exact ⟨v', by rw [List.getElem?_set_ne (Ne.symm hj)]; exact q', r'.kp kp⟩
  · rcases getSet e' with ⟨rfl, w, _⟩ | ⟨hj, e'⟩
    · subst w; rcases h' with h' | h' <;> cases h'
    · obtain ⟨b, q', n', z', r'⟩ := S.ow j s' d' e' h'
      exact ⟨b, by rw [List.getElem?_set_ne (Ne.symm hj)]; exact q', n', z', r'.kp kp fun _ x => x⟩
  · rcases getSet e1 with ⟨_, rfl, _⟩ | ⟨h1, e1⟩
    · cases o1
    · rcases getSet e2 with ⟨_, rfl, _⟩ | ⟨h2, e2⟩
      · cases o2
      · rw [List.getElem?_set_ne (Ne.symm h1)] at q1
        rw [List.getElem?_set_ne (Ne.symm h2)] at q2
        exact S.dist j k s' t a' e1 e2 o1 o2 q1 q2
/-- one address more to be avoided -/
def avP (av : Addr → Prop) (p : Addr) : Addr → Prop := fun a => av a ∨ a = p
theorem av_p {p : Addr} : AV (avP av p) st σ = fun a => AV av st σ a ∨ a = p := by
  funext a
  unfold AV avP
  exact propext ⟨fun h => h.elim (fun h => h.elim (fun h => .inl (.inl h)) .inr) fun h => .inl (.inr h), fun h => h.elim (fun h => h.elim (fun h => .inl (.inl h)) .inr) fun h => .inl (.inr h)⟩
theorem kp_p {p : Addr} : Kp (VW (avP av p) st σ) H (VW av st σ) H := .of_sub vw_le (fun a h => by show AV (avP av p) st σ a; rw [av_p]; exact .inl h) fun _ h => h
theorem kp_new {p : Addr} (h : H p = none) : Kp (VW av st σ) H (VW (avP av p) st σ) H := by
  refine ⟨vw_le, fun a o e h' z => ?_, fun _ _ _ x => x, fun _ _ e _ => e, fun _ _ e _ => e, fun _ h => h⟩
  have z' : AV (avP av p) st σ a := z
  rw [av_p] at z'
  rcases z' with z | z
  · exact h' z
  · subst z; rw [h] at e; cases e
/-- p is new: nothing leads to it -/
theorem SRel.avoid {p : Addr} (S : SRel K cm av H0 st σ H) (h : H p = none) (sm : Same H H') (hp : H' p ≠ none) : SRel K cm (avP av p) H0 st σ H' := by
  have kp : Kp (VW av st σ) H (VW (avP av p) st σ) H' := (kp_new h).trans (.of_same sm vw_le)
  refine ⟨S.len, fun i d e => ?_, fun i s d e q => ?_, S.dist, fun a z => ?_, S.base.trans sm⟩
  · obtain ⟨v, q, r⟩ := S.sh i d e
    exact ⟨v, q, r.kp kp⟩
  · obtain ⟨a, q', n, z, r⟩ := S.ow i s d e q
    refine ⟨a, q', ?_, z, r.kp kp (sm a)⟩
    rintro (w | w)
    · exact n w
    · subst w
      obtain ⟨u, e', _⟩ := r.mut
      rw [h] at e'; cases e'
  · rcases z with z | z
    · exact Same.dom sm a (S.avd a z)
    · subst z; exact hp
theorem SRel.unavoid {p : Addr} (S : SRel K cm (avP av p) H0 st σ H) : SRel K cm av H0 st σ H :=
  ⟨S.len, fun i d e => let ⟨v, q, r⟩ := S.sh i d e; ⟨v, q, r.kp kp_p⟩, fun i s d e q => let ⟨a, q', n, z, r⟩ := S.ow i s d e q; ⟨a, q', fun w => n (.inl w), z, r.kp kp_p fun _ x => x⟩, S.dist, fun a z => S.avd a (.inl z), S.base⟩
theorem SRel.notOwn {p : Addr} (S : SRel K cm (avP av p) H0 st σ H) : ¬ OwnA st σ p := fun z => (S.own z).1 (.inr rfl)
/-- a new object is stored: it is owned -/
theorem SRel.storeOw {i : Nat} {d : D} {p : Addr} (S : SRel K cm (avP av p) H0 st σ H) (hi : i < st.length) (np : ¬ av p) (z0 : H0 p = none) (r : RO K cm H (AV (avP av p) st σ) p d) :
    SRel K cm av H0 (st.set i (.ow d)) (σ.set i (some (.ref p))) H := by
  have sub : ∀ a, AV av (st.set i (.ow d)) (σ.set i (some (.ref p))) a → AV (avP av p) st σ a := fun a h => by
    rw [av_p]
    rcases h with h | h
    · exact .inl (.inl h)
    · rcases own_store h with h | ⟨_, h⟩
      · exact .inl (.inr h)
      · cases h; exact .inr rfl
  have kp : Kp (.fz (AV (avP av p) st σ)) H (.fz (AV av (st.set i (.ow d)) (σ.set i (some (.ref p))))) H := .fz (Same.refl H) fun a _ _ n z => n (sub a z)
  have hσ : i < σ.length := by rw [← S.len]; exact hi
  refine ⟨by rw [List.length_set, List.length_set]; exact S.len, fun j d' e' => ?_, fun j s' d' e' h' => ?_, fun j k s' t a' e1 e2 o1 o2 q1 q2 => ?_, fun a z => S.avd a (.inl z), S.base⟩
  · rcases getSet e' with ⟨rfl, w, _⟩ | ⟨hj, e'⟩
    · cases w
    · obtain ⟨v', q', r'⟩ := S.sh j d' e'
      exact ⟨v', by rw [List.getElem?_set_ne (Ne.symm hj)]; exact q', r'.kp kp⟩
  · rcases getSet e' with ⟨rfl, w, _⟩ | ⟨hj, e'⟩
    · subst w
      have ed : d' = d := by rcases h' with h' | h' <;> cases h'; rfl
      subst ed
      exact ⟨p, List.getElem?_set_self hσ, np, z0, r.kp kp fun _ x => x⟩
    · obtain ⟨b, q', n', z', r'⟩ := S.ow j s' d' e' h'
      exact ⟨b, by rw [List.getElem?_set_ne (Ne.symm hj)]; exact q', fun z => n' (.inl z), z', r'.kp kp fun _ x => x⟩
  · rcases getSet e1 with ⟨h1, hs1, _⟩ | ⟨h1, e1⟩
    · rcases getSet e2 with ⟨h2, hs2, _⟩ | ⟨h2, e2⟩
      · rw [h1, h2]
      · rw [List.getElem?_set_ne (Ne.symm h2)] at q2
        rw [h1, List.getElem?_set_self hσ] at q1
        cases q1
        exact absurd ⟨k, t, e2, o2, q2⟩ S.notOwn
    · rw [List.getElem?_set_ne (Ne.symm h1)] at q1
      rcases getSet e2 with ⟨h2, hs2, _⟩ | ⟨h2, e2⟩
      · rw [h2, List.getElem?_set_self hσ] at q2
        cases q2
        exact absurd ⟨j, s', e1, o1, q1⟩ S.notOwn
      · rw [List.getElem?_set_ne (Ne.symm h2)] at q2
        exact S.dist j k s' t a' e1 e2 o1 o2 q1 q2
end
end PD
set_option maxHeartbeats 1000000
namespace PD
open PySem PySem.Spec PyProof.Rows L2
theorem sz_line : SZ ≤ sizeLine := by decide
section
variable {K : PySem.W.Frag} {cm : Nat → Value} {H H' : Hp} {av av' : Addr → Prop} {v : V} {ds : List D} {d : D}
theorem RX.kp {w w' : Vw} (k : Kp w H w' H') (h : RX K cm H w.av v d) (ka : ∀ a o, v = .ref a → MutO o → H a = some o → H' a = some o) : RX K cm H' w'.av v d := by
  rcases h with h | ⟨a, rfl, h⟩
  · exact .inl (h.kp k)
  · obtain ⟨o, e, m⟩ := h.mut
    exact .inr ⟨a, rfl, h.kp k fun u q => by rw [e] at q; cases q; exact ka a o rfl m e⟩
theorem RX.of (h : R K cm H av v d) : RX K cm H av v d := .inl h
theorem RX.int {i : Int} (h : RX K cm H av v (.int i)) : v = .int i := by
  rcases h with h | ⟨_, _, h⟩ <;> cases h; rfl
theorem RX.bl {i : Bool} (h : RX K cm H av v (.bl i)) : v = .bl i := by
  rcases h with h | ⟨_, _, h⟩ <;> cases h; rfl
theorem RX.non (h : RX K cm H av v .non) : v = .non := by
  rcases h with h | ⟨_, _, h⟩ <;> cases h; rfl
theorem RX.str {x : Str} (h : RX K cm H av v (.str x)) : v = .str x := by
  rcases h with h | ⟨_, _, h⟩ <;> cases h; rfl
theorem RX.tup (h : RX K cm H av v (.tup ds)) : ∃ a vs, v = .ref a ∧ H a = some (.tup vs) ∧ Rs K cm H av vs ds := by
  rcases h with h | ⟨_, _, h⟩ <;> cases h
  exact ⟨_, _, rfl, ‹_›, ‹_›⟩
theorem RX.lst (h : RX K cm H av v (.lst ds)) : ∃ a vs, v = .ref a ∧ H a = some (.lst vs) ∧ Rs K cm H av vs ds := by
  rcases h with h | ⟨a, e, h⟩
  · cases h; exact ⟨_, _, rfl, ‹_›, ‹_›⟩
  · cases h; exact ⟨_, _, e, ‹_›, ‹_›⟩
theorem RX.scr {ns : List Int} (h : RX K cm H av v (.scr ns)) : ∃ a, v = .ref a ∧ ScrAt K H a (ns.map V.int) := by
  rcases h with h | ⟨_, _, h⟩ <;> cases h
  exact ⟨_, rfl, ‹_›⟩
theorem RX.exc {c : Nat} (h : RX K cm H av v (.exc c)) : ∃ a, v = .ref a ∧ H a = some (ExK (cm c) a) := by
  rcases h with h | ⟨_, _, h⟩ <;> cases h
  exact ⟨_, rfl, ‹_›⟩
theorem RX.dicK {kvs : List (D × D)} (h : RX K cm H av v (.dic false kvs)) : ∃ a ks, v = .ref a ∧ H a = some (.dK ks) ∧ RK K cm H av ks kvs := by
  rcases h with h | ⟨a, e, h⟩
  · cases h with
    | dK n e r => exact ⟨_, _, rfl, e, r⟩
  · cases h with
    | dK e' r => exact ⟨_, _, e, e', r⟩
theorem RX.dicT {kvs : List (D × D)} (h : RX K cm H av v (.dic true kvs)) : ∃ a ks, v = .ref a ∧ H a = some (.dT ks) ∧ RT K cm H av ks kvs := by
  rcases h with h | ⟨a, e, h⟩
  · cases h with
    | dT n e r => exact ⟨_, _, rfl, e, r⟩
  · cases h with
    | dT e' r => exact ⟨_, _, e, e', r⟩
/-! ### == -/
mutual
def toPD : D → PyData
  | .non => .none | .bl b => .bool b | .int i => .int i | .str x => .str x
  | .tup xs => .tuple (toPDs xs)
  | .lst xs => .list (toPDs xs)
  | _ => .none
def toPDs : List D → List PyData
  | [] => []
  | x :: r => toPD x :: toPDs r
end
theorem okN_tup {n : Nat} {xs : List D} (h : okN n (.tup xs) = true) : ∃ m, n = m + 1 ∧ xs.all (okN m) = true := by
  cases n with
  | zero => simp [okN] at h
  | succ m => exact ⟨m, rfl, by simpa [okN] using h⟩
theorem okN_lst {n : Nat} {xs : List D} (h : okN n (.lst xs) = true) : ∃ m, n = m + 1 ∧ xs.all (okN m) = true := by
  cases n with
  | zero => simp [okN] at h
  | succ m => exact ⟨m, rfl, by simpa [okN] using h⟩
mutual
theorem lay_ok : ∀ (d : D) (n : Nat), okN n d = true → (toPD d).canLay0 = true ∧ (toPD d).depth ≤ n
  | .non, _, _ => ⟨rfl, Nat.zero_le _⟩
  | .bl _, _, _ => ⟨rfl, Nat.zero_le _⟩
  | .int _, _, _ => ⟨rfl, Nat.zero_le _⟩
  | .str x, n, h => ⟨by cases n <;> exact h, Nat.zero_le _⟩
  | .tup xs, n, h => by
    obtain ⟨m, rfl, h⟩ := okN_tup h
    obtain ⟨a, b⟩ := lays_ok xs m h
    exact ⟨a, Nat.succ_le_succ b⟩
  | .lst xs, n, h => by
    obtain ⟨m, rfl, h⟩ := okN_lst h
    obtain ⟨a, b⟩ := lays_ok xs m h
    exact ⟨a, Nat.succ_le_succ b⟩
  | .scr _, n, h => by cases n <;> simp [okN] at h
  | .dic _ _, n, h => by cases n <;> simp [okN] at h
  | .exc _, n, h => by cases n <;> simp [okN] at h
theorem lays_ok : ∀ (ds : List D) (n : Nat), ds.all (okN n) = true → PyData.canLayAll0 (toPDs ds) = true ∧ PyData.depthAll (toPDs ds) ≤ n
  | [], _, _ => ⟨rfl, Nat.zero_le _⟩
  | d :: r, n, h => by
    rw [List.all_cons, Bool.and_eq_true] at h
    obtain ⟨a, b⟩ := lay_ok d n h.1
    obtain ⟨a', b'⟩ := lays_ok r n h.2
    exact ⟨by simp [toPDs, PyData.canLayAll0, a, a'], by simp only [toPDs, PyData.depthAll]; omega⟩
end
theorem shaped_ok {d : D} (h : okN 60 d = true) : SeqAt.shaped (toPD d) = true := by
  obtain ⟨a, b⟩ := lay_ok d 60 h
  simp only [SeqAt.shaped, a, Bool.true_and, decide_eq_true_eq]; omega
mutual
theorem dp_ok : ∀ (d : D) (n : Nat) {v : V}, okN n d = true → R K cm H av v d → Dp K H v (toPD d)
  | .non, _, _, _, .non => .non
  | .bl _, _, _, _, .bl b => .bl b
  | .int _, _, _, _, .int b => .int b
  | .str _, _, _, _, .str b => .str b
  | .tup ds, n, _, h, .tup e r => by
    obtain ⟨m, rfl, h⟩ := okN_tup h
    exact .tup (SqT.of e) (dps_ok ds m h r)
  | .lst ds, n, _, h, .lst _ e r => by
    obtain ⟨m, rfl, h⟩ := okN_lst h
    exact .lst (SqL.of e) (dps_ok ds m h r)
  | .scr _, n, _, h, _ => by cases n <;> simp [okN] at h
  | .dic _ _, n, _, h, _ => by cases n <;> simp [okN] at h
  | .exc _, n, _, h, _ => by cases n <;> simp [okN] at h
theorem dps_ok : ∀ (ds : List D) (n : Nat) {vs : List V}, ds.all (okN n) = true → Rs K cm H av vs ds → DpAll K H vs (toPDs ds)
  | [], _, _, _, .nil => .nil
  | d :: r, n, _, h, .cons a q => by
    rw [List.all_cons, Bool.and_eq_true] at h
    exact .cons (dp_ok d n h.1 a) (dps_ok r n h.2 q)
end
theorem dpx_ok {d : D} {n : Nat} (h : okN n d = true) (r : RX K cm H av v d) : Dp K H v (toPD d) := by
  rcases r with r | ⟨a, rfl, r⟩
  · exact dp_ok d n h r
  · cases r with
    | lst e r =>
      obtain ⟨m, rfl, h⟩ := okN_lst h
      exact .lst (SqL.of e) (dps_ok _ m h r)
    | dK _ _ => cases n <;> simp [okN] at h
    | dT _ _ => cases n <;> simp [okN] at h
mutual
theorem eqv_ok : ∀ (d e : D) (n : Nat), okN n d = true → okN n e = true → PyData.eqv (toPD d) (toPD e) = dEq d e
  | .tup xs, e, n, h, h' => by
    obtain ⟨m, rfl, h⟩ := okN_tup h
    cases e with
    | tup ys => obtain ⟨m', e', h'⟩ := okN_tup h'; cases e'; simp only [toPD, PyData.eqv, dEq]; exact eqvs_ok xs ys m h h'
    | scr ns => simp [okN] at h'
    | dic _ _ => simp [okN] at h'
    | exc _ => simp [okN] at h'
    | _ => simp [toPD, PyData.eqv, dEq]
  | .lst xs, e, n, h, h' => by
    obtain ⟨m, rfl, h⟩ := okN_lst h
    cases e with
    | lst ys => obtain ⟨m', e', h'⟩ := okN_lst h'; cases e'; simp only [toPD, PyData.eqv, dEq]; exact eqvs_ok xs ys m h h'
    | scr ns => simp [okN] at h'
    | dic _ _ => simp [okN] at h'
    | exc _ => simp [okN] at h'
    | _ => simp [toPD, PyData.eqv, dEq]
  | .scr ns, e, n, h, _ => by cases n <;> simp [okN] at h
  | .dic _ _, e, n, h, _ => by cases n <;> simp [okN] at h
  | .exc _, e, n, h, _ => by cases n <;> simp [okN] at h
  | .non, e, n, h, h' => by cases e <;> first | (simp [toPD, PyData.eqv, dEq]; done) | (cases n <;> simp [okN] at h')
  | .bl _, e, n, h, h' => by cases e <;> first | (simp [toPD, PyData.eqv, dEq]; done) | (cases n <;> simp [okN] at h')
  | .int _, e, n, h, h' => by cases e <;> first | (simp [toPD, PyData.eqv, dEq]; done) | (cases n <;> simp [okN] at h')
  | .str _, e, n, h, h' => by cases e <;> first | (simp [toPD, PyData.eqv, dEq]; done) | (cases n <;> simp [okN] at h')
theorem eqvs_ok : ∀ (ds es : List D) (n : Nat), ds.all (okN n) = true → es.all (okN n) = true → PyData.eqvAll (toPDs ds) (toPDs es) = dEqs ds es
  | [], [], _, _, _ => rfl
  | [], e :: es, _, _, _ => by simp [toPDs, PyData.eqvAll, dEqs]
  | d :: ds, [], _, _, _ => by simp [toPDs, PyData.eqvAll, dEqs]
  | d :: ds, e :: es, n, h, h' => by
    rw [List.all_cons, Bool.and_eq_true] at h h'
    simp only [toPDs, PyData.eqvAll, dEqs]
    rw [eqvs_ok ds es n h.2 h'.2, eqv_ok d e n h.1 h'.1]
end
/-! ### results of operations on values -/
/-- a new object, or a value -/
inductive VN (K : PySem.W.Frag) (cm : Nat → Value) (av : Addr → Prop) (H : Hp) : Bool → D → V → Hp → Prop
  | sh {d : D} {v : V} {H' : Hp} : Same H H' → R K cm H' av v d → VN K cm av H false d v H'
  | fr {d : D} {p : Addr} {H' : Hp} : H p = none → Same H H' → RO K cm H' (fun a => av a ∨ a = p) p d → VN K cm av H true d (.ref p) H'
theorem same_upd {p : Addr} {o : HO} (h : H p = none) : Same H (upd H p o) := fun b u e => by rw [upd_ne (ne_of_none e h)]; exact e
theorem kp_upd {p : Addr} {o : HO} (h : H p = none) : Kp (.fz av) H (.fz fun a => av a ∨ a = p) (upd H p o) := by
  refine .fz (same_upd h) fun a u e n z => ?_
  rcases z with z | z
  · exact n z
  · subst z; rw [h] at e; cases e
theorem kp_s (s : Same H H') : Kp (.fz av) H (.fz av) H' := .fz s fun _ _ _ h => h
/-- a new list -/
theorem VN.lst {p : Addr} {vs : List V} (h : H p = none) (r : Rs K cm H av vs ds) : VN K cm av H true (.lst ds) (.ref p) (upd H p (.lst vs)) := .fr h (same_upd h) (.lst upd_same (r.kp (kp_upd h)))
/-- a new tuple -/
theorem VN.tup {p : Addr} {vs : List V} (h : H p = none) (r : Rs K cm H av vs ds) : VN K cm av H false (.tup ds) (.ref p) (upd H p (.tup vs)) :=
  .sh (same_upd h) (.tup upd_same (r.kp (kp_s (same_upd h))))
theorem VN.here (r : R K cm H av v d) : VN K cm av H false d v H := .sh (Same.refl H) r
def rB (K : PySem.W.Frag) (cm : Nat → Value) (av : Addr → Prop) (f : D → D → Option (Bool × D)) : R2 := fun x y H Q =>
  ∃ d e fr r, RX K cm H av x d ∧ RX K cm H av y e ∧ f d e = some (fr, r) ∧ ∀ v H', VN K cm av H fr r v H' → Q v H'
end
def bopO : Bop → Operator
  | .add => .Add | .sub => .Sub | .mul => .Mult | .fdiv => .FloorDiv | .mod => .Mod | .pow => .Pow
set_option exponentiation.threshold 5000 in
theorem log2_big {i : Int} (h : i.natAbs < BIG) : i.natAbs.log2 < 4000 := PySem.Flt.log2_lt_of (by decide) h
theorem CMul.of {i j : Int} (h : i.natAbs < 2 ^ 64 ∨ j.natAbs < 2 ^ 64) : CMul i j := by
  rcases h with h | h
  · left; omega
  · right; omega
theorem Rs.repl {K : PySem.W.Frag} {cm : Nat → Value} {H : Hp} {av : Addr → Prop} {vs : List V} {ds : List D} (r : Rs K cm H av vs ds) : ∀ n : Nat, Rs K cm H av (List.replicate n vs).flatten (List.replicate n ds).flatten
  | 0 => .nil
  | n + 1 => by rw [List.replicate_succ, List.replicate_succ, List.flatten_cons, List.flatten_cons]; exact r.append (Rs.repl r n)
theorem opr_bin {X : Cx} {cm : Nat → Value} {av : Addr → Prop} (o : Bop) : OpR X (binaryOp (bopO o)) (rB X.K cm av (binD o)) := by
  intro pins s σ H x y v u Q I rx ry h
  obtain ⟨d, e, fr, r, hx, hy, hf, q⟩ := h
  have I0 := I
  unfold binD at hf
  split at hf
  · cases hf; exact op_add pins s σ H x y v u Q I rx ry ⟨_, _, hx.int, hy.int, q _ _ (.here (.int _))⟩
  · split at hf
    · rename_i hz; cases hf; exact op_add_str pins s σ H x y v u Q I rx ry ⟨_, _, hx.str, hy.str, Nat.le_trans hz sz_line, q _ _ (.here (.str _))⟩
    · cases hf
  · split at hf
    · rename_i ds es hz
      cases hf
      obtain ⟨a, xs, ex, ha, rxs⟩ := hx.tup
      obtain ⟨b, ys, ey, hb, rys⟩ := hy.tup
      refine op_catA pins s σ H x y v u Q I rx ry ⟨a, b, xs, ys, ex, ey, SqT.of ha, SqT.of hb, by rw [rxs.length, rys.length]; exact Nat.le_trans hz sz_line, fun e0 => ?_, fun _ e0 => ?_, fun _ _ p hp => q _ _ (.tup hp (rxs.append rys))⟩
      · subst e0; cases rxs
        exact q _ _ (.here (.tup hb rys))
      · subst e0; cases rys
        rw [List.append_nil] at q
        exact q _ _ (.here (.tup ha rxs))
    · cases hf
  · split at hf
    · rename_i ds es hz
      cases hf
      obtain ⟨a, xs, ex, ha, rxs⟩ := hx.lst
      obtain ⟨b, ys, ey, hb, rys⟩ := hy.lst
      exact op_cat pins s σ H x y v u Q I rx ry ⟨a, b, xs, ys, ex, ey, ha, hb, by rw [rxs.length, rys.length]; exact Nat.le_trans hz sz_line, fun p hp => q _ _ (.lst hp (rxs.append rys))⟩
    · cases hf
  · cases hf; exact op_sub pins s σ H x y v u Q I rx ry ⟨_, _, hx.int, hy.int, q _ _ (.here (.int _))⟩
  · split at hf
    · rename_i hz; cases hf
      rcases hz with hz | hz
      · exact op_mul pins s σ H x y v u Q I rx ry ⟨_, _, hx.int, hy.int, CMul.of hz, q _ _ (.here (.int _))⟩
      · exact op_mulW pins s σ H x y v u Q I rx ry ⟨_, _, hx.int, hy.int, (by have a := log2_big hz.1; have b := log2_big hz.2; unfold CMulW; omega), q _ _ (.here (.int _))⟩
    · cases hf
  · split at hf
    · rename_i ds j hz
      cases hf
      obtain ⟨a, xs, ex, ha, rxs⟩ := hx.lst
      exact op_rep pins s σ H x y v u Q I rx ry ⟨a, j, xs, ex, hy.int, ha, by omega, by omega, (by
        have h1 : xs.length ≤ 1000 := by rw [rxs.length]; exact hz.2.2
        have h2 : j.toNat ≤ 1000 := by omega
        exact Nat.le_trans (Nat.mul_le_mul h1 h2) (by decide)), fun p hp => q _ _ (.lst hp (rxs.repl _))⟩
    · cases hf
  · split at hf
    · rename_i hz; cases hf
      exact op_fdivW pins s σ H x y v u Q I rx ry ⟨_, _, hx.int, hy.int, ⟨hz.1, Nat.lt_trans (log2_big hz.2) (by decide)⟩, q _ _ (.here (.int _))⟩
    · cases hf
  · split at hf
    · rename_i hz; cases hf
      exact op_mod pins s σ H x y v u Q I rx ry ⟨_, _, hx.int, hy.int, hz, q _ _ (.here (.int _))⟩
    · cases hf
  · split at hf
    · rename_i hz; cases hf
      exact op_pow pins s σ H x y v u Q I rx ry ⟨_, _, hx.int, hy.int, ⟨hz.1, Int.le_trans hz.2.1 (by decide), hz.2.2⟩, q _ _ (.here (.int _))⟩
    · cases hf
  · cases hf
end PD
set_option maxHeartbeats 1000000
namespace PD
open PySem PySem.Spec PyProof.Rows L2
section
variable {X : Cx} {cm : Nat → Value} {av : Addr → Prop}
def rC (K : PySem.W.Frag) (cm : Nat → Value) (av : Addr → Prop) (f : D → D → Option Bool) : R2 := fun x y H Q =>
  ∃ d e b, RX K cm H av x d ∧ RX K cm H av y e ∧ f d e = some b ∧ Q (.bl b) H
def copO : Cop → CmpOp
  | .eq => .Eq | .ne => .NotEq | .lt => .Lt | .le => .LtE | .gt => .Gt | .ge => .GtE | .isIn => .In | .notIn => .NotIn | .is => .Is | .isNot => .IsNot
theorem scr_empty {H : Hp} {v : V} {ns : List Int} (h : RX X.K cm H av v (.scr ns)) : ∃ d, Dp X.K H v d ∧ SeqAt.shaped d = true ∧ PyData.eqv d (.list []) = ns.isEmpty := by
  obtain ⟨a, ea, hsc⟩ := RX.scr h
  subst ea
  have dp : ∀ ns : List Int, DpAll X.K H (ns.map V.int) (ns.map PyData.int) := fun ns => by
    induction ns with
    | nil => exact .nil
    | cons n r ih => exact .cons (.int n) ih
  have sh : ∀ ns : List Int, PyData.canLayAll0 (ns.map PyData.int) = true ∧ PyData.depthAll (ns.map PyData.int) = 0 := fun ns => by
    induction ns with
    | nil => exact ⟨rfl, rfl⟩
    | cons n r ih => exact ⟨by simp [PyData.canLayAll0, PyData.canLay0, ih.1], by simp [PyData.depthAll, PyData.depth, ih.2]⟩
  refine ⟨.list (ns.map .int), .lst hsc.sq (dp ns), ?_, ?_⟩
  · have e : PyData.depth (.list (ns.map .int)) = 1 := by show PyData.depthAll _ + 1 = 1; rw [(sh ns).2]
    unfold SeqAt.shaped
    rw [e]
    show (PyData.canLayAll0 _ && _) = true
    rw [(sh ns).1]; rfl
  · cases ns <;> simp [PyData.eqv, PyData.eqvAll]
theorem eqD_dp {H : Hp} {x y : V} {d e : D} {b : Bool} (hx : RX X.K cm H av x d) (hy : RX X.K cm H av y e) (hf : eqD d e = some b) :
    ∃ p q, Dp X.K H x p ∧ Dp X.K H y q ∧ SeqAt.shaped p = true ∧ SeqAt.shaped q = true ∧ PyData.eqv p q = b := by
  unfold eqD at hf
  split at hf
  · cases hf
    obtain ⟨p, h1, h2, h3⟩ := scr_empty hx
    obtain ⟨a, vs, rfl, ha, r⟩ := hy.lst
    cases r
    exact ⟨p, .list [], h1, .lst (SqL.of ha) .nil, h2, rfl, h3⟩
  · split at hf
    · rename_i h
      cases hf
      rw [Bool.and_eq_true] at h
      exact ⟨toPD d, toPD e, dpx_ok h.1 hx, dpx_ok h.2 hy, shaped_ok h.1, shaped_ok h.2, eqv_ok d e 60 h.1 h.2⟩
    · cases hf
theorem icmp_of {f : Int → Int → Bool} {d e : D} {b : Bool} (h : icmp f d e = some b) : ∃ i j, d = .int i ∧ e = .int j ∧ b = f i j := by
  unfold icmp at h
  split at h
  · cases h; exact ⟨_, _, rfl, rfl, rfl⟩
  · cases h
/-- served comparisons -/
def copOk : Cop → Bool
  | _ => true
theorem any_eqv {x : D} {n : Nat} (hx : okN n x = true) : ∀ {ys : List D}, ys.all (okN n) = true → ((toPDs ys).any fun z => PyData.eqv z (toPD x)) = ys.any fun y => dEq y x
  | [], _ => rfl
  | y :: r, h => by
    rw [List.all_cons, Bool.and_eq_true] at h
    simp only [toPDs, List.any_cons]
    rw [eqv_ok y x n h.1 hx, any_eqv hx h.2]
theorem okN_up : ∀ {d : D} {n : Nat}, okN n d = true → okN (n + 1) d = true
  | .non, _, _ => by simp [okN]
  | .bl _, _, _ => by simp [okN]
  | .int _, _, _ => by simp [okN]
  | .str _, n, h => by cases n <;> simpa [okN] using h
  | .tup xs, n, h => by
    obtain ⟨m, rfl, h⟩ := okN_tup h
    simp only [okN, List.all_eq_true] at h ⊢
    exact fun x hx => okN_up (h x hx)
  | .lst xs, n, h => by
    obtain ⟨m, rfl, h⟩ := okN_lst h
    simp only [okN, List.all_eq_true] at h ⊢
    exact fun x hx => okN_up (h x hx)
  | .scr _, n, h => by cases n <;> simp [okN] at h
  | .dic _ _, n, h => by cases n <;> simp [okN] at h
  | .exc _, n, h => by cases n <;> simp [okN] at h
theorem in_dp {H : Hp} {x y : V} {d e : D} {b : Bool} (hx : RX X.K cm H av x d) (hy : RX X.K cm H av y e) (hf : inD d e = some b) :
    ∃ p qs, Dp X.K H x p ∧ SeqAt.shaped p = true ∧ ((Dp X.K H y (.list qs) ∧ SeqAt.shaped (.list qs) = true) ∨ (Dp X.K H y (.tuple qs) ∧ SeqAt.shaped (.tuple qs) = true)) ∧ (qs.any fun z => PyData.eqv z p) = b := by
  unfold inD at hf
  split at hf
  · rename_i ys
    split at hf
    · rename_i h
      cases hf
      rw [Bool.and_eq_true] at h
      obtain ⟨m, e1, h2⟩ := okN_lst h.2
      have hu : ys.all (okN 60) = true := by
        rw [List.all_eq_true] at h2 ⊢
        intro y hy
        rw [e1]
        exact okN_up (h2 y hy)
      exact ⟨toPD d, toPDs ys, dpx_ok h.1 hx, shaped_ok h.1, .inl ⟨dpx_ok h.2 hy, shaped_ok h.2⟩, any_eqv h.1 hu⟩
    · cases hf
  · rename_i ys
    split at hf
    · rename_i h
      cases hf
      rw [Bool.and_eq_true] at h
      obtain ⟨m, e1, h2⟩ := okN_tup h.2
      have hu : ys.all (okN 60) = true := by
        rw [List.all_eq_true] at h2 ⊢
        intro y hy
        rw [e1]
        exact okN_up (h2 y hy)
      exact ⟨toPD d, toPDs ys, dpx_ok h.1 hx, shaped_ok h.1, .inr ⟨dpx_ok h.2 hy, shaped_ok h.2⟩, any_eqv h.1 hu⟩
    · cases hf
  · cases hf
/-- is -/
theorem isC_of {H : Hp} {x y : V} {d e : D} {b : Bool} (hx : RX X.K cm H av x d) (hy : RX X.K cm H av y e) (hf : isC d e = some b) : (y = .non ∧ b = decide (x = .non)) ∨ ∃ a c, x = .bl a ∧ y = .bl c ∧ b = decide (a = c) := by
  unfold isC at hf
  split at hf
  · left
    refine ⟨RX.non hy, ?_⟩
    split at hf
    · cases hf; rw [RX.non hx]; rfl
    · rename_i hd
      cases hf
      have : x ≠ .non := by
        intro z
        subst z
        rcases hx with r | ⟨_, e, _⟩
        · cases r; exact hd rfl
        · cases e
      rw [decide_eq_false this]
  · right
    cases hf
    exact ⟨_, _, RX.bl hx, RX.bl hy, by cases ‹Bool› <;> cases ‹Bool› <;> rfl⟩
  · cases hf
theorem room_sh {A : Around} {xs : List PyData} {d : PyData} (hd : SeqAt.shaped d = true) (hu : A.units + 65 < cLine) : A.units + 1 + min (PyData.depthAll xs) d.depth < cLine := by
  simp only [SeqAt.shaped, Bool.and_eq_true, decide_eq_true_eq] at hd
  have := Nat.min_le_right (PyData.depthAll xs) d.depth
  omega
theorem leD_of {d e : D} {b : Bool} (h : leD d e = some b) : (∃ i j, d = .int i ∧ e = .int j ∧ b = decide (i ≤ j)) ∨ ∃ i j k l, d = .tup [.int i, .int j] ∧ e = .tup [.int k, .int l] ∧ b = decide (i < k ∨ (i = k ∧ j ≤ l)) := by
  unfold leD at h
  split at h
  · cases h; exact .inl ⟨_, _, rfl, rfl, rfl⟩
  · cases h; exact .inr ⟨_, _, _, _, rfl, rfl, rfl⟩
  · cases h
theorem rs_two {K : PySem.W.Frag} {cm : Nat → Value} {H : Hp} {av : Addr → Prop} {vs : List V} {i j : Int} (h : Rs K cm H av vs [.int i, .int j]) : vs = [V.int i, V.int j] := by
  cases h with
  | cons h1 h2 =>
    cases h2 with
    | cons h3 h4 =>
      cases h4
      cases h1
      cases h3
      rfl
theorem lex_two (a b c d : Int) : Ob.lexAt (fun j => decide (([a, b] : List Int).getD j 0 = ([c, d] : List Int).getD j 0)) (fun j => decide (([a, b] : List Int).getD j 0 ≤ ([c, d] : List Int).getD j 0)) (decide (([a, b] : List Int).length ≤ ([c, d] : List Int).length)) 0 (min ([a, b] : List Int).length ([c, d] : List Int).length) = decide (a < c ∨ (a = c ∧ b ≤ d)) := by
  show (if decide (a = c) = true then (if decide (b = d) = true then true else decide (b ≤ d)) else decide (a ≤ c)) = _
  by_cases h1 : a = c
  · by_cases h2 : b = d
    · simp [h1, h2]
    · simp [h1, h2]
  · rw [decide_eq_false h1, if_neg (by decide), decide_eq_decide]
    omega
theorem opr_cmp (hu : X.A.units + 65 < cLine) (o : Cop) (ho : copOk o = true) : OpR X (compareOp (copO o)) (rC X.K cm av (cmpD o)) := by
  intro pins s σ H x y v u Q I rx ry h
  obtain ⟨d, e, b, hx, hy, hf, q⟩ := h
  cases o with
  | eq =>
    obtain ⟨p, p', h1, h2, h3, h4, h5⟩ := eqD_dp hx hy hf
    exact op_eqD (by omega) pins s σ H x y v u Q I rx ry ⟨p, p', h1, h2, h3, h4, by rw [h5]; exact q⟩
  | ne =>
    simp only [cmpD, Option.map_eq_some_iff] at hf
    obtain ⟨c, hf, rfl⟩ := hf
    obtain ⟨p, p', h1, h2, h3, h4, h5⟩ := eqD_dp hx hy hf
    exact op_neD (by omega) pins s σ H x y v u Q I rx ry ⟨p, p', h1, h2, h3, h4, by rw [h5]; exact q⟩
  | lt => obtain ⟨i, j, rfl, rfl, rfl⟩ := icmp_of hf; exact op_lt pins s σ H x y v u Q I rx ry ⟨_, _, hx.int, hy.int, q⟩
  | le =>
    rcases leD_of hf with ⟨i, j, rfl, rfl, rfl⟩ | ⟨i, j, k, l, rfl, rfl, rfl⟩
    · exact op_le pins s σ H x y v u Q I rx ry ⟨_, _, hx.int, hy.int, q⟩
    · obtain ⟨p1, v1, e1, h1, r1⟩ := hx.tup
      obtain ⟨p2, v2, e2, h2, r2⟩ := hy.tup
      rw [rs_two r1] at h1
      rw [rs_two r2] at h2
      exact op_leT (by omega) pins s σ H x y v u Q I rx ry ⟨p1, p2, [i, j], [k, l], e1, e2, SqT.of h1, SqT.of h2, by rw [lex_two]; exact q⟩
  | gt => obtain ⟨i, j, rfl, rfl, rfl⟩ := icmp_of hf; exact op_gt pins s σ H x y v u Q I rx ry ⟨_, _, hx.int, hy.int, q⟩
  | ge => obtain ⟨i, j, rfl, rfl, rfl⟩ := icmp_of hf; exact op_ge pins s σ H x y v u Q I rx ry ⟨_, _, hx.int, hy.int, q⟩
  | isIn =>
    obtain ⟨p, qs, h1, h2, h3, h4⟩ := in_dp hx hy hf
    obtain ⟨bs, r1⟩ := Dp.reads I p x v h1 rx
    rcases h3 with ⟨h3, h5⟩ | ⟨h3, h5⟩
    · obtain ⟨as, r2⟩ := Dp.reads I _ y u h3 ry
      exact SeqAt.in_list_reads r2 r1 (SeqAt.canLay_of_shaped h5) (SeqAt.canLay_of_shaped h2) (room_sh h2 hu) ⟨.bl _, H, I, rfl, by rw [h4]; exact q⟩
    · obtain ⟨as, r2⟩ := Dp.reads I _ y u h3 ry
      exact SeqAt.in_tuple_reads r2 r1 (SeqAt.canLay_of_shaped h5) (SeqAt.canLay_of_shaped h2) (room_sh h2 hu) ⟨.bl _, H, I, rfl, by rw [h4]; exact q⟩
  | notIn =>
    simp only [cmpD, Option.map_eq_some_iff] at hf
    obtain ⟨c, hf, rfl⟩ := hf
    obtain ⟨p, qs, h1, h2, h3, h4⟩ := in_dp hx hy hf
    obtain ⟨bs, r1⟩ := Dp.reads I p x v h1 rx
    rcases h3 with ⟨h3, h5⟩ | ⟨h3, h5⟩
    · obtain ⟨as, r2⟩ := Dp.reads I _ y u h3 ry
      exact SeqAt.notIn_list_reads r2 r1 (SeqAt.canLay_of_shaped h5) (SeqAt.canLay_of_shaped h2) (room_sh h2 hu) ⟨.bl _, H, I, rfl, by rw [h4]; exact q⟩
    · obtain ⟨as, r2⟩ := Dp.reads I _ y u h3 ry
      exact SeqAt.notIn_tuple_reads r2 r1 (SeqAt.canLay_of_shaped h5) (SeqAt.canLay_of_shaped h2) (room_sh h2 hu) ⟨.bl _, H, I, rfl, by rw [h4]; exact q⟩
  | is =>
    rcases isC_of hx hy hf with ⟨h1, h2⟩ | ⟨a, c, h1, h2, h3⟩
    · exact op_isN pins s σ H x y v u Q I rx ry ⟨h1, by rw [← h2]; exact q⟩
    · exact op_isBl pins s σ H x y v u Q I rx ry ⟨a, c, h1, h2, by rw [← h3]; exact q⟩
  | isNot =>
    simp only [cmpD, Option.map_eq_some_iff] at hf
    obtain ⟨c, hf, rfl⟩ := hf
    rcases isC_of hx hy hf with ⟨h1, h2⟩ | ⟨a, c, h1, h2, h3⟩
    · exact op_notN pins s σ H x y v u Q I rx ry ⟨h1, by rw [← h2]; exact q⟩
    · exact op_notBl pins s σ H x y v u Q I rx ry ⟨a, c, h1, h2, by rw [← h3]; exact q⟩
/-! ### places -/
theorem ixAt_eq (n : Nat) (i : Int) : ixAt n i = ixN n i := rfl
theorem atD_of {H : Hp} {vs : List V} {ds : List D} {i : Int} {d : D} (r : Rs X.K cm H av vs ds) (h : atD ds i = some d) : ∃ v, atI vs i = some v ∧ R X.K cm H av v d := by
  unfold atD at h
  rw [Option.bind_eq_some_iff] at h
  obtain ⟨j, h1, h2⟩ := h
  obtain ⟨v, e, rv⟩ := r.get h2
  refine ⟨v, ?_, rv⟩
  unfold atI
  rw [r.length, ← ixAt_eq, h1]
  exact e
def rIxD (K : PySem.W.Frag) (cm : Nat → Value) (av : Addr → Prop) : R2 := fun x y H Q =>
  ∃ d e r, RX K cm H av x d ∧ RX K cm H av y e ∧ ixD d e = some r ∧ (∀ t kvs, d ≠ .dic t kvs) ∧ ∀ v, R K cm H av v r → Q v H
theorem ixr_d : IxR X (rIxD X.K cm av) := by
  intro value slice pins s σ H x y v u Q I rx ry h hs
  obtain ⟨d, e, r, hx, hy, hf, nd, q⟩ := h
  unfold ixD at hf
  split at hf
  · rename_i ns i
    rw [Option.bind_eq_some_iff] at hf
    obtain ⟨j, h1, h2⟩ := hf
    rw [Option.map_eq_some_iff] at h2
    obtain ⟨n, h2, rfl⟩ := h2
    obtain ⟨a, ea, ha⟩ := hx.scr
    refine ix_list value slice pins s σ H x y v u Q I rx ry ⟨a, _, i, .int n, ea, hy.int, ha.sq, ?_, q _ (.int _)⟩ hs
    unfold atI
    rw [List.length_map, ← ixAt_eq, h1]
    show (ns.map V.int)[j]? = _
    rw [List.getElem?_map, h2]; rfl
  · obtain ⟨a, vs, ea, ha, rs⟩ := hx.lst
    obtain ⟨w, hw, rw_⟩ := atD_of rs hf
    exact ix_list value slice pins s σ H x y v u Q I rx ry ⟨a, _, _, w, ea, hy.int, SqL.of ha, hw, q _ rw_⟩ hs
  · obtain ⟨a, vs, ea, ha, rs⟩ := hx.tup
    obtain ⟨w, hw, rw_⟩ := atD_of rs hf
    exact ix_tup value slice pins s σ H x y v u Q I rx ry ⟨a, _, _, w, ea, hy.int, SqT.of ha, hw, q _ rw_⟩ hs
  · rename_i z i
    split at hf
    · rename_i hz
      rw [Option.bind_eq_some_iff] at hf
      obtain ⟨j, h1, h2⟩ := hf
      rw [Option.map_eq_some_iff] at h2
      obtain ⟨n, h2, rfl⟩ := h2
      refine ix_str value slice pins s σ H x y v u Q I rx ry ⟨z, i, n, hx.str, hy.int, Nat.le_trans hz sz_line, ?_, q _ (.str _)⟩ hs
      unfold atI
      have el : z.cps.toList.length = z.length := by simp [Str.length]
      rw [el, ← ixAt_eq, h1]
      exact h2
    · cases hf
  · exact absurd rfl (nd _ _)
  · cases hf
/-! ### slices -/
theorem cut_le {α : Type} {xs : List α} {lo hi : Nat} : (cut xs lo hi).length ≤ xs.length := by
  unfold cut; rw [List.length_take, List.length_drop]; omega
theorem Rs.cut {H : Hp} {vs : List V} {ds : List D} (r : Rs X.K cm H av vs ds) (lo hi : Nat) : Rs X.K cm H av (cut vs lo hi) (cut ds lo hi) := (r.drop lo).take _
theorem cutV_eq (xs : List V) (lo hi : Option Int) : cutV xs lo hi = cut xs ((lo.map (cutIx xs.length)).getD 0) ((hi.map (cutIx xs.length)).getD xs.length) := by
  unfold cutV cut
  have h1 : ∀ d o, HT.sIx xs.length d o = (Option.map (cutIx xs.length) o).getD d := fun d o => by cases o <;> rfl
  rw [h1, h1]
theorem cut_all {α : Type} {xs : List α} {lo hi : Nat} (h1 : lo = 0) (h2 : hi = xs.length) : cut xs lo hi = xs := by
  subst h1; subst h2; unfold cut; simp
def rSlD (K : PySem.W.Frag) (cm : Nat → Value) (av : Addr → Prop) : V → Option Int → Option Int → Hp → VK → Prop := fun x lo hi H Q =>
  ∃ d fr r, RX K cm H av x d ∧ slD d lo hi = some (fr, r) ∧ ∀ v H', VN K cm av H fr r v H' → Q v H'
theorem slr_d : SlR X (rSlD X.K cm av) := by
  intro pins s σ H x v vl vu lo hi sl Q I rx hs pl pu h
  obtain ⟨d, fr, r, hx, hf, q⟩ := h
  cases d with
  | lst ds =>
    simp only [slD, Option.some.injEq, Prod.mk.injEq] at hf
    obtain ⟨rfl, rfl⟩ := hf
    obtain ⟨a, vs, ea, ha, rs⟩ := hx.lst
    refine sl_list pins s σ H x v vl vu lo hi sl Q I rx hs pl pu ⟨a, vs, ea, SqL.of ha, fun p hp => q _ _ ?_⟩
    rw [cutV_eq, ← rs.length]
    exact .lst hp (rs.cut _ _)
  | tup ds =>
    simp only [slD, Option.some.injEq, Prod.mk.injEq] at hf
    obtain ⟨rfl, rfl⟩ := hf
    obtain ⟨a, vs, ea, ha, rs⟩ := hx.tup
    have e1 : ∀ o, HT.sIx vs.length 0 o = (Option.map (cutIx ds.length) o).getD 0 := fun o => by rw [rs.length]; cases o <;> rfl
    have e2 : ∀ o, HT.sIx vs.length vs.length o = (Option.map (cutIx ds.length) o).getD ds.length := fun o => by rw [rs.length]; cases o <;> rfl
    refine sl_tupA pins s σ H x v vl vu lo hi sl Q I rx hs pl pu ⟨a, vs, ea, SqT.of ha, fun ⟨z1, z2⟩ => q _ _ ?_, fun _ p hp => q _ _ ?_⟩
    · rw [cut_all (by rw [← e1]; exact z1) (by rw [← e2, z2, rs.length])]
      exact .here (.tup ha rs)
    · rw [cutV_eq, ← rs.length]
      exact .tup hp (rs.cut _ _)
  | str z =>
    simp only [slD] at hf
    split at hf
    · rename_i hz
      cases hf
      refine sl_str pins s σ H x v vl vu lo hi sl Q I rx hs pl pu ⟨z, hx.str, Nat.le_trans hz sz_line, ?_⟩
      have ez : cutS z lo hi = ⟨(cut z.cps.toList ((lo.map (cutIx z.length)).getD 0) ((hi.map (cutIx z.length)).getD z.length)).toArray⟩ := by
        unfold cutS cut
        have e1 : ∀ d o, HT.sIx z.length d o = (Option.map (cutIx z.length) o).getD d := fun d o => by cases o <;> rfl
        rw [e1, e1]
      rw [ez]
      exact q _ _ (.here (.str _))
    · cases hf
  | _ => simp [slD] at hf
end
end PD
set_option maxHeartbeats 1000000
/-! F4a: the readings by the evaluator. -/
namespace PD
open PySem PySem.Spec PyProof.Rows L2
section
variable (X : Cx)
def SemE (e : Expr) : TE := fun σ H Q => ∀ (pins : List (Addr × Obj)) (s : Shared), L2.Inv X pins σ H s → wpAny (model X.prog X.w) X.A (eval e X.env) (EP X pins σ Q) X.xe s
def SemT (e : Expr) : TT := fun σ H Q => ∀ (pins : List (Addr × Obj)) (s : Shared), L2.Inv X pins σ H s → wpAny (model X.prog X.w) X.A (isTrue e X.env (eval e X.env)) (TP X pins σ Q) X.xe s
def SemW (e : Expr) : TT := fun σ H Q => ∀ (whole : Sem Value) (pins : List (Addr × Obj)) (s : Shared), L2.Inv X pins σ H s → wpAny (model X.prog X.w) X.A (isTrue e X.env whole) (TP X pins σ Q) X.xe s
def SemA (es : List Expr) : TA := fun σ H Q => ∀ (pos : Pos) (pins : List (Addr × Obj)) (s : Shared), L2.Inv X pins σ H s → wpAny (model X.prog X.w) X.A (spliced (backTo pos (starEach es X.env))) (AP X pins σ Q) X.xe s
def SemS (st : Stmt) : TS := fun D σ H => ∀ (pins : List (Addr × Obj)) (s : Shared), L2.Inv X pins σ H s → wpAny (model X.prog X.w) X.A (exec st X.env) (SP X pins D) X.xe s
def SemSs (st : List Stmt) : TS := fun D σ H => ∀ (pins : List (Addr × Obj)) (s : Shared), L2.Inv X pins σ H s → wpAny (model X.prog X.w) X.A (execs st X.env) (SP X pins D) X.xe s
end
section
variable {X : Cx} {e : Expr} {es : List Expr} {σ : L2.St} {H : Hp}
theorem peS : PE X e (SemE X e) := ⟨fun pins s σ H Q I h => h pins s I⟩
theorem ptS : PT X e (SemT X e) := ⟨fun pins s σ H Q I h => h pins s I⟩
theorem pwS : PW X e (SemW X e) := ⟨fun whole pins s σ H Q I h => h whole pins s I⟩
theorem paS : PA X es (SemA X es) := ⟨fun pos pins s σ H Q I h => h pos pins s I⟩
theorem psS {st : Stmt} : PS X st (SemS X st) := ⟨fun pins s σ H D I h => h pins s I⟩
theorem pssS {st : List Stmt} : PSs X st (SemSs X st) := ⟨fun pins s σ H D I h => h pins s I⟩
theorem semE {t : TE} {Q : VK} (h : PE X e t) (q : t σ H Q) : SemE X e σ H Q := fun pins s I => h.run pins s σ H Q I q
theorem semT {t : TT} {Q : Bool → Hp → Prop} (h : PT X e t) (q : t σ H Q) : SemT X e σ H Q := fun pins s I => h.run pins s σ H Q I q
theorem semA {t : TA} {Q : List V → Hp → Prop} (h : PA X es t) (q : t σ H Q) : SemA X es σ H Q := fun pos pins s I => h.run pos pins s σ H Q I q
theorem semS {st : Stmt} {t : TS} {D : Ends} (h : PS X st t) (q : t D σ H) : SemS X st D σ H := fun pins s I => h.run pins s σ H D I q
theorem semSs {st : List Stmt} {t : TS} {D : Ends} (h : PSs X st t) (q : t D σ H) : SemSs X st D σ H := fun pins s I => h.run pins s σ H D I q
end
/-- the end of a run, as a wish -/
def Post {α : Type} (XC : Nat → List Slot → Prop) (P : α → List Slot → Prop) : Res α → Prop
  | .ok a st => P a st
  | .exc c st => XC c st
  | .bad => False
theorem Post.th {α β : Type} {XC : Nat → List Slot → Prop} {P : β → List Slot → Prop} {r : Res α} {f : α → List Slot → Res β} : Post XC P (r.th f) ↔ Post XC (fun a st => Post XC P (f a st)) r := by
  cases r <;> exact Iff.rfl
theorem Post.imp {α : Type} {XC XC' : Nat → List Slot → Prop} {P P' : α → List Slot → Prop} {r : Res α} (h : Post XC P r) (hx : ∀ c st, XC c st → XC' c st) (hp : ∀ a st, P a st → P' a st) : Post XC' P' r := by
  cases r with
  | ok a st => exact hp a st h
  | exc c st => exact hx c st h
  | bad => exact h
section
variable (K : PySem.W.Frag) (cm : Nat → Value) (av : Addr → Prop) (H0 : Hp) (σ : L2.St) (avH : Vw) (H : Hp)
/-- a value comes out -/
inductive VO : Bool → D → List Slot → V → Hp → Prop
  | sh {d : D} {st : List Slot} {v : V} {H' : Hp} : SRel K cm av H0 st σ H' → Kp avH H (VW av st σ) H' → R K cm H' (AV av st σ) v d → VO false d st v H'
  | fr {d : D} {st : List Slot} {p : Addr} {H' : Hp} : H p = none → SRel K cm (avP av p) H0 st σ H' → Kp avH H (VW (avP av p) st σ) H' → RO K cm H' (AV (avP av p) st σ) p d → VO true d st (.ref p) H'
/-- values come out -/
def AO (ds : List D) (st : List Slot) (vs : List V) (H' : Hp) : Prop := SRel K cm av H0 st σ H' ∧ Kp avH H (VW av st σ) H' ∧ Rs K cm H' (AV av st σ) vs ds
/-- an operand comes out -/
def OpR1 (av' : Addr → Prop) (H' : Hp) (v : V) : Opd → Prop
  | .val d => R K cm H' av' v d
  | .bor i => σ[i]? = some (some v)
inductive OpRs (av' : Addr → Prop) (H' : Hp) : List V → List Opd → Prop
  | nil : OpRs av' H' [] []
  | cons {v : V} {o : Opd} {vs : List V} {os : List Opd} : OpR1 K cm σ av' H' v o → OpRs av' H' vs os → OpRs av' H' (v :: vs) (o :: os)
def OO (o : Opd) (st : List Slot) (v : V) (H' : Hp) : Prop := SRel K cm av H0 st σ H' ∧ Kp avH H (VW av st σ) H' ∧ OpR1 K cm σ (AV av st σ) H' v o
def OOs (os : List Opd) (st : List Slot) (vs : List V) (H' : Hp) : Prop := SRel K cm av H0 st σ H' ∧ Kp avH H (VW av st σ) H' ∧ OpRs K cm σ (AV av st σ) H' vs os
/-- an exception leaves -/
def XCe (W : WX) (c : Nat) (st : List Slot) : Prop := ∀ H', SRel K cm av H0 st σ H' → W (cm c) none σ H'
end
/-- a value's wish -/
abbrev PoE (K : PySem.W.Frag) (cm : Nat → Value) (av : Addr → Prop) (H0 : Hp) (σ : L2.St) (avH : Vw) (H : Hp) (W : WX) (Q : VK) (r : RE) : Prop :=
  Post (XCe K cm av H0 σ W) (fun a st => ∀ v H', VO K cm av H0 σ avH H a.1 a.2 st v H' → Q v H') r
abbrev PoA (K : PySem.W.Frag) (cm : Nat → Value) (av : Addr → Prop) (H0 : Hp) (σ : L2.St) (avH : Vw) (H : Hp) (W : WX) (Q : List V → Hp → Prop) (r : Res (List D)) : Prop :=
  Post (XCe K cm av H0 σ W) (fun a st => ∀ v H', AO K cm av H0 σ avH H a st v H' → Q v H') r
abbrev PoO (K : PySem.W.Frag) (cm : Nat → Value) (av : Addr → Prop) (H0 : Hp) (σ : L2.St) (avH : Vw) (H : Hp) (W : WX) (Q : VK) (r : Res Opd) : Prop :=
  Post (XCe K cm av H0 σ W) (fun a st => ∀ v H', OO K cm av H0 σ avH H a st v H' → Q v H') r
abbrev PoOs (K : PySem.W.Frag) (cm : Nat → Value) (av : Addr → Prop) (H0 : Hp) (σ : L2.St) (avH : Vw) (H : Hp) (W : WX) (Q : List V → Hp → Prop) (r : Res (List Opd)) : Prop :=
  Post (XCe K cm av H0 σ W) (fun a st => ∀ v H', OOs K cm av H0 σ avH H a st v H' → Q v H') r
section
variable (X : Cx) (cm : Nat → Value) (W : WX)
/-- the evaluator tells what the expression does -/
def OkE (e : Expr) (f : List Slot → RE) : Prop := ∀ (av : Addr → Prop) (H0 : Hp) (st : List Slot) (σ : L2.St) (H : Hp) (Q : VK), SRel X.K cm av H0 st σ H →
  PoE X.K cm av H0 σ (VW av st σ) H W Q (f st) → SemE X e σ H Q
def OkO (e : Expr) (f : List Slot → Res Opd) : Prop := ∀ (av : Addr → Prop) (H0 : Hp) (st : List Slot) (σ : L2.St) (H : Hp) (Q : VK), SRel X.K cm av H0 st σ H →
  PoO X.K cm av H0 σ (VW av st σ) H W Q (f st) → SemE X e σ H Q
def OkA (es : List Expr) (f : List Slot → Res (List D)) : Prop := ∀ (av : Addr → Prop) (H0 : Hp) (st : List Slot) (σ : L2.St) (H : Hp) (Q : List V → Hp → Prop), SRel X.K cm av H0 st σ H →
  PoA X.K cm av H0 σ (VW av st σ) H W Q (f st) → SemA X es σ H Q
def OkOs (es : List Expr) (f : List Slot → Res (List Opd)) : Prop := ∀ (av : Addr → Prop) (H0 : Hp) (st : List Slot) (σ : L2.St) (H : Hp) (Q : List V → Hp → Prop), SRel X.K cm av H0 st σ H →
  PoOs X.K cm av H0 σ (VW av st σ) H W Q (f st) → SemA X es σ H Q
/-- as a test -/
def OkT (e : Expr) (f : List Slot → RE) : Prop := ∀ (av : Addr → Prop) (H0 : Hp) (st : List Slot) (σ : L2.St) (H : Hp) (Q : Bool → Hp → Prop), SRel X.K cm av H0 st σ H →
  Post (XCe X.K cm av H0 σ W) (fun a st' => ∃ b, a.2 = .bl b ∧ ∀ H', SRel X.K cm av H0 st' σ H' → Kp (VW av st σ) H (VW av st' σ) H' → Q b H') (f st) → SemT X e σ H Q
end
section
variable {K : PySem.W.Frag} {cm : Nat → Value} {av : Addr → Prop} {H0 : Hp} {σ : L2.St} {avH avH1 : Vw} {H H1 : Hp} {W : WX} {st : List Slot}
theorem kp0' : Kp (VW av st σ) H (VW av st σ) H := .of_sub vw_le (fun _ h => h) fun _ h => h
theorem VO.val {fr : Bool} {d : D} {st' : List Slot} {v : V} {H' : Hp} (h : VO K cm av H0 σ avH H fr d st' v H') (hav : ∀ a, av a → H a ≠ none) : SRel K cm av H0 st' σ H' ∧ Kp avH H (VW av st' σ) H' ∧ R K cm H' (AV av st' σ) v d := by
  cases h with
  | sh S k r => exact ⟨S, k, r⟩
  | fr n S k r =>
    refine ⟨S.unavoid, k.trans kp_p, (r.kp kp_p fun _ x => x).r ?_⟩
    rintro (z | z)
    · exact hav _ z n
    · exact S.notOwn z
theorem VO.shift {fr : Bool} {d : D} {st' : List Slot} {v : V} {H' : Hp} (k : Kp avH H avH1 H1) (h : VO K cm av H0 σ avH1 H1 fr d st' v H') : VO K cm av H0 σ avH H fr d st' v H' := by
  cases h with
  | sh S k' r => exact .sh S (k.trans k') r
  | @fr _ _ p _ n S k' r =>
    refine .fr ?_ S (k.trans k') r
    cases e : H p with
    | none => rfl
    | some o => exact absurd n (k.dom p (by rw [e]; exact fun z => nomatch z))
theorem PoE.shift {Q : VK} {r : RE} (k : Kp avH H avH1 H1) (h : PoE K cm av H0 σ avH H W Q r) : PoE K cm av H0 σ avH1 H1 W Q r := h.imp (fun _ _ x => x) fun _ _ q v H' o => q v H' (o.shift k)
theorem PoA.shift {Q : List V → Hp → Prop} {r : Res (List D)} (k : Kp avH H avH1 H1) (h : PoA K cm av H0 σ avH H W Q r) : PoA K cm av H0 σ avH1 H1 W Q r :=
  h.imp (fun _ _ x => x) fun _ _ q v H' o => q v H' ⟨o.1, k.trans o.2.1, o.2.2⟩
theorem PoO.shift {Q : VK} {r : Res Opd} (k : Kp avH H avH1 H1) (h : PoO K cm av H0 σ avH H W Q r) : PoO K cm av H0 σ avH1 H1 W Q r :=
  h.imp (fun _ _ x => x) fun _ _ q v H' o => q v H' ⟨o.1, k.trans o.2.1, o.2.2⟩
theorem PoOs.shift {Q : List V → Hp → Prop} {r : Res (List Opd)} (k : Kp avH H avH1 H1) (h : PoOs K cm av H0 σ avH H W Q r) : PoOs K cm av H0 σ avH1 H1 W Q r :=
  h.imp (fun _ _ x => x) fun _ _ q v H' o => q v H' ⟨o.1, k.trans o.2.1, o.2.2⟩
/-- what an operation on values leaves -/
theorem VO.of_vn {av0 : Addr → Prop} {H2 H' : Hp} {fr : Bool} {d : D} {v : V} (S : SRel K cm av H0 st σ H2) (k : Kp avH H (VW av st σ) H2) (h : VN K cm (AV av st σ) H2 fr d v H') : VO K cm av H0 σ avH H fr d st v H' := by
  cases h with
  | sh s r => exact .sh (S.same s) (k.trans (.of_same s vw_le)) r
  | @fr _ p _ n sm r =>
    refine .fr ?_ (S.avoid n sm (by obtain ⟨o, e, _⟩ := r.mut; rw [e]; exact fun z => nomatch z)) (k.trans ((kp_new n).trans (.of_same sm vw_le))) (by rw [av_p]; exact r)
    cases e : H p with
    | none => rfl
    | some u => exact absurd n (k.dom p (by rw [e]; exact fun z => nomatch z))
theorem OpR1.kp {w1 w2 : Vw} {H1 H2 : Hp} (k : Kp w1 H1 w2 H2) {v : V} {o : Opd} (h : OpR1 K cm σ w1.av H1 v o) : OpR1 K cm σ w2.av H2 v o := by
  cases o with
  | val d => exact R.kp k h
  | bor i => exact h
theorem OpRs.kp {w1 w2 : Vw} {H1 H2 : Hp} (k : Kp w1 H1 w2 H2) {vs : List V} {os : List Opd} (h : OpRs K cm σ w1.av H1 vs os) : OpRs K cm σ w2.av H2 vs os := by
  induction h with
  | nil => exact .nil
  | cons a _ ih => exact .cons (a.kp k) ih
/-- an operand is looked at -/
theorem OpR1.look {v : V} {o : Opd} {d : D} (S : SRel K cm av H0 st σ H) (h : OpR1 K cm σ (AV av st σ) H v o) (e : rs1 st o = some d) : RX K cm H (AV av st σ) v d := by
  cases o with
  | val x => cases e; exact .inl h
  | bor i =>
    simp only [rs1] at e
    have hv : σ[i]? = some (some v) := h
    split at e
    · rename_i d' h'
      cases e
      obtain ⟨a, q, _, _, r⟩ := S.ow i _ _ h' (.inl rfl)
      rw [hv] at q; cases q
      exact .inr ⟨a, rfl, r⟩
    · rename_i d' h'
      cases e
      obtain ⟨a, q, _, _, r⟩ := S.ow i _ _ h' (.inr rfl)
      rw [hv] at q; cases q
      exact .inr ⟨a, rfl, r⟩
    · cases e
theorem OpRs.look {vs : List V} {os : List Opd} {ds : List D} (S : SRel K cm av H0 st σ H) (h : OpRs K cm σ (AV av st σ) H vs os) (e : rsAll st os = some ds) : RXs K cm H (AV av st σ) vs ds := by
  induction os generalizing vs ds with
  | nil => cases h; simp only [rsAll, Option.some.injEq] at e; subst e; exact .nil
  | cons o os ih =>
    cases h with
    | cons a r =>
      simp only [rsAll] at e
      split at e
      · rename_i d ds' e1 e2
        cases e
        exact .cons (a.look S e1) (ih r e2)
      · cases e
end
section
variable {X : Cx} {cm : Nat → Value} {W : WX} {a b : Expr} {es : List Expr} {fa fb : List Slot → RE} {av : Addr → Prop} {H0 H : Hp} {σ : L2.St} {st : List Slot} {avH : Vw} {H1 : Hp} {st1 : List Slot}
/-- an expression, then more -/
theorem OkE.bind {β : Type} {P : β → List Slot → Prop} {f : Bool × D → List Slot → Res β} {Q : VK} (ha : OkE X cm W a fa) (S : SRel X.K cm av H0 st1 σ H1) (k : Kp avH H (VW av st1 σ) H1) (h : Post (XCe X.K cm av H0 σ W) P ((fa st1).th f))
    (hk : ∀ (x : Bool × D) (st2 : List Slot) (v : V) (H2 : Hp), SRel X.K cm av H0 st2 σ H2 → Kp avH H (VW av st2 σ) H2 → Kp (VW av st1 σ) H1 (VW av st2 σ) H2 → R X.K cm H2 (AV av st2 σ) v x.2 → Post (XCe X.K cm av H0 σ W) P (f x st2) → Q v H2) : SemE X a σ H1 Q := by
  refine ha av H0 st1 σ H1 Q S ?_
  rw [Post.th] at h
  refine h.imp (fun _ _ x => x) fun x st2 q v H2 o => ?_
  obtain ⟨S2, k2, r2⟩ := o.val S.avd
  exact hk x st2 v H2 S2 (k.trans k2) k2 r2 q
theorem OkA.bind {β : Type} {P : β → List Slot → Prop} {fs : List Slot → Res (List D)} {f : List D → List Slot → Res β} {Q : List V → Hp → Prop} (ha : OkA X cm W es fs) (S : SRel X.K cm av H0 st1 σ H1) (k : Kp avH H (VW av st1 σ) H1) (h : Post (XCe X.K cm av H0 σ W) P ((fs st1).th f))
    (hk : ∀ (x : List D) (st2 : List Slot) (v : List V) (H2 : Hp), SRel X.K cm av H0 st2 σ H2 → Kp avH H (VW av st2 σ) H2 → Kp (VW av st1 σ) H1 (VW av st2 σ) H2 → Rs X.K cm H2 (AV av st2 σ) v x → Post (XCe X.K cm av H0 σ W) P (f x st2) → Q v H2) : SemA X es σ H1 Q := by
  refine ha av H0 st1 σ H1 Q S ?_
  rw [Post.th] at h
  refine h.imp (fun _ _ x => x) fun x st2 q v H2 o => ?_
  exact hk x st2 v H2 o.1 (k.trans o.2.1) o.2.1 o.2.2 q
theorem OkO.bind {β : Type} {P : β → List Slot → Prop} {fo : List Slot → Res Opd} {f : Opd → List Slot → Res β} {Q : VK} (ha : OkO X cm W a fo) (S : SRel X.K cm av H0 st1 σ H1) (k : Kp avH H (VW av st1 σ) H1) (h : Post (XCe X.K cm av H0 σ W) P ((fo st1).th f))
    (hk : ∀ (x : Opd) (st2 : List Slot) (v : V) (H2 : Hp), SRel X.K cm av H0 st2 σ H2 → Kp avH H (VW av st2 σ) H2 → Kp (VW av st1 σ) H1 (VW av st2 σ) H2 → OpR1 X.K cm σ (AV av st2 σ) H2 v x → Post (XCe X.K cm av H0 σ W) P (f x st2) → Q v H2) : SemE X a σ H1 Q := by
  refine ha av H0 st1 σ H1 Q S ?_
  rw [Post.th] at h
  refine h.imp (fun _ _ x => x) fun x st2 q v H2 o => ?_
  exact hk x st2 v H2 o.1 (k.trans o.2.1) o.2.1 o.2.2 q
theorem OkOs.bind {β : Type} {P : β → List Slot → Prop} {fs : List Slot → Res (List Opd)} {f : List Opd → List Slot → Res β} {Q : List V → Hp → Prop} (ha : OkOs X cm W es fs) (S : SRel X.K cm av H0 st1 σ H1) (k : Kp avH H (VW av st1 σ) H1) (h : Post (XCe X.K cm av H0 σ W) P ((fs st1).th f))
    (hk : ∀ (x : List Opd) (st2 : List Slot) (v : List V) (H2 : Hp), SRel X.K cm av H0 st2 σ H2 → Kp avH H (VW av st2 σ) H2 → Kp (VW av st1 σ) H1 (VW av st2 σ) H2 → OpRs X.K cm σ (AV av st2 σ) H2 v x → Post (XCe X.K cm av H0 σ W) P (f x st2) → Q v H2) : SemA X es σ H1 Q := by
  refine ha av H0 st1 σ H1 Q S ?_
  rw [Post.th] at h
  refine h.imp (fun _ _ x => x) fun x st2 q v H2 o => ?_
  exact hk x st2 v H2 o.1 (k.trans o.2.1) o.2.1 o.2.2 q
/-- the end of an expression whose last step is an operation on values -/
theorem endE {av : Addr → Prop} {Q : VK} {o : Option (Bool × D)} {H2 : Hp} {st2 : List Slot} (S : SRel X.K cm av H0 st2 σ H2) (k : Kp avH H (VW av st2 σ) H2) (h : PoE X.K cm av H0 σ avH H W Q (outE o st2)) :
    ∃ fr d, o = some (fr, d) ∧ ∀ v H', VN X.K cm (AV av st2 σ) H2 fr d v H' → Q v H' := by
  cases o with
  | none => exact h.elim
  | some x => exact ⟨x.1, x.2, rfl, fun v H' n => h v H' (.of_vn (av0 := av) S k n)⟩
theorem endB {av : Addr → Prop} {Q : VK} {o : Option Bool} {H2 : Hp} {st2 : List Slot} (S : SRel X.K cm av H0 st2 σ H2) (k : Kp avH H (VW av st2 σ) H2) (h : PoE X.K cm av H0 σ avH H W Q (outB o st2)) :
    ∃ b, o = some b ∧ Q (.bl b) H2 := by
  cases o with
  | none => exact h.elim
  | some b => exact ⟨b, rfl, h _ _ (.sh S k (.bl b))⟩
theorem endD {av : Addr → Prop} {Q : VK} {o : Option D} {H2 : Hp} {st2 : List Slot} (S : SRel X.K cm av H0 st2 σ H2) (k : Kp avH H (VW av st2 σ) H2) (h : PoE X.K cm av H0 σ avH H W Q (outD o st2)) :
    ∃ d, o = some d ∧ ∀ v, R X.K cm H2 (AV av st2 σ) v d → Q v H2 := by
  cases o with
  | none => exact h.elim
  | some b => exact ⟨b, rfl, fun v r => h _ _ (.sh S k r)⟩
/-! ### the expressions -/
theorem okE_c {k : Cst} {e : Expr} {v : V} (h : PE X e (tC v)) (hk : ∀ H av, R X.K cm H av v (cst k)) : OkE X cm W e (fun st => .ok (false, cst k) st) := by
  intro av H0 st σ H Q S h'
  exact semE h (h' v H (.sh S kp0' (hk _ _)))
theorem rd_okE {i : Nat} {e : Expr} (h : PE X e (tVar i)) : OkE X cm W e (rd i) := by
  intro av H0 st σ H Q S h'
  unfold rd at h'
  split at h'
  · rename_i d e1
    obtain ⟨v, q, r⟩ := S.sh i d e1
    exact semE h ⟨v, q, h' v H (.sh S kp0' r)⟩
  · rename_i d e1
    obtain ⟨S', v, q, r⟩ := S.opened e1 (.inl rfl)
    exact semE h ⟨v, q, h' v H (.sh S' (kp_open rfl) r)⟩
  · rename_i d e1
    obtain ⟨S', v, q, r⟩ := S.opened e1 (.inr rfl)
    exact semE h ⟨v, q, h' v H (.sh S' (kp_open rfl) r)⟩
  · exact h'.elim
theorem rd_okO {i : Nat} {e : Expr} (h : PE X e (tVar i)) : OkO X cm W e (rdO i) := by
  intro av H0 st σ H Q S h'
  have k0 : Kp (VW av st σ) H (VW av st σ) H := kp0'
  unfold rdO at h'
  split at h'
  · rename_i d e1
    obtain ⟨v, q, r⟩ := S.sh i d e1
    exact semE h ⟨v, q, h' v H ⟨S, k0, r⟩⟩
  · rename_i d e1
    obtain ⟨a, q, _⟩ := S.ow i _ d e1 (.inl rfl)
    exact semE h ⟨_, q, h' _ H ⟨S, k0, q⟩⟩
  · rename_i d e1
    obtain ⟨a, q, _⟩ := S.ow i _ d e1 (.inr rfl)
    exact semE h ⟨_, q, h' _ H ⟨S, k0, q⟩⟩
  · exact h'.elim
theorem okO_E (ha : OkE X cm W a fa) : OkO X cm W a (fun st => (fa st).th fun x st => .ok (.val x.2) st) := by
  intro av H0 st σ H Q S h
  refine ha.bind (avH := VW av st σ) (H := H) S kp0' h fun x st2 v H2 S2 k2 _ r2 h2 => h2 v H2 ⟨S2, k2, r2⟩
/-- an operand -/
theorem okO_of {m : E} {f : List Slot → RE} (hv : ∀ i, m = .v i → PE X a (tVar i)) (ha : OkE X cm W a f) : OkO X cm W a (opnd m f) := by
  cases m with
  | v i => exact rd_okO (hv i rfl)
  | _ => exact okO_E ha
theorem okA_nil : OkA X cm W [] (fun st => .ok [] st) := by
  intro av H0 st σ H Q S h
  exact semA pa_nil (h [] H ⟨S, kp0', .nil⟩)
theorem okA_cons {f : List Slot → Res (List D)} (ha : OkE X cm W a fa) (hr : OkA X cm W es f) (hs : starEach (a :: es) X.env = (false, eval a X.env) :: starEach es X.env) :
    OkA X cm W (a :: es) (fun st => (fa st).th fun d st => (f st).th fun ds st => .ok (d.2 :: ds) st) := by
  intro av H0 st σ H Q S h
  refine semA (pa_cons peS paS hs) ?_
  refine ha.bind (avH := VW av st σ) (H := H) S kp0' h fun x st2 v H2 S2 k2 _ r2 h2 => ?_
  refine hr.bind S2 k2 h2 fun xs st3 vs H3 S3 k3 k23 r3 h3 => ?_
  exact h3 _ _ ⟨S3, k3, .cons (r2.kp k23) r3⟩
theorem okOs_nil : OkOs X cm W [] (fun st => .ok [] st) := by
  intro av H0 st σ H Q S h
  exact semA pa_nil (h [] H ⟨S, kp0', .nil⟩)
theorem okOs_cons {f : List Slot → Res (List Opd)} {fo : List Slot → Res Opd} (ha : OkO X cm W a fo) (hr : OkOs X cm W es f) (hs : starEach (a :: es) X.env = (false, eval a X.env) :: starEach es X.env) :
    OkOs X cm W (a :: es) (fun st => (fo st).th fun d st => (f st).th fun ds st => .ok (d :: ds) st) := by
  intro av H0 st σ H Q S h
  refine semA (pa_cons peS paS hs) ?_
  refine ha.bind (avH := VW av st σ) (H := H) S kp0' h fun x st2 v H2 S2 k2 _ r2 h2 => ?_
  refine hr.bind S2 k2 h2 fun xs st3 vs H3 S3 k3 k23 r3 h3 => ?_
  exact h3 _ _ ⟨S3, k3, .cons (r2.kp k23) r3⟩
theorem okE_disp {f : List Slot → Res (List D)} {e : Expr} {fr : Bool} {g : List D → D} {t : TE} (hn : ∀ st ds st', f st = .ok ds st' → ds.length ≤ SZ) (hp : PE X e t)
    (ht : ∀ (av : Addr → Prop) (σ : L2.St) (H : Hp) (Q : VK), SemA X es σ H (fun vs H' => ∃ ds, ds.length ≤ SZ ∧ Rs X.K cm H' av vs ds ∧ ∀ v H'', VN X.K cm av H' fr (g ds) v H'' → Q v H'') → t σ H Q) (ha : OkA X cm W es f) :
    OkE X cm W e (fun st => (f st).th fun ds st => .ok (fr, g ds) st) := by
  intro av H0 st σ H Q S h
  dsimp only at h
  cases hf : f st with
  | bad => rw [hf] at h; exact h.elim
  | exc c st' =>
    refine semE hp (ht (AV av st σ) σ H Q (ha av H0 st σ H _ S ?_))
    rw [hf] at h ⊢
    exact h
  | ok ds st' =>
    refine semE hp (ht (AV av st' σ) σ H Q (ha av H0 st σ H _ S ?_))
    rw [hf] at h ⊢
    exact fun vs H' o => ⟨ds, hn _ _ _ hf, o.2.2, fun v H'' n => h v H'' (.of_vn (av0 := av) o.1 o.2.1 n)⟩
theorem okE_tup {f : List Slot → Res (List D)} {x1 : Nat} {pos : Pos} (hn : ∀ st ds st', f st = .ok ds st' → ds.length ≤ SZ) (ha : OkA X cm W es f) :
    OkE X cm W (.Tuple es x1 pos) (fun st => (f st).th fun ds st => .ok (false, .tup ds) st) := by
  refine okE_disp (t := tTup (SemA X es)) hn (pe_tup paS) (fun av σ H Q q => fun pos pins s I => ?_) ha
  exact wpAny_mono (q pos pins s I) (fun us s' ⟨vs, H', I', r, ds, z, rs, q'⟩ => ⟨vs, H', I', r, by rw [rs.length]; exact Nat.le_trans z sz_line, fun p hp => q' _ _ (.tup hp rs)⟩) fun _ _ x => x
theorem okE_lst {f : List Slot → Res (List D)} {pos : Pos} (hn : ∀ st ds st', f st = .ok ds st' → ds.length ≤ SZ) (ha : OkA X cm W es f) :
    OkE X cm W (.List es pos) (fun st => (f st).th fun ds st => .ok (true, .lst ds) st) := by
  refine okE_disp (t := tLst (SemA X es)) hn (pe_lst paS) (fun av σ H Q q => fun pos pins s I => ?_) ha
  exact wpAny_mono (q pos pins s I) (fun us s' ⟨vs, H', I', r, ds, z, rs, q'⟩ => ⟨vs, H', I', r, by rw [rs.length]; exact Nat.le_trans z sz_line, fun p hp => q' _ _ (.lst hp rs)⟩) fun _ _ x => x
/-- what two operands ask of their rule; i: which of several rules, as the operands tell -/
def EndTwo {ι : Type} (X : Cx) (cm : Nat → Value) (W : WX) (rule : ι → (Addr → Prop) → R2) (sel : Opd → Opd → List Slot → ι) (g : Opd → Opd → List Slot → RE) : Prop :=
  ∀ (av : Addr → Prop) (H0 : Hp) (st : List Slot) (σ : L2.St) (avH : Vw) (H H2 : Hp) (Q : VK) (x y : Opd) (v w : V), SRel X.K cm av H0 st σ H2 → Kp avH H (VW av st σ) H2 → OpR1 X.K cm σ (AV av st σ) H2 v x → OpR1 X.K cm σ (AV av st σ) H2 w y →
      PoE X.K cm av H0 σ avH H W Q (g x y st) → rule (sel x y st) (AV av st σ) v w H2 Q
theorem two_sem {ι : Type} [Inhabited ι] {rule : ι → (Addr → Prop) → R2} {sel : Opd → Opd → List Slot → ι} {fa fb : List Slot → Res Opd} {g : Opd → Opd → List Slot → RE} {Q : VK} (ha : OkO X cm W a fa) (hb : OkO X cm W b fb) (hend : EndTwo X cm W rule sel g) (S : SRel X.K cm av H0 st σ H)
    (h : PoE X.K cm av H0 σ (VW av st σ) H W Q ((fa st).th fun x st => (fb st).th fun y st => g x y st)) : ∃ i av', tOp (rule i av') (SemE X a) (SemE X b) σ H Q := by
  -- the last slots are known before the rule is chosen
  cases h1 : fa st with
  | bad => rw [h1] at h; exact h.elim
  | exc c st' => exact ⟨default, av, ha av H0 st σ H _ S (by rw [h1] at h ⊢; exact h)⟩
  | ok x st1 =>
    rw [h1, Res.th_ok] at h
    cases h2 : fb st1 with
    | bad => rw [h2] at h; exact h.elim
    | exc c st' =>
      refine ⟨default, av, ha av H0 st σ H _ S ?_⟩
      rw [h1]
      rw [h2] at h
      exact fun v H1 o1 => hb av H0 st1 σ H1 _ o1.1 (by rw [h2]; exact h)
    | ok y st2 =>
      rw [h2, Res.th_ok] at h
      refine ⟨sel x y st2, AV av st2 σ, ha av H0 st σ H _ S ?_⟩
      rw [h1]
      refine fun v H1 o1 => hb av H0 st1 σ H1 _ o1.1 ?_
      rw [h2]
      exact fun w H2 o2 => hend av H0 st2 σ _ H H2 Q x y v w o2.1 (o1.2.1.trans o2.2.1) (o1.2.2.kp o2.2.1) o2.2.2 h
theorem okE_two {ι : Type} [Inhabited ι] {rule : ι → (Addr → Prop) → R2} {sel : Opd → Opd → List Slot → ι} {e : Expr} {fa fb : List Slot → Res Opd} {g : Opd → Opd → List Slot → RE} (hp : ∀ i av, PE X e (tOp (rule i av) (SemE X a) (SemE X b))) (ha : OkO X cm W a fa) (hb : OkO X cm W b fb)
    (hend : EndTwo X cm W rule sel g) : OkE X cm W e (fun st => (fa st).th fun x st => (fb st).th fun y st => g x y st) := fun av H0 st σ H Q S h =>
  let ⟨i, av', q⟩ := two_sem ha hb hend S h
  semE (hp i av') q
theorem okT_two {ι : Type} [Inhabited ι] {rule : ι → (Addr → Prop) → R2} {sel : Opd → Opd → List Slot → ι} {e : Expr} {fa fb : List Slot → Res Opd} {g : Opd → Opd → List Slot → RE} (hp : ∀ i av, PT X e (tTest (tOp (rule i av) (SemE X a) (SemE X b)))) (ha : OkO X cm W a fa) (hb : OkO X cm W b fb)
    (hend : EndTwo X cm W rule sel g) : OkT X cm W e (fun st => (fa st).th fun x st => (fb st).th fun y st => g x y st) := fun av H0 st σ H Q S h => by
  obtain ⟨i, av', q⟩ := two_sem (Q := fun v H' => ∃ k, v = .bl k ∧ Q k H') ha hb hend S (h.imp (fun _ _ x => x) fun x st2 ⟨b, e1, q⟩ v H2 o => by
    obtain ⟨S2, k2, r2⟩ := o.val S.avd
    rw [e1] at r2
    exact ⟨b, RX.bl (.inl r2), q H2 S2 k2⟩)
  exact semT (hp i av') q
theorem okE_bin {o : Bop} {pos : Pos} {fa fb : List Slot → Res Opd} (ha : OkO X cm W a fa) (hb : OkO X cm W b fb) :
    OkE X cm W (.BinOp a (bopO o) b pos) (fun st => (fa st).th fun x st => (fb st).th fun y st => match rs1 st x, rs1 st y with | some d, some d' => outE (binD o d d') st | _, _ => .bad) := by
  refine okE_two (rule := fun (_ : Unit) av => rB X.K cm av (binD o)) (sel := fun _ _ _ => ()) (fun _ av => pe_op (opr_bin (X := X) (cm := cm) (av := av) o) peS peS) ha hb fun av H0 st σ avH H H2 Q x y v w S k rx ry h => ?_
  split at h
  · rename_i d d' e1 e2
    obtain ⟨fr, r, hr, hq⟩ := endE S k h
    exact ⟨d, d', fr, r, rx.look S e1, ry.look S e2, hr, hq⟩
  · exact h.elim
theorem end_cmp {o : Cop} : EndTwo X cm W (fun (_ : Unit) av => rC X.K cm av (cmpD o)) (fun _ _ _ => ()) (fun x y st => match rs1 st x, rs1 st y with | some d, some d' => outB (cmpD o d d') st | _, _ => .bad) := by
  intro av H0 st σ avH H H2 Q x y v w S k rx ry h
  dsimp only at h
  split at h
  · rename_i d d' e1 e2
    obtain ⟨r, hr, hq⟩ := endB S k h
    exact ⟨d, d', r, rx.look S e1, ry.look S e2, hr, hq⟩
  · exact h.elim
theorem okE_cmp {o : Cop} {pos : Pos} {fa fb : List Slot → Res Opd} (hu : X.A.units + 65 < cLine) (ho : copOk o = true) (hm : behindInMarks (copO o) b = false) (ha : OkO X cm W a fa) (hb : OkO X cm W b fb) :
    OkE X cm W (.Compare a [copO o] [b] pos) (fun st => (fa st).th fun x st => (fb st).th fun y st => match rs1 st x, rs1 st y with | some d, some d' => outB (cmpD o d d') st | _, _ => .bad) :=
  okE_two (rule := fun (_ : Unit) av => rC X.K cm av (cmpD o)) (sel := fun _ _ _ => ()) (fun _ av => pe_cmpR (opr_cmp (X := X) (cm := cm) (av := av) hu o ho) peS peS hm) ha hb end_cmp
theorem okT_cmp {o : Cop} {pos : Pos} {fa fb : List Slot → Res Opd} (hu : X.A.units + 65 < cLine) (ho : copOk o = true) (hm : behindInMarks (copO o) b = false) (ha : OkO X cm W a fa) (hb : OkO X cm W b fb) :
    OkT X cm W (.Compare a [copO o] [b] pos) (fun st => (fa st).th fun x st => (fb st).th fun y st => match rs1 st x, rs1 st y with | some d, some d' => outB (cmpD o d d') st | _, _ => .bad) :=
  okT_two (rule := fun (_ : Unit) av => rC X.K cm av (cmpD o)) (sel := fun _ _ _ => ()) (fun _ av => pt_cmpR (opr_cmp (X := X) (cm := cm) (av := av) hu o ho) peS peS hm) ha hb end_cmp
/-- a bool's value, as a test -/
theorem okT_val {e : Expr} {f : List Slot → RE} (h : OkE X cm W e f) (he : ∀ whole, isTrue e X.env whole = (do let v ← whole; standAt e.pos; holding [v] (truthy v))) : OkT X cm W e f := by
  intro av H0 st σ H Q S h'
  refine semT (pt_val peS he) (h av H0 st σ H _ S ?_)
  refine h'.imp (fun _ _ x => x) fun x st2 ⟨b, e1, q⟩ v H2 o => ?_
  obtain ⟨S2, k2, r2⟩ := o.val S.avd
  rw [e1] at r2
  exact ⟨b, RX.bl (.inl r2), q H2 S2 k2⟩
/-- a test, then more -/
theorem OkT.bind {β : Type} {P : β → List Slot → Prop} {f g : List Slot → Res β} {Q : Bool → Hp → Prop} (ha : OkT X cm W a fa) (S : SRel X.K cm av H0 st1 σ H1) (k : Kp avH H (VW av st1 σ) H1) (h : Post (XCe X.K cm av H0 σ W) P ((fa st1).th (br f g)))
    (hk : ∀ (b : Bool) (st2 : List Slot) (H2 : Hp), SRel X.K cm av H0 st2 σ H2 → Kp avH H (VW av st2 σ) H2 → Kp (VW av st1 σ) H1 (VW av st2 σ) H2 → Post (XCe X.K cm av H0 σ W) P (if b = true then f st2 else g st2) → Q b H2) : SemT X a σ H1 Q := by
  refine ha av H0 st1 σ H1 Q S ?_
  rw [Post.th] at h
  refine h.imp (fun _ _ x => x) fun x st2 q => ?_
  unfold br at q
  split at q
  · rename_i b e1
    exact ⟨b, e1, fun H2 S2 k2 => hk b st2 H2 S2 (k.trans k2) k2 q⟩
  · exact q.elim
theorem kp0 {av : Addr → Prop} : Kp (VW av st σ) H (VW av st σ) H := kp0'
theorem okT_not {pos : Pos} (ha : OkT X cm W a fa) : OkT X cm W (.UnaryOp .Not a pos) (fun st => (fa st).th (br (fun st => ret (.bl false) st) (fun st => ret (.bl true) st))) := by
  intro av H0 st σ H Q S h
  refine semT (pt_not ptS) (ha.bind (avH := VW av st σ) (H := H) S kp0 h fun b st2 H2 S2 k2 _ h2 => ?_)
  cases b with
  | true => obtain ⟨b, e, q⟩ := h2; cases e; exact q H2 S2 k2
  | false => obtain ⟨b, e, q⟩ := h2; cases e; exact q H2 S2 k2
theorem okE_not {pos : Pos} (ha : OkE X cm W a fa) : OkE X cm W (.UnaryOp .Not a pos) (fun st => (fa st).th (br (fun st => ret (.bl false) st) (fun st => ret (.bl true) st))) := by
  intro av H0 st σ H Q S h
  refine semE (pe_not peS) (ha.bind (avH := VW av st σ) (H := H) S kp0 h fun x st2 v H2 S2 k2 _ r2 h2 => ?_)
  unfold br at h2
  split at h2
  · rename_i b e1
    rw [e1] at r2
    refine ⟨b, RX.bl (.inl r2), ?_⟩
    cases b with
    | true => exact h2 _ _ (.sh S2 k2 (.bl _))
    | false => exact h2 _ _ (.sh S2 k2 (.bl _))
  · exact h2.elim
end
end PD
set_option maxHeartbeats 1000000
namespace PD
open PySem PySem.Spec PyProof.Rows L2
section
variable {X : Cx} {cm : Nat → Value} {W : WX} {a b c : Expr} {es rest : List Expr} {fa fb fc : List Slot → RE} {av : Addr → Prop} {H0 H : Hp} {σ : L2.St} {st : List Slot} {pos : Pos}
/-! ### and, or -/
def OkW (X : Cx) (cm : Nat → Value) (W : WX) (e : Expr) (f : List Slot → RE) : Prop := ∀ (av : Addr → Prop) (H0 : Hp) (st : List Slot) (σ : L2.St) (H : Hp) (Q : Bool → Hp → Prop), SRel X.K cm av H0 st σ H →
  Post (XCe X.K cm av H0 σ W) (fun a st' => ∃ b, a.2 = .bl b ∧ ∀ H', SRel X.K cm av H0 st' σ H' → Kp (VW av st σ) H (VW av st' σ) H' → Q b H') (f st) → SemW X e σ H Q
theorem semW {e : Expr} {t : TT} {Q : Bool → Hp → Prop} (h : PW X e t) (q : t σ H Q) : SemW X e σ H Q := fun whole pins s I => h.run whole pins s σ H Q I q
theorem OkW.t {e : Expr} {f : List Slot → RE} (h : OkW X cm W e f) : OkT X cm W e f := fun av H0 st σ H Q S q => fun pins s I => h av H0 st σ H Q S q _ pins s I
theorem OkW.bindB {av : Addr → Prop} {st1 : List Slot} {H1 : Hp} {avH : Vw} {Q : Bool → Hp → Prop} {e : Expr} {f : List Slot → RE} (ha : OkW X cm W e f) (S : SRel X.K cm av H0 st1 σ H1) (k : Kp avH H (VW av st1 σ) H1)
    (h : Post (XCe X.K cm av H0 σ W) (fun a st' => ∃ b, a.2 = .bl b ∧ ∀ H', SRel X.K cm av H0 st' σ H' → Kp avH H (VW av st' σ) H' → Q b H') ((f st1).th (br (fun st => ret (.bl true) st) (fun st => ret (.bl false) st)))) : SemW X e σ H1 Q := by
  refine ha av H0 st1 σ H1 Q S ?_
  rw [Post.th] at h
  refine h.imp (fun _ _ x => x) fun x st2 q => ?_
  unfold br at q
  split at q
  · rename_i b e1
    refine ⟨b, e1, fun H' S' k' => ?_⟩
    cases b with
    | true => obtain ⟨b, e, q⟩ := q; cases e; exact q H' S' (k.trans k')
    | false => obtain ⟨b, e, q⟩ := q; cases e; exact q H' S' (k.trans k')
  · exact q.elim
theorem okW_one {op : BoolOp} (ha : OkT X cm W a fa) : OkW X cm W (.BoolOp op [a] pos) fa := fun av H0 st σ H Q S q => by
  cases op with
  | And => exact semW (pw_and1 ptS) (ha av H0 st σ H Q S q)
  | Or => exact semW (pw_or1 ptS) (ha av H0 st σ H Q S q)
theorem okE_one {op : BoolOp} (ha : OkE X cm W a fa) : OkE X cm W (.BoolOp op [a] pos) fa := fun av H0 st σ H Q S q => semE (pe_one peS) (ha av H0 st σ H Q S q)
theorem okW_and (ha : OkT X cm W a fa) (hb : OkW X cm W (.BoolOp .And (b :: rest) pos) fb) :
    OkW X cm W (.BoolOp .And (a :: b :: rest) pos) (fun st => (fa st).th (br (fun st => (fb st).th (br (fun st => ret (.bl true) st) (fun st => ret (.bl false) st))) (fun st => ret (.bl false) st))) := by
  intro av H0 st σ H Q S h
  refine semW (pw_and ptS pwS) (ha.bind (avH := VW av st σ) (H := H) S kp0 h fun b' st2 H2 S2 k2 _ h2 => ?_)
  cases b' with
  | true => rw [if_pos rfl] at h2 ⊢; exact hb.bindB S2 k2 h2
  | false => rw [if_neg Bool.false_ne_true] at h2 ⊢; obtain ⟨b, e, q⟩ := h2; cases e; exact q H2 S2 k2
theorem okW_or (ha : OkT X cm W a fa) (hb : OkW X cm W (.BoolOp .Or (b :: rest) pos) fb) :
    OkW X cm W (.BoolOp .Or (a :: b :: rest) pos) (fun st => (fa st).th (br (fun st => ret (.bl true) st) (fun st => (fb st).th (br (fun st => ret (.bl true) st) (fun st => ret (.bl false) st))))) := by
  intro av H0 st σ H Q S h
  refine semW (pw_or ptS pwS) (ha.bind (avH := VW av st σ) (H := H) S kp0 h fun b' st2 H2 S2 k2 _ h2 => ?_)
  cases b' with
  | true => rw [if_pos rfl] at h2 ⊢; obtain ⟨b, e, q⟩ := h2; cases e; exact q H2 S2 k2
  | false => rw [if_neg Bool.false_ne_true] at h2 ⊢; exact hb.bindB S2 k2 h2
/-- an expression's bool, handed on -/
theorem OkE.bindB {av : Addr → Prop} {st1 : List Slot} {H1 : Hp} {avH : Vw} {Q : VK} {e : Expr} {f : List Slot → RE} (ha : OkE X cm W e f) (S : SRel X.K cm av H0 st1 σ H1) (k : Kp avH H (VW av st1 σ) H1)
    (h : PoE X.K cm av H0 σ avH H W Q ((f st1).th (br (fun st => ret (.bl true) st) (fun st => ret (.bl false) st)))) : SemE X e σ H1 Q := by
  refine ha.bind S k h fun x st2 v H2 S2 k2 _ r2 h2 => ?_
  unfold br at h2
  split at h2
  · rename_i b e1
    rw [e1] at r2
    cases b with
    | true => exact h2 v H2 (.sh S2 k2 r2)
    | false => exact h2 v H2 (.sh S2 k2 r2)
  · exact h2.elim
theorem okE_and (ha : OkE X cm W a fa) (hb : OkE X cm W (.BoolOp .And (b :: rest) pos) fb) :
    OkE X cm W (.BoolOp .And (a :: b :: rest) pos) (fun st => (fa st).th (br (fun st => (fb st).th (br (fun st => ret (.bl true) st) (fun st => ret (.bl false) st))) (fun st => ret (.bl false) st))) := by
  intro av H0 st σ H Q S h
  refine semE (pe_and peS peS) (ha.bind (avH := VW av st σ) (H := H) S kp0 h fun x st2 v H2 S2 k2 _ r2 h2 => ?_)
  unfold br at h2
  split at h2
  · rename_i b' e1
    rw [e1] at r2
    refine ⟨b', RX.bl (.inl r2), ?_⟩
    cases b' with
    | true => rw [if_pos rfl] at h2 ⊢; exact hb.bindB S2 k2 h2
    | false => rw [if_neg Bool.false_ne_true] at h2 ⊢; exact h2 _ _ (.sh S2 k2 (.bl _))
  · exact h2.elim
theorem okE_or (ha : OkE X cm W a fa) (hb : OkE X cm W (.BoolOp .Or (b :: rest) pos) fb) :
    OkE X cm W (.BoolOp .Or (a :: b :: rest) pos) (fun st => (fa st).th (br (fun st => ret (.bl true) st) (fun st => (fb st).th (br (fun st => ret (.bl true) st) (fun st => ret (.bl false) st))))) := by
  intro av H0 st σ H Q S h
  refine semE (pe_or peS peS) (ha.bind (avH := VW av st σ) (H := H) S kp0 h fun x st2 v H2 S2 k2 _ r2 h2 => ?_)
  unfold br at h2
  split at h2
  · rename_i b' e1
    rw [e1] at r2
    refine ⟨b', RX.bl (.inl r2), ?_⟩
    cases b' with
    | true => rw [if_pos rfl] at h2 ⊢; exact h2 _ _ (.sh S2 k2 (.bl _))
    | false => rw [if_neg Bool.false_ne_true] at h2 ⊢; exact hb.bindB S2 k2 h2
  · exact h2.elim
theorem okE_ite (hc : OkT X cm W c fc) (ha : OkE X cm W a fa) (hb : OkE X cm W b fb) : OkE X cm W (.IfExp c a b pos) (fun st => (fc st).th (br (fun st => fa st) (fun st => fb st))) := by
  intro av H0 st σ H Q S h
  refine semE (pe_ifExp ptS peS peS) (hc.bind (avH := VW av st σ) (H := H) S kp0 h fun b' st2 H2 S2 k2 _ h2 => ?_)
  cases b' with
  | true => rw [if_pos rfl] at h2 ⊢; exact ha av H0 st2 σ H2 Q S2 (PoE.shift k2 h2)
  | false => rw [if_neg Bool.false_ne_true] at h2 ⊢; exact hb av H0 st2 σ H2 Q S2 (PoE.shift k2 h2)
theorem okE_neg (ha : OkE X cm W a fa) : OkE X cm W (.UnaryOp .USub a pos) (fun st => (fa st).th fun d st => match d.2 with | .int i => .ok (false, .int (-i)) st | _ => .bad) := by
  intro av H0 st σ H Q S h
  refine semE (pe_un un_neg peS) (ha.bind (avH := VW av st σ) (H := H) S kp0 h fun x st2 v H2 S2 k2 _ r2 h2 => ?_)
  split at h2
  · rename_i i e1
    rw [e1] at r2
    exact ⟨i, RX.int (.inl r2), h2 _ _ (.sh S2 k2 (.int _))⟩
  · exact h2.elim
/-! ### subscripts -/
theorem keyD_eq : ∀ {k k' : Key}, dEq (keyD k) (keyD k') = decide (k = k')
  | .inl a, .inl b => by simp only [keyD, dEq, key_ll]
  | .inr a, .inr b => by
    simp only [keyD, dEq, key_rr]
    by_cases e : a = b
    · subst e; simp
    · rw [decide_eq_false e]; exact beq_eq_false_iff_ne.mpr e
  | .inl a, .inr b => by simp [keyD, dEq, key_lr]
  | .inr a, .inl b => by simp [keyD, dEq, key_rl]
theorem keyDs_eq : ∀ {k k' : List Key}, dEqs (k.map keyD) (k'.map keyD) = decide (k = k')
  | [], [] => by simp [dEqs]
  | [], _ :: _ => by simp [dEqs]
  | _ :: _, [] => by simp [dEqs]
  | a :: r, b :: s => by
    simp only [List.map_cons, dEqs, keyD_eq, keyDs_eq (k := r) (k' := s)]
    by_cases e : a = b <;> by_cases e' : r = s <;> simp [e, e']
theorem keyD_inv {K : PySem.W.Frag} {H : Hp} {av : Addr → Prop} {d : D} {v : V} (h : isScal d = true) (r : RX K cm H av v d) : ∃ k, d = keyD k ∧ v = kV k := by
  cases d <;> simp [isScal] at h
  · exact ⟨.inl _, rfl, r.int⟩
  · exact ⟨.inr _, rfl, r.str⟩
theorem keyDs_inv {K : PySem.W.Frag} {H : Hp} {av : Addr → Prop} : ∀ {ds : List D} {vs : List V}, ds.all isScal = true → Rs K cm H av vs ds → ∃ k : List Key, ds = k.map keyD ∧ vs = k.map kV
  | [], _, _, .nil => ⟨[], rfl, rfl⟩
  | d :: ds, _, h, .cons a r => by
    rw [List.all_cons, Bool.and_eq_true] at h
    obtain ⟨k, rfl, rfl⟩ := keyD_inv h.1 (.inl a)
    obtain ⟨ks, rfl, rfl⟩ := keyDs_inv h.2 r
    exact ⟨k :: ks, rfl, rfl⟩
section
variable {κ : Type} [DecidableEq κ] (kd : κ → D) (hk : ∀ a b, dEq (kd a) (kd b) = decide (a = b))
/-- pairs that agree -/
inductive RP (K : PySem.W.Frag) (cm : Nat → Value) (H : Hp) (av : Addr → Prop) : List (κ × V) → List (D × D) → Prop
  | nil : RP K cm H av [] []
  | cons {k : κ} {v : V} {d : D} {r : List (κ × V)} {s : List (D × D)} : R K cm H av v d → RP K cm H av r s → RP K cm H av ((k, v) :: r) ((kd k, d) :: s)
include hk in
theorem RP.look {K : PySem.W.Frag} {H : Hp} {av : Addr → Prop} {ks : List (κ × V)} {kvs : List (D × D)} (r : RP kd K cm H av ks kvs) (k : κ) :
    (dlook (kd k) kvs = none ∧ valV ks k = none) ∨ ∃ d v, dlook (kd k) kvs = some d ∧ valV ks k = some v ∧ R K cm H av v d := by
  induction r with
  | nil => exact .inl ⟨rfl, rfl⟩
  | @cons k' v d r s a _ ih =>
    by_cases e : k' = k
    · exact .inr ⟨d, v, by simp only [dlook, hk, e]; simp, valV_pos e, a⟩
    · have e1 : dlook (kd k) ((kd k', d) :: s) = dlook (kd k) s := by simp only [dlook, hk, decide_eq_false e]; simp
      rw [e1, valV_neg (p := (k', v)) e]
      exact ih
include hk in
theorem RP.any {K : PySem.W.Frag} {H : Hp} {av : Addr → Prop} {ks : List (κ × V)} {kvs : List (D × D)} (r : RP kd K cm H av ks kvs) (k : κ) : (kvs.any fun kv => dEq kv.1 (kd k)) = ks.any fun kv => decide (kv.1 = k) := by
  induction r with
  | nil => rfl
  | cons a _ ih => rw [List.any_cons, List.any_cons, ih, hk]
include hk in
theorem RP.putMap {K : PySem.W.Frag} {H : Hp} {av : Addr → Prop} {ks : List (κ × V)} {kvs : List (D × D)} (r : RP kd K cm H av ks kvs) (k : κ) {v : V} {d : D} (a : R K cm H av v d) :
    RP kd K cm H av (ks.map fun kv => if kv.1 = k then (kv.1, v) else kv) (kvs.map fun kv => if dEq kv.1 (kd k) = true then (kv.1, d) else kv) := by
  induction r with
  | nil => exact .nil
  | @cons k' v' d' r s a' _ ih =>
    rw [List.map_cons, List.map_cons]
    by_cases e : k' = k
    · simp only [hk, e, decide_true, if_true]; exact .cons a ih
    · simp only [hk, decide_eq_false e, if_neg e]; exact .cons a' ih
theorem RP.putApp {K : PySem.W.Frag} {H : Hp} {av : Addr → Prop} {ks : List (κ × V)} {kvs : List (D × D)} (r : RP kd K cm H av ks kvs) (k : κ) {v : V} {d : D} (a : R K cm H av v d) : RP kd K cm H av (ks ++ [(k, v)]) (kvs ++ [(kd k, d)]) := by
  induction r with
  | nil => exact .cons a .nil
  | cons a' _ ih => exact .cons a' ih
include hk in
theorem RP.put {K : PySem.W.Frag} {H : Hp} {av : Addr → Prop} {ks : List (κ × V)} {kvs : List (D × D)} (r : RP kd K cm H av ks kvs) (k : κ) {v : V} {d : D} (a : R K cm H av v d) : RP kd K cm H av (putK ks k v) (dput (kd k) d kvs) := by
  unfold putK dput
  rw [r.any kd hk k]
  split
  · exact r.putMap kd hk k a
  · exact r.putApp kd k a
include hk in
theorem RP.drop {K : PySem.W.Frag} {H : Hp} {av : Addr → Prop} {ks : List (κ × V)} {kvs : List (D × D)} (r : RP kd K cm H av ks kvs) (k : κ) : RP kd K cm H av (dropK ks k) (ddrop (kd k) kvs) := by
  unfold dropK ddrop
  induction r with
  | nil => exact .nil
  | @cons k' v' d' r s a' _ ih =>
    rw [List.filter_cons, List.filter_cons]
    by_cases e : k' = k
    · simp only [hk, e, decide_true]; simpa using ih
    · simp only [hk, decide_eq_false e]
      simp only [ne_eq, e, not_false_eq_true, decide_true, if_true, Bool.not_false]
      exact .cons a' ih
end
abbrev kdT (k : List Key) : D := .tup (k.map keyD)
theorem kdT_eq (a b : List Key) : dEq (kdT a) (kdT b) = decide (a = b) := by show dEqs _ _ = _; exact keyDs_eq
theorem keyD_eq' (a b : Key) : dEq (keyD a) (keyD b) = decide (a = b) := keyD_eq
theorem RK.rp {K : PySem.W.Frag} {H : Hp} {av : Addr → Prop} : ∀ {ks : List (Key × V)} {kvs : List (D × D)}, RK K cm H av ks kvs → RP keyD K cm H av ks kvs
  | _, _, .nil => .nil
  | _, _, .cons a r => .cons a (RK.rp r)
theorem RT.rp {K : PySem.W.Frag} {H : Hp} {av : Addr → Prop} : ∀ {ks : List (List Key × V)} {kvs : List (D × D)}, RT K cm H av ks kvs → RP kdT K cm H av ks kvs
  | _, _, .nil => .nil
  | _, _, .cons a r => .cons a (RT.rp r)
theorem RP.rk {K : PySem.W.Frag} {H : Hp} {av : Addr → Prop} {ks : List (Key × V)} {kvs : List (D × D)} (h : RP keyD K cm H av ks kvs) : RK K cm H av ks kvs := by
  induction h with
  | nil => exact .nil
  | cons a _ ih => exact .cons a ih
theorem RP.rt {K : PySem.W.Frag} {H : Hp} {av : Addr → Prop} {ks : List (List Key × V)} {kvs : List (D × D)} (h : RP kdT K cm H av ks kvs) : RT K cm H av ks kvs := by
  induction h with
  | nil => exact .nil
  | cons a _ ih => exact .cons a ih
/-- a key asked of a dict -/
theorem dget_of {K : PySem.W.Frag} {H : Hp} {av : Addr → Prop} {x y : V} {t : Bool} {kvs : List (D × D)} {k : D} (hx : RX K cm H av x (.dic t kvs)) (hy : RX K cm H av y k) (hk : keyOk t k = true) :
    ∃ a, x = .ref a ∧ ((dlook k kvs = none ∧ DGet H a y none) ∨ ∃ d v, dlook k kvs = some d ∧ DGet H a y (some v) ∧ R K cm H av v d) := by
  cases t with
  | false =>
    obtain ⟨a, ks, rfl, ha, r⟩ := hx.dicK
    have hs : isScal k = true := by cases k <;> simp [keyOk] at hk <;> rfl
    obtain ⟨q, rfl, rfl⟩ := keyD_inv hs hy
    refine ⟨a, rfl, ?_⟩
    rcases r.rp.look keyD keyD_eq' q with ⟨h1, h2⟩ | ⟨d, v, h1, h2, h3⟩
    · exact .inl ⟨h1, by rw [← h2]; exact .k ha⟩
    · exact .inr ⟨d, v, h1, by rw [← h2]; exact .k ha, h3⟩
  | true =>
    obtain ⟨a, ks, rfl, ha, r⟩ := hx.dicT
    cases k with
    | tup ds =>
      obtain ⟨b, vs, rfl, hb, rs⟩ := hy.tup
      obtain ⟨q, rfl, rfl⟩ := keyDs_inv hk rs
      refine ⟨a, rfl, ?_⟩
      rcases r.rp.look kdT kdT_eq q with ⟨h1, h2⟩ | ⟨d, v, h1, h2, h3⟩
      · exact .inl ⟨h1, by rw [← h2]; exact .t ha hb⟩
      · exact .inr ⟨d, v, h1, by rw [← h2]; exact .t ha hb, h3⟩
    | _ => simp [keyOk] at hk
def isDic : Option D → Bool
  | some (.dic _ _) => true
  | _ => false
def pick2 (b : Bool) (r r' : R2) : R2 := match b with | true => r | false => r'
def rGetD : R2 := fun x y H Q => ∃ a v, x = .ref a ∧ DGet H a y (some v) ∧ Q v H
theorem okE_ix {fa fb : List Slot → Res Opd} (hu : X.A.units + 1 < cLine) (hs : PlainIx b) (ha : OkO X cm W a fa) (hb : OkO X cm W b fb) :
    OkE X cm W (.Subscript a b pos) (fun st => (fa st).th fun x st => (fb st).th fun y st => match rs1 st x, rs1 st y with | some d, some i => outD (ixD d i) st | _, _ => .bad) := by
  refine okE_two (rule := fun (i : Bool) av => pick2 i rGetD (rIxD X.K cm av)) (sel := fun x _ st => isDic (rs1 st x)) (fun i av => ?_) ha hb fun av H0 st σ avH H H2 Q x y v w S k rx ry h => ?_
  · cases i with
    | true => exact pe_dget (td := SemE X a) (ty := SemE X b) hu peS peS hs
    | false => exact pe_ix ixr_d peS peS hs
  · split at h
    · rename_i d d' e1 e2
      obtain ⟨r, hr, hq⟩ := endD S k h
      have lx := rx.look S e1
      have ly := ry.look S e2
      dsimp only
      rw [e1]
      cases d with
      | dic t kvs =>
        show rGetD _ _ _ _
        simp only [ixD] at hr
        split at hr
        · rename_i hk
          obtain ⟨a, ea, h' | ⟨d, u, h1, h2, h3⟩⟩ := dget_of lx ly hk
          · rw [hr] at h'; exact absurd h'.1 (by simp)
          · rw [hr] at h1; cases h1
            exact ⟨a, u, ea, h2, hq u h3⟩
        · cases hr
      | _ => exact ⟨_, d', r, lx, ly, hr, (fun _ _ e => nomatch e), hq⟩
    · exact h.elim
/-! ### slices -/
def rSlF (K : PySem.W.Frag) (cm : Nat → Value) (av : Addr → Prop) (lo : Bool) : R2 := fun x y H Q => ∃ i, y = .int i ∧ rSlD K cm av x (if lo then some i else none) (if lo then none else some i) H Q
theorem end_sl {lo : Bool} : EndTwo X cm W (fun (_ : Unit) av => rSlF X.K cm av lo) (fun _ _ _ => ()) (fun x y st => match rs1 st x, rs1 st y with | some d, some (.int l) => outE (slD d (if lo then some l else none) (if lo then none else some l)) st | _, _ => .bad) := by
  intro av H0 st σ avH H H2 Q x y v w S k rx ry h
  dsimp only at h
  split at h
  · rename_i d l e1 e2
    obtain ⟨fr, r, hr, hq⟩ := endE S k h
    exact ⟨l, (ry.look S e2).int, d, fr, r, rx.look S e1, hr, hq⟩
  · exact h.elim
theorem okE_slF {p2 : Pos} {fa fb : List Slot → Res Opd} (ha : OkO X cm W a fa) (hb : OkO X cm W b fb) :
    OkE X cm W (.Subscript a (.Slice (some b) none none p2) pos) (fun st => (fa st).th fun x st => (fb st).th fun y st => match rs1 st x, rs1 st y with | some d, some (.int l) => outE (slD d (some l) none) st | _, _ => .bad) := by
  refine okE_two (fun _ av => ?_) ha hb (end_sl (lo := true))
  refine ⟨fun pins s σ H Q I h => (pe_slice (slr_d (cm := cm) (av := av)) peS (po_some peS) po_none).run pins s σ H Q I ?_⟩
  exact fun pins s I => wpAny_mono (h pins s I) (fun u s' ⟨x, H', I', r, q⟩ => ⟨x, H', I', r, fun pins s I => wpAny_mono (q pins s I) (fun u s' ⟨y, H', I', r, i, e, q⟩ => ⟨y, H', I', r, i, e, q⟩) fun _ _ x => x⟩) fun _ _ x => x
theorem okE_slT {p2 : Pos} {fa fb : List Slot → Res Opd} (ha : OkO X cm W a fa) (hb : OkO X cm W b fb) :
    OkE X cm W (.Subscript a (.Slice none (some b) none p2) pos) (fun st => (fa st).th fun x st => (fb st).th fun y st => match rs1 st x, rs1 st y with | some d, some (.int l) => outE (slD d none (some l)) st | _, _ => .bad) := by
  refine okE_two (fun _ av => ?_) ha hb (end_sl (lo := false))
  refine ⟨fun pins s σ H Q I h => (pe_slice (slr_d (cm := cm) (av := av)) peS po_none (po_some peS)).run pins s σ H Q I ?_⟩
  exact fun pins s I => wpAny_mono (h pins s I) (fun u s' ⟨x, H', I', r, q⟩ => ⟨x, H', I', r, fun pins s I => wpAny_mono (q pins s I) (fun u s' ⟨y, H', I', r, i, e, q⟩ => ⟨y, H', I', r, i, e, q⟩) fun _ _ x => x⟩) fun _ _ x => x
/-! ### operand lists -/
theorem ops_sem {ι : Type} [Inhabited ι] {rule : ι → (Addr → Prop) → List V → Hp → VK → Prop} {sel : List Opd → List Slot → ι} {fs : List Slot → Res (List Opd)} {g : List Opd → List Slot → RE} {Q : VK} (ha : OkOs X cm W es fs)
    (hend : ∀ (st2 : List Slot) (H2 : Hp) (os : List Opd) (vs : List V), SRel X.K cm av H0 st2 σ H2 → Kp (VW av st σ) H (VW av st2 σ) H2 → OpRs X.K cm σ (AV av st2 σ) H2 vs os → PoE X.K cm av H0 σ (VW av st σ) H W Q (g os st2) → rule (sel os st2) (AV av st2 σ) vs H2 Q)
    (S : SRel X.K cm av H0 st σ H) (h : PoE X.K cm av H0 σ (VW av st σ) H W Q ((fs st).th g)) : ∃ i av', SemA X es σ H (fun vs H1 => rule i av' vs H1 Q) := by
  cases h1 : fs st with
  | bad => rw [h1] at h; exact h.elim
  | exc c st' => exact ⟨default, av, ha av H0 st σ H _ S (by rw [h1] at h ⊢; exact h)⟩
  | ok x st1 =>
    rw [h1, Res.th_ok] at h
    refine ⟨sel x st1, AV av st1 σ, ha av H0 st σ H _ S ?_⟩
    rw [h1]
    exact fun v H1 o1 => hend st1 H1 x v o1.1 o1.2.1 o1.2.2 h
def rBi (K : PySem.W.Frag) (cm : Nat → Value) (f : List D → Option (Bool × D)) (av : Addr → Prop) : List V → Hp → VK → Prop := fun xs H Q =>
  ∃ ds fr r, RXs K cm H av xs ds ∧ f ds = some (fr, r) ∧ ∀ v H', VN K cm av H fr r v H' → Q v H'
theorem okE_bi {e : Expr} {f : List D → Option (Bool × D)} {fs : List Slot → Res (List Opd)} (hp : ∀ av, PE X e (fun σ H Q => SemA X es σ H (fun vs H1 => rBi X.K cm f av vs H1 Q))) (ha : OkOs X cm W es fs) :
    OkE X cm W e (fun st => (fs st).th fun os st => match rsAll st os with | some ds => outE (f ds) st | none => .bad) := by
  intro av H0 st σ H Q S h
  obtain ⟨_, av', q⟩ := ops_sem (rule := fun (_ : Unit) av vs H2 Q => rBi X.K cm f av vs H2 Q) (sel := fun _ _ => ()) ha (fun st2 H2 os vs S2 k2 r2 h2 => by
    split at h2
    · rename_i ds e1
      obtain ⟨fr, r, hr, hq⟩ := endE S2 k2 h2
      exact ⟨ds, fr, r, r2.look S2 e1, hr, hq⟩
    · exact h2.elim) S h
  exact semE (hp av') q
end
/-! ### built-in functions -/
section
variable {X : Cx} {cm : Nat → Value} {av : Addr → Prop}
theorem rx1 {K : PySem.W.Frag} {H : Hp} {xs : List V} {d : D} (h : RXs K cm H av xs [d]) : ∃ x, xs = [x] ∧ RX K cm H av x d := by
  cases h with | cons a r => cases r; exact ⟨_, rfl, a⟩
theorem rx2 {K : PySem.W.Frag} {H : Hp} {xs : List V} {d e : D} (h : RXs K cm H av xs [d, e]) : ∃ x y, xs = [x, y] ∧ RX K cm H av x d ∧ RX K cm H av y e := by
  cases h with | cons a r => cases r with | cons b r => cases r; exact ⟨_, _, rfl, a, b⟩
theorem vals_ints {K : PySem.W.Frag} {H : Hp} : ∀ {ds : List D} {vs : List V} {ns : List Int}, Rs K cm H av vs ds → intsD ds = some ns → vs = ns.map V.int ∧ ds = ns.map D.int
  | [], _, _, .nil, e => by simp [intsD] at e; subst e; exact ⟨rfl, rfl⟩
  | d :: r, _, ns, .cons a q, e => by
    cases d <;> simp only [intsD, Option.map_eq_some_iff, reduceCtorEq] at e
    obtain ⟨m, e1, rfl⟩ := e
    obtain ⟨h1, h2⟩ := vals_ints q e1
    cases a
    exact ⟨by rw [h1]; rfl, by rw [h2]; rfl⟩
theorem vals_bools {K : PySem.W.Frag} {H : Hp} : ∀ {ds : List D} {vs : List V} {ns : List Bool}, Rs K cm H av vs ds → boolsD ds = some ns → vs = ns.map V.bl
  | [], _, _, .nil, e => by simp [boolsD] at e; subst e; rfl
  | d :: r, _, ns, .cons a q, e => by
    cases d <;> simp only [boolsD, Option.map_eq_some_iff, reduceCtorEq] at e
    obtain ⟨m, e1, rfl⟩ := e
    have h1 := vals_bools q e1
    cases a
    rw [h1]; rfl
end
end PD
set_option maxHeartbeats 1000000
namespace PD
open PySem PySem.Spec PyProof.Rows L2
/-! ### greatest, least -/
theorem fold_max : ∀ (r : List Int) (a : Int), (r.foldl (fun m x => if x > m then x else m) a = a ∨ r.foldl (fun m x => if x > m then x else m) a ∈ r) ∧ a ≤ r.foldl (fun m x => if x > m then x else m) a ∧ ∀ y ∈ r, y ≤ r.foldl (fun m x => if x > m then x else m) a
  | [], a => ⟨.inl rfl, Int.le_refl _, fun _ h => nomatch h⟩
  | b :: r, a => by
    rw [List.foldl_cons]
    obtain ⟨h1, h2, h3⟩ := fold_max r (if b > a then b else a)
    by_cases e : b > a
    · rw [if_pos e] at h1 h2 h3 ⊢
      refine ⟨.inr (h1.elim (fun z => by rw [z]; exact List.mem_cons_self) fun z => List.mem_cons_of_mem _ z), by omega, fun y hy => ?_⟩
      rcases List.mem_cons.mp hy with rfl | hy
      · exact h2
      · exact h3 y hy
    · rw [if_neg e] at h1 h2 h3 ⊢
      refine ⟨h1.imp id fun z => List.mem_cons_of_mem _ z, h2, fun y hy => ?_⟩
      rcases List.mem_cons.mp hy with rfl | hy
      · omega
      · exact h3 y hy
theorem fold_min : ∀ (r : List Int) (a : Int), (r.foldl (fun m x => if x < m then x else m) a = a ∨ r.foldl (fun m x => if x < m then x else m) a ∈ r) ∧ r.foldl (fun m x => if x < m then x else m) a ≤ a ∧ ∀ y ∈ r, r.foldl (fun m x => if x < m then x else m) a ≤ y
  | [], a => ⟨.inl rfl, Int.le_refl _, fun _ h => nomatch h⟩
  | b :: r, a => by
    rw [List.foldl_cons]
    obtain ⟨h1, h2, h3⟩ := fold_min r (if b < a then b else a)
    by_cases e : b < a
    · rw [if_pos e] at h1 h2 h3 ⊢
      refine ⟨.inr (h1.elim (fun z => by rw [z]; exact List.mem_cons_self) fun z => List.mem_cons_of_mem _ z), by omega, fun y hy => ?_⟩
      rcases List.mem_cons.mp hy with rfl | hy
      · exact h2
      · exact h3 y hy
    · rw [if_neg e] at h1 h2 h3 ⊢
      refine ⟨h1.imp id fun z => List.mem_cons_of_mem _ z, h2, fun y hy => ?_⟩
      rcases List.mem_cons.mp hy with rfl | hy
      · omega
      · exact h3 y hy
theorem maxI_mem {a : Int} {r : List Int} : maxI (a :: r) ∈ a :: r := ((fold_max r a).1).elim (fun z => by show List.foldl _ _ _ ∈ _; rw [z]; exact List.mem_cons_self) fun z => List.mem_cons_of_mem _ z
theorem maxI_le {a : Int} {r : List Int} : ∀ y ∈ a :: r, y ≤ maxI (a :: r) := fun y hy => (List.mem_cons.mp hy).elim (fun z => by rw [z]; exact (fold_max r a).2.1) ((fold_max r a).2.2 y)
theorem minI_mem {a : Int} {r : List Int} : minI (a :: r) ∈ a :: r := ((fold_min r a).1).elim (fun z => by show List.foldl _ _ _ ∈ _; rw [z]; exact List.mem_cons_self) fun z => List.mem_cons_of_mem _ z
theorem minI_le {a : Int} {r : List Int} : ∀ y ∈ a :: r, minI (a :: r) ≤ y := fun y hy => (List.mem_cons.mp hy).elim (fun z => by rw [z]; exact (fold_min r a).2.1) ((fold_min r a).2.2 y)
/-- served built-ins -/
def biOk : Bi → Bool
  | .len => true | .abs => true | .min => true | .max => true | .sum => true | .any => true | .all => true | .tuple => true | .list => true | .int => true
  | _ => false
def biV : Bi → Value
  | .len => .builtin "len" | .abs => .builtin "abs" | .min => .builtin "min" | .max => .builtin "max" | .sum => .builtin "sum" | .any => .builtin "any" | .all => .builtin "all"
  | .tuple => .type "tuple" | .list => .type "list" | .int => .type "int"
  | _ => .none
section
variable {X : Cx} {cm : Nat → Value} {av : Addr → Prop}
theorem rBi_len : CallR X (.builtin "len") (rBi X.K cm lenB av) := by
  intro pins s σ H xs us Q I r h
  obtain ⟨ds, fr, d, rx, hf, q⟩ := h
  unfold lenB at hf
  split at hf
  · cases hf
    obtain ⟨x, rfl, hx⟩ := rx1 rx
    obtain ⟨a, ea, ha⟩ := hx.scr
    exact call_len pins s σ H _ us Q I r ⟨_, _, rfl, (by rw [ea]; exact .inl ⟨_, ha.sq, by rw [List.length_map]⟩), q _ _ (.here (.int _))⟩
  · cases hf
    obtain ⟨x, rfl, hx⟩ := rx1 rx
    obtain ⟨a, vs, ea, ha, rs⟩ := hx.lst
    exact call_len pins s σ H _ us Q I r ⟨_, _, rfl, (by rw [ea]; exact .inl ⟨_, SqL.of ha, by rw [rs.length]⟩), q _ _ (.here (.int _))⟩
  · cases hf
    obtain ⟨x, rfl, hx⟩ := rx1 rx
    obtain ⟨a, vs, ea, ha, rs⟩ := hx.tup
    exact call_len pins s σ H _ us Q I r ⟨_, _, rfl, (by rw [ea]; exact .inr ⟨_, SqT.of ha, by rw [rs.length]⟩), q _ _ (.here (.int _))⟩
  · cases hf
    obtain ⟨x, rfl, hx⟩ := rx1 rx
    obtain ⟨a, ks, ea, ha, rk⟩ := hx.dicK
    have el : ∀ {ks : List (Key × V)} {kvs : List (D × D)}, RK X.K cm H av ks kvs → ks.length = kvs.length := fun {ks kvs} h => by
      induction kvs generalizing ks with
      | nil => cases h; rfl
      | cons p r ih => cases h with | cons a q => simp [ih q]
    exact call_lenD pins s σ H _ us Q I r ⟨a, ks, by rw [ea], ha, by rw [el rk]; exact q _ _ (.here (.int _))⟩
  · split at hf
    · rename_i hz
      cases hf
      obtain ⟨x, rfl, hx⟩ := rx1 rx
      exact call_len pins s σ H _ us Q I r ⟨_, _, rfl, (by rw [hx.str]; exact ⟨Nat.le_trans hz sz_line, rfl⟩), q _ _ (.here (.int _))⟩
    · cases hf
  · cases hf
theorem rBi_abs : CallR X (.builtin "abs") (rBi X.K cm absB av) := by
  intro pins s σ H xs us Q I r h
  obtain ⟨ds, fr, d, rx, hf, q⟩ := h
  unfold absB at hf
  split at hf
  · cases hf
    obtain ⟨x, rfl, hx⟩ := rx1 rx
    exact call_abs pins s σ H _ us Q I r ⟨_, by rw [hx.int], q _ _ (.here (.int _))⟩
  · cases hf
theorem rBi_max (hc : X.calm = true) : CallR X (.builtin "max") (rBi X.K cm maxB av) := by
  intro pins s σ H xs us Q I r h
  obtain ⟨ds, fr, d, rx, hf, q⟩ := h
  unfold maxB at hf
  split at hf
  · cases hf
    obtain ⟨x, y, rfl, hx, hy⟩ := rx2 rx
    exact call_max2 hc pins s σ H _ us Q I r ⟨_, _, by rw [hx.int, hy.int], q _ _ (.here (.int _))⟩
  · split at hf
    · rename_i b t e
      cases hf
      obtain ⟨x, rfl, hx⟩ := rx1 rx
      obtain ⟨a, vs, ea, ha, rs⟩ := hx.lst
      obtain ⟨e1, e2⟩ := vals_ints rs e
      refine cr_max hc pins s σ H _ us Q I r ⟨a, b :: t, by rw [ea], by rw [← e1]; exact SqL.of ha, by simp, fun m hm hl => ?_⟩
      have em : m = maxI (b :: t) := Int.le_antisymm (maxI_le m hm) (hl _ maxI_mem)
      rw [em]; exact q _ _ (.here (.int _))
    · cases hf
  · cases hf
theorem rBi_min (hc : X.calm = true) : CallR X (.builtin "min") (rBi X.K cm minB av) := by
  intro pins s σ H xs us Q I r h
  obtain ⟨ds, fr, d, rx, hf, q⟩ := h
  unfold minB at hf
  split at hf
  · cases hf
    obtain ⟨x, y, rfl, hx, hy⟩ := rx2 rx
    exact call_min2 hc pins s σ H _ us Q I r ⟨_, _, by rw [hx.int, hy.int], q _ _ (.here (.int _))⟩
  · split at hf
    · rename_i b t e
      cases hf
      obtain ⟨x, rfl, hx⟩ := rx1 rx
      obtain ⟨a, vs, ea, ha, rs⟩ := hx.lst
      obtain ⟨e1, e2⟩ := vals_ints rs e
      refine cr_min hc pins s σ H _ us Q I r ⟨a, b :: t, by rw [ea], by rw [← e1]; exact SqL.of ha, by simp, fun m hm hl => ?_⟩
      have em : m = minI (b :: t) := Int.le_antisymm (hl _ minI_mem) (minI_le m hm)
      rw [em]; exact q _ _ (.here (.int _))
    · cases hf
  · cases hf
theorem rBi_sum (hc : X.calm = true) : CallR X (.builtin "sum") (rBi X.K cm sumB av) := by
  intro pins s σ H xs us Q I r h
  obtain ⟨ds, fr, d, rx, hf, q⟩ := h
  unfold sumB at hf
  split at hf
  · rw [Option.map_eq_some_iff] at hf
    obtain ⟨ns, e, hf⟩ := hf
    cases hf
    obtain ⟨x, rfl, hx⟩ := rx1 rx
    obtain ⟨a, vs, ea, ha, rs⟩ := hx.lst
    obtain ⟨e1, e2⟩ := vals_ints rs e
    exact cr_sum hc pins s σ H _ us Q I r ⟨a, ns, by rw [ea], by rw [← e1]; exact SqL.of ha, q _ _ (.here (.int _))⟩
  · cases hf
theorem rBi_any (hc : X.calm = true) : CallR X (.builtin "any") (rBi X.K cm anyB av) := by
  intro pins s σ H xs us Q I r h
  obtain ⟨ds, fr, d, rx, hf, q⟩ := h
  unfold anyB at hf
  split at hf
  · rw [Option.map_eq_some_iff] at hf
    obtain ⟨ns, e, hf⟩ := hf
    cases hf
    obtain ⟨x, rfl, hx⟩ := rx1 rx
    obtain ⟨a, vs, ea, ha, rs⟩ := hx.lst
    exact cr_any hc pins s σ H _ us Q I r ⟨a, ns, by rw [ea], by rw [← vals_bools rs e]; exact SqL.of ha, q _ _ (.here (.bl _))⟩
  · cases hf
theorem rBi_all (hc : X.calm = true) : CallR X (.builtin "all") (rBi X.K cm allB av) := by
  intro pins s σ H xs us Q I r h
  obtain ⟨ds, fr, d, rx, hf, q⟩ := h
  unfold allB at hf
  split at hf
  · rw [Option.map_eq_some_iff] at hf
    obtain ⟨ns, e, hf⟩ := hf
    cases hf
    obtain ⟨x, rfl, hx⟩ := rx1 rx
    obtain ⟨a, vs, ea, ha, rs⟩ := hx.lst
    exact cr_all hc pins s σ H _ us Q I r ⟨a, ns, by rw [ea], by rw [← vals_bools rs e]; exact SqL.of ha, q _ _ (.here (.bl _))⟩
  · cases hf
theorem rBi_tuple : CallR X (.type "tuple") (rBi X.K cm tupleB av) := by
  intro pins s σ H xs us Q I r h
  obtain ⟨ds, fr, d, rx, hf, q⟩ := h
  unfold tupleB at hf
  split at hf
  · cases hf
    obtain ⟨x, rfl, hx⟩ := rx1 rx
    obtain ⟨a, vs, ea, ha, rs⟩ := hx.lst
    exact call_tuple_of pins s σ H _ us Q I r ⟨a, vs, by rw [ea], .inl ⟨SqL.of ha, fun p hp => q _ _ (.tup hp rs)⟩⟩
  · cases hf
    obtain ⟨x, rfl, hx⟩ := rx1 rx
    obtain ⟨a, vs, ea, ha, rs⟩ := hx.tup
    exact call_tuple_of pins s σ H _ us Q I r ⟨a, vs, by rw [ea], .inr ⟨SqT.of ha, q _ _ (.here (.tup ha rs))⟩⟩
  · cases hf
theorem rk_keys {K : PySem.W.Frag} {H : Hp} : ∀ {ks : List (Key × V)} {kvs : List (D × D)}, RK K cm H av ks kvs → Rs K cm H av (ks.map fun kv => kV kv.1) (kvs.map (·.1))
  | _, _, .nil => .nil
  | _, _, @RK.cons _ _ _ _ k _ _ _ _ _ r => by
    rw [List.map_cons, List.map_cons]
    refine .cons ?_ (rk_keys r)
    cases k with
    | inl i => exact .int i
    | inr x => exact .str x
theorem rBi_list (hc : X.calm = true) : CallR X (.type "list") (rBi X.K cm listB av) := by
  intro pins s σ H xs us Q I r h
  obtain ⟨ds, fr, d, rx, hf, q⟩ := h
  unfold listB at hf
  split at hf
  · cases hf
    obtain ⟨x, rfl, hx⟩ := rx1 rx
    obtain ⟨a, vs, ea, ha, rs⟩ := hx.lst
    exact call_list_of pins s σ H _ us Q I r ⟨a, vs, by rw [ea], .inl (SqL.of ha), fun p hp => q _ _ (.lst hp rs)⟩
  · cases hf
    obtain ⟨x, rfl, hx⟩ := rx1 rx
    obtain ⟨a, vs, ea, ha, rs⟩ := hx.tup
    exact call_list_of pins s σ H _ us Q I r ⟨a, vs, by rw [ea], .inr (SqT.of ha), fun p hp => q _ _ (.lst hp rs)⟩
  · cases hf
    obtain ⟨x, rfl, hx⟩ := rx1 rx
    obtain ⟨a, ks, ea, ha, rk⟩ := hx.dicK
    exact call_list_dK hc pins s σ H _ us Q I r ⟨a, ks, by rw [ea], ha, fun p hp => q _ _ (.lst hp (rk_keys rk))⟩
  · cases hf
theorem rBi_int : CallR X (.type "int") (rBi X.K cm intB av) := by
  intro pins s σ H xs us Q I r h
  obtain ⟨ds, fr, d, rx, hf, q⟩ := h
  unfold intB at hf
  split at hf
  · cases hf
    obtain ⟨x, rfl, hx⟩ := rx1 rx
    exact call_int1 pins s σ H _ us Q I r (.inl ⟨_, by rw [hx.int], q _ _ (.here (.int _))⟩)
  · cases hf
    obtain ⟨x, rfl, hx⟩ := rx1 rx
    exact call_int1 pins s σ H _ us Q I r (.inr ⟨_, by rw [hx.bl], q _ _ (.here (.int _))⟩)
  · cases hf
end
end PD
set_option maxHeartbeats 2000000
set_option maxRecDepth 100000
namespace PD
open PySem PySem.Spec PyProof.Rows L2
/-! F4c2: enumerate(tuple). -/
open Sem (wp) in
open AutoSeq1 (wpAny_loadPart') in
theorem meets_enumerate_newT (l : Addr) (items : Array Value) (n : Nat) (dct : Option Addr) (sl : Array (Option Value)) :
    Meets (Builtin.«enumerate.__new__» ⟨[.type "enumerate", .ref l], []⟩) (fun _ R s => s.heap.get? l = some { cls := .type "tuple", dict := dct, data := .seq items n, slots := sl } ∧
      R (.ok (.ret (.ref (s.heap.push { cls := .type "tuple_iterator", data := .fields #[.ref l, .int 0 0] }).objs.size)))
        { s with heap := (s.heap.push { cls := .type "tuple_iterator", data := .fields #[.ref l, .int 0 0] }).push { cls := .type "enumerate", data := .fields #[.none, .bool false, .ref s.heap.objs.size, rawInt 0, .none, .none] } }) :=
  .of_wp fun prog w A R s h => by
    obtain ⟨hp, g, d, tk, os⟩ := s; obtain ⟨hl, h⟩ := h
    have hsub := sub_enumerate
    have hL : Heap.IsTuple (Shared.heap ⟨hp, g, d, tk, os⟩) l items := ⟨_, hl, rfl, n, rfl⟩
    wp_walk using wpAny_loadPart' hl
    refine wpAny_stack_any fun st => wpAny_pure ?_
    split
    · rename_i c _ _ _ _ _
      cases (c == Value.type "enumerate")
      · wp_walk using wpAny_loadPart' hl, wpAny_pyIter_tuple hL
        exact ⟨_, rfl, h⟩
      · wp_walk using wpAny_loadPart' hl, wpAny_pyIter_tuple hL
        exact ⟨_, rfl, h⟩
    · wp_walk using wpAny_loadPart' hl, wpAny_pyIter_tuple hL
      exact ⟨_, rfl, h⟩
section
variable {prog : Program} {w : World} {A : Around} {E : Value → Shared → Prop} {s : Shared}
theorem call_enumerate_tup {l : Addr} {items : Array Value} {Q : Value → Shared → Prop} (hL : s.heap.IsTuple l items)
    (h : ∀ h', IsEnum h' (s.heap.objs.size + 1) s.heap.objs.size 0 .none → h'.IsTupleIter s.heap.objs.size l 0 → h'.objs.size = s.heap.objs.size + 2 →
      (∀ b o, s.heap.get? b = some o → h'.get? b = some o) → Q (.ref (s.heap.objs.size + 1)) { s with heap := h' }) :
    wpAny (model prog w) A (call (.type "enumerate") [.ref l]) Q E s := by
  obtain ⟨⟨c, dct, dt, sl⟩, hl, hc, n, hd⟩ := hL
  replace hc : c = .type "tuple" := hc
  replace hd : dt = .seq items n := hd
  subst hc hd
  refine callType_new F.called_enumerate (by decide) (F.typeCall_enumerate_1 _) (F.newCall_enumerate_1 _) (fun obj => F.args_object_init_2 obj _) F.entry_enumerate_new
    (meets_enumerate_newT l items n dct sl) ⟨hl, ?_⟩
  have hz : (s.heap.push { cls := .type "tuple_iterator", data := .fields #[.ref l, .int 0 0] }).objs.size = s.heap.objs.size + 1 := Heap.size_push ..
  show _ ∧ _
  rw [hz]
  have he : IsEnum ((s.heap.push { cls := .type "tuple_iterator", data := .fields #[.ref l, .int 0 0] }).push
      { cls := .type "enumerate", data := .fields #[.none, .bool false, .ref s.heap.objs.size, rawInt 0, .none, .none] }) (s.heap.objs.size + 1) s.heap.objs.size 0 .none := by
    have := Heap.get?_push_size (s.heap.push { cls := .type "tuple_iterator", data := .fields #[.ref l, .int 0 0] })
      (o := { cls := .type "enumerate", data := .fields #[.none, .bool false, .ref s.heap.objs.size, rawInt 0, .none, .none] }) rfl
    rw [hz] at this; exact this
  refine ⟨⟨_, he, rfl⟩, h _ he ⟨_, Heap.get?_push_of_some _ (Heap.get?_push_size _ rfl), rfl, rfl⟩ (by rw [Heap.size_push, hz]) fun b o x => Heap.get?_push_of_some _ (Heap.get?_push_of_some _ x)⟩
end
theorem enum_endT {prog : Program} {w : World} {A : Around} {E : Value → Shared → Prop} {s : Shared} {e it t : Addr} {k : Int} {i : Nat} {items : Array Value} {old : Value} {Q : Option Value → Shared → Prop} (hh : A.handled = none)
    (he : IsEnum s.heap e it k old) (hit : s.heap.IsTupleIter it t i) (ht : s.heap.IsTuple t items) (hx : items[i]? = none) (hQ : ∀ h', Heap.ExtBut it s.heap h' → Q none { s with heap := h' }) : wpAny (model prog w) A (pyNext (.ref e)) Q E s := by
  have hT : s.TypeIs (.ref e) "enumerate" := ⟨_, he, rfl⟩
  unfold pyNext
  refine wpAny_bind (wpAny_attempt (wpAny_callSpecial?_slot (name := Str.ofString "__next__") hT F.slot_enumerate_next
    (wpAny_call_entry F.slot_enumerate_next hT F.entry_enumerate_next ?_ (F.args_enumerate_next_1 _))))
  show wpAny _ _ (field (.ref e) 2 >>= _) _ _ _
  refine wpAny_bind (wpAny_field he rfl (x := .ref it) rfl ?_)
  refine wpAny_bind (wpAny_nextOf_tuple_end (A := A.in1) hh hit ht hx fun h' x he' hx' => ?_)
  obtain ⟨o, ho, hc⟩ := hx'
  refine wpAny_bind (wpAny_isInstance (T := "StopIteration") (b := true) ⟨o, ho, hc⟩ isSubtype_stop ?_)
  exact wpAny_pure (hQ _ he')
/-- the tuple at a, each item in a new pair -/
def IteT (K : PySem.W.Frag) (a : Addr) : It :=
  ⟨fun i H => ∃ (xs : List V) (x : V), SqT K H a xs ∧ xs[i]? = some x, fun i H v H' => ∃ T x, v = .ref T ∧ H T = none ∧ H' = upd H T (.tup [.int (i : Nat), x]) ∧ ∀ xs, SqT K H a xs → xs[i]? = some x, fun i H => ∃ xs : List V, SqT K H a xs ∧ xs.length ≤ i⟩
theorem turn_enumT {P : Program} {w : World} {K : PySem.W.Frag} {elts : List Expr} {kk : Nat} {tpos : Pos} (a e it : Addr) (hea : e ≠ a) (hta : a ≠ it) :
    Turn P w K (.Tuple elts kk tpos) (IteT K a) [e, it] e (fun i h => (∃ old, IsEnum h e it ((i : Nat) : Int) old) ∧ h.IsTupleIter it a i ∧ e ≠ it) where
  mem := by simp
  obj := fun i h st b hb => by
    obtain ⟨⟨old, he⟩, ⟨o, ho, hc, hd⟩, _⟩ := st
    have e' : b = e ∨ b = it := by simpa using hb
    rcases e' with z | z
    · rw [z]; exact ⟨_, he, fun v q => nomatch q⟩
    · rw [z]; exact ⟨o, ho, fun v q => by rw [hd] at q; cases q⟩
  keep := fun i h h' st k => let ⟨⟨old, he⟩, hi, hne⟩ := st; ⟨⟨old, k e (by simp) _ he⟩, hi.at fun o q => k it (by simp) o q, hne⟩
  item := by
    intro X hP hw hK hc i pins s σ H E I hf st hg
    subst hP hw hK
    obtain ⟨⟨old, he⟩, hit, hne⟩ := st
    obtain ⟨xs, x, hq, hx⟩ := hg
    obtain ⟨its, rv, p, hz⟩ := I.tuple hq
    obtain ⟨u, hu, ru⟩ := rv.get hx
    have hel : e < s.heap.objs.size := Heap.lt_size he
    have hil : it < s.heap.objs.size := by obtain ⟨_, q, _⟩ := hit; exact Heap.lt_size q
    have hi : i < its.toArray.size := by
      have := (List.getElem?_eq_some_iff.mp hu).1
      simpa using this
    have hea' : e ∉ [it, a] := by simp [hne, hea]
    refine wpAny_pyNext_enum_itemD (Draws.tuple (A := X.A.in1) (I.ok.hd hc) it a hta its.toArray) he ⟨hit, p⟩ hi hne hea' fun x0 h' tk hP ho hst hT hsz hk => ?_
    have ex : x0 = u := by
      have hP : its.toArray[i]? = some x0 := hP
      have hu' : its.toArray[i]? = some u := by simpa using hu
      rw [hu'] at hP; exact (Option.some.inj hP).symm
    subst ex
    obtain ⟨hit', _⟩ := hst
    refine ⟨_, rfl, wpAny_letOwnedTupleGo_enum (s := { s with heap := h', toks := tk + 1 }) ho fun h'' he' sb => ?_⟩
    have hT2 : h''.get? s.heap.objs.size = some { cls := .type "tuple", data := .seq #[.int i tk, x0] } := (sb.2 _ (Nat.ne_of_gt hel)).trans hT
    have new : ObjOk X.prog X.w (upd H s.heap.objs.size (.tup [.int (i : Nat), x])) h'' s.heap.objs.size (.tup [.int (i : Nat), x]) :=
      ⟨by show 2 ≤ sizeLine; decide, [.int i tk, x0], .cons ⟨_, rfl⟩ (.cons ru .nil), ⟨_, hT2, rfl, _, rfl⟩⟩
    have I1 : Inv X pins σ (upd H s.heap.objs.size (.tup [.int (i : Nat), x])) { s with heap := h'', toks := tk + 1 } :=
      I.turnedNew (ch := [e, it]) (fun b ob hb q => (sb.2 b (fun z => hb (by simp [z]))).trans (hk b ob (fun z => hb (by simp [z])) (fun z => hb (by simp [z])) q)) hf (Nat.le_refl _) new
    refine ⟨.ref s.heap.objs.size, _, I1, rfl, ⟨_, x, rfl, I.hok.fresh (Nat.le_refl _), rfl, fun ys hy => by rw [I.tuple_inj hy hq]; exact hx⟩, ⟨⟨x0, ?_⟩, hit'.at fun o q => (sb.2 it (Ne.symm hne)).trans q, hne⟩, fun b hb => ?_⟩
    · have e1 : ((i + 1 : Nat) : Int) = (i : Int) + 1 := by omega
      rw [e1]; exact he'
    · have hb' : b < s.heap.objs.size := by
        have e' : b = e ∨ b = it := by simpa using hb
        rcases e' with z | z
        · rw [z]; exact hel
        · rw [z]; exact hil
      rw [upd_ne (Nat.ne_of_lt hb')]
      exact (hf b hb).1
  done := by
    intro X hP hw hK hc i pins s σ H E I hf st hg
    subst hP hw hK
    obtain ⟨⟨old, he⟩, hit, hne⟩ := st
    obtain ⟨xs, hq, hx⟩ := hg
    obtain ⟨its, rv, p, hz⟩ := I.tuple hq
    obtain ⟨f0, f1, f2, f3, f4, f5⟩ := hf it (by simp)
    have hl := rv.length
    exact enum_endT (I.ok.hd hc) he hit p (by simp; omega) fun h' eb => ⟨rfl, I.turned (t' := s.toks) (fun b o hb q => eb b o hb q) f0 f1 f3 f4 f5⟩
  self := fun A i s Q E st h => let ⟨⟨_, he⟩, _⟩ := st; wpAny_pyIter_enum he h
def iEnumT (K : PySem.W.Frag) (ta : TA) : TI := fun σ H R => ta σ H fun vs H1 => ∃ a xs, vs = [.ref a] ∧ SqT K H1 a xs ∧ R (IteT K a) H1
theorem pi_enumT {X : Cx} {e : Expr} {ta : TA} {p pos tpos : Pos} {elts : List Expr} {kk : Nat} (hg : Gl X "enumerate") (hm : X.mg "enumerate" = none) (ha : PA X [e] ta) (hs : starEach [e] X.env = [(false, eval e X.env)] := by rfl) :
    PI X (.Tuple elts kk tpos) (.Call (.Name "enumerate" p) [e] [] pos) (iEnumT X.K ta) := by
  refine ⟨fun pins s σ H R I h => ?_⟩
  refine Call_ (ld_blt I hg hm boot_enumerate (PyProof.Rows.callWith_type1 (thn (ha.run pos pins s σ H _ I h) fun us s1 ⟨vs, H1, I1, r1, q1⟩ => ?_) hs rfl))
  obtain ⟨a, xs, ex, hq, q⟩ := q1
  subst ex
  cases r1 with
  | cons r rr =>
    cases rr
    cases r
    obtain ⟨its, rv, p', hz⟩ := I1.tuple hq
    have ha : a < s1.heap.objs.size := by obtain ⟨o, q, _⟩ := p'; exact Heap.lt_size q
    refine call_enumerate_tup p' fun h' he hit hsz hk => wpAny_pyIter_enum he ?_
    have I2 : Inv X pins σ H1 { s1 with heap := h' } := I1.kept (t' := s1.toks) hk
    refine ⟨s1.heap.objs.size + 1, [s1.heap.objs.size + 1, s1.heap.objs.size], _, _, H1, rfl, I2, turn_enumT a (s1.heap.objs.size + 1) s1.heap.objs.size (Nat.ne_of_gt (Nat.lt_succ_of_lt ha)) (Nat.ne_of_lt ha), ⟨⟨.none, he⟩, hit, Nat.succ_ne_self _⟩, fun b hb => ?_, q⟩
    have e' : b = s1.heap.objs.size + 1 ∨ b = s1.heap.objs.size := by simpa using hb
    have hle : s1.heap.objs.size ≤ b := by
      rcases e' with z | z
      · rw [z]; exact Nat.le_add_right _ _
      · rw [z]; exact Nat.le_refl _
    exact I1.fpOk hle (I1.hok.fresh hle)
end PD
set_option maxHeartbeats 1000000
namespace PD
open PySem PySem.Spec PyProof.Rows L2
/-! ### targets -/
mutual
def Tg.slots : Tg → List Nat
  | .nm i => [i]
  | .tup ts => ts.slots
def Tgs.slots : Tgs → List Nat
  | .nil => []
  | .cons t ts => t.slots ++ ts.slots
end
/-- all but these slots are as they were -/
def But (l : List Nat) (σ σ' : L2.St) : Prop := σ'.length = σ.length ∧ ∀ j : Nat, j ∉ l → σ'[j]? = σ[j]?
/-- a target's store, by data -/
def GB (K : PySem.W.Frag) (cm : Nat → Value) (g : TG) (m : Tg) : Prop :=
  ∀ (av : Addr → Prop) (H0 : Hp) (st st' : List Slot) (σ : L2.St) (H : Hp) (d : D) (v : V) (Q : L2.St → Hp → Prop), SRel K cm av H0 st σ H → R K cm H (AV av st σ) v d → bind m d st = some st' →
    (∀ σ' H', SRel K cm av H0 st' σ' H' → Kp (VW av st σ) H (VW av st' σ') H' → But m.slots σ σ' → Q σ' H') → g v σ H Q
def GBs (K : PySem.W.Frag) (cm : Nat → Value) (g : TGs) (m : Tgs) : Prop :=
  ∀ (av : Addr → Prop) (H0 : Hp) (st st' : List Slot) (σ : L2.St) (H : Hp) (ds : List D) (vs : List V) (Q : L2.St → Hp → Prop), SRel K cm av H0 st σ H → Rs K cm H (AV av st σ) vs ds → binds m ds st = some st' →
    (∀ σ' H', SRel K cm av H0 st' σ' H' → Kp (VW av st σ) H (VW av st' σ') H' → But m.slots σ σ' → Q σ' H') → g vs σ H Q
def OkG (X : Cx) (cm : Nat → Value) (tg : Expr) (g : TG) (m : Tg) : Prop := PG X tg g ∧ GB X.K cm g m
def OkGs (X : Cx) (cm : Nat → Value) (tgs : List Expr) (g : TGs) (m : Tgs) : Prop := PGs X tgs g ∧ GBs X.K cm g m
section
variable {K : PySem.W.Frag} {cm : Nat → Value}
theorem gb_nm {i : Nat} : GB K cm (gName i) (.nm i) := by
  intro av H0 st st' σ H d v Q S r e q
  simp only [bind] at e
  split at e
  · cases e
    obtain ⟨S', k⟩ := S.store (by assumption) r
    refine q _ _ S' k ⟨by rw [List.length_set], fun j hj => List.getElem?_set_ne fun z => hj ?_⟩
    rw [← z]; exact List.mem_singleton.mpr rfl
  · cases e
theorem gb_nil : GBs K cm gNil .nil := by
  intro av H0 st st' σ H ds vs Q S r e q
  cases r with
  | nil => simp only [binds, Option.some.injEq] at e; subst e; exact ⟨rfl, q _ _ S kp0 ⟨rfl, fun _ _ => rfl⟩⟩
  | cons _ _ => simp [binds] at e
theorem gb_cons {t : TG} {u : TGs} {m : Tg} {ms : Tgs} (h1 : GB K cm t m) (h2 : GBs K cm u ms) : GBs K cm (gCons t u) (.cons m ms) := by
  intro av H0 st st' σ H ds vs Q S r e q
  cases r with
  | nil => simp [binds] at e
  | @cons v d vs ds a r =>
    simp only [binds] at e
    split at e
    · rename_i st1 e1
      refine ⟨v, vs, rfl, h1 av H0 st st1 σ H d v _ S a e1 fun σ1 H1 S1 k1 b1 => ?_⟩
      exact h2 av H0 st1 st' σ1 H1 ds vs Q S1 (r.kp k1) e fun σ2 H2 S2 k2 b2 => q _ _ S2 (k1.trans k2) ⟨b2.1.trans b1.1, fun j hj => (b2.2 j fun z => hj (List.mem_append_right _ z)).trans (b1.2 j fun z => hj (List.mem_append_left _ z))⟩
    · cases e
def Tgs.len : Tgs → Nat
  | .nil => 0
  | .cons _ r => r.len + 1
theorem binds_len : ∀ {m : Tgs} {ds : List D} {st st' : List Slot}, binds m ds st = some st' → ds.length = m.len
  | .nil, [], _, _, _ => rfl
  | .nil, _ :: _, _, _, h => by simp [binds] at h
  | .cons _ _, [], _, _, h => by simp [binds] at h
  | .cons m ms, d :: ds, st, st', h => by
    simp only [binds] at h
    split at h
    · simp [Tgs.len, binds_len h]
    · cases h
theorem gb_tup {t : TGs} {ms : Tgs} (h : GBs K cm t ms) : GB K cm (fun v σ H Q => gTup K ms.len t v σ H Q ∨ gUnl K ms.len t v σ H Q) (.tup ms) := by
  intro av H0 st st' σ H d v Q S r e q
  simp only [bind] at e
  split at e
  · rename_i xs e1
    cases d with
    | tup ds =>
      simp only [seqD, Option.some.injEq] at e1; subst e1
      obtain ⟨a, vs, rfl, ha, rs⟩ := RX.tup (.inl r)
      exact .inl ⟨a, vs, rfl, SqT.of ha, by rw [rs.length]; exact binds_len e, h av H0 st st' σ H _ _ Q S rs e q⟩
    | lst ds =>
      simp only [seqD, Option.some.injEq] at e1; subst e1
      obtain ⟨a, vs, rfl, ha, rs⟩ := RX.lst (.inl r)
      exact .inr ⟨a, vs, rfl, SqL.of ha, by rw [rs.length]; exact binds_len e, h av H0 st st' σ H _ _ Q S rs e q⟩
    | _ => simp [seqD] at e1
  · cases e
end
section
variable {X : Cx} {cm : Nat → Value} {pos : Pos}
theorem okG_nm {i : Nat} {x : Str} (hN : X.N.Nodup) (hi : X.N[i]? = some x) (hx : Loc X.env.scope x) (hf : X.fn x = true ∨ X.env.scope.names.lookup x = some .local) : OkG X cm (.Name x pos) (gName i) (.nm i) := ⟨pg_name hN hi hx hf, gb_nm⟩
theorem okGs_nil : OkGs X cm [] gNil .nil := ⟨pgs_nil, gb_nil⟩
theorem okGs_cons {e : Expr} {es : List Expr} {t : TG} {u : TGs} {m : Tg} {ms : Tgs} (h1 : OkG X cm e t m) (h2 : OkGs X cm es u ms) (hs : (assignEach (e :: es) X.env).map (·.2) = assign e X.env :: (assignEach es X.env).map (·.2)) :
    OkGs X cm (e :: es) (gCons t u) (.cons m ms) := ⟨pgs_cons h1.1 h2.1 hs, gb_cons h1.2 h2.2⟩
theorem pg_or {tg : Expr} {t t' : TG} (h : PG X tg t) (h' : PG X tg t') : PG X tg (fun v σ H Q => t v σ H Q ∨ t' v σ H Q) :=
  ⟨fun pins s σ H v u Q I r q => q.elim (fun q => h.run pins s σ H v u Q I r q) fun q => h'.run pins s σ H v u Q I r q⟩
theorem okG_tup {es : List Expr} {k : Nat} {t : TGs} {ms : Tgs} (hc : X.calm = true) (h : OkGs X cm es t ms) (hn : (assignEach es X.env).length = ms.len) (hst : (assignEach es X.env).findIdx? (·.1) = none) :
    OkG X cm (.Tuple es k pos) (fun v σ H Q => gTup X.K ms.len t v σ H Q ∨ gUnl X.K ms.len t v σ H Q) (.tup ms) := ⟨pg_or (pg_tup hc h.1 hn hst) (pg_unl hc h.1 hn hst), gb_tup h.2⟩
end
/-! ### what is walked -/
inductive ItOk (K : PySem.W.Frag) (cm : Nat → Value) : It → List D → Vw → Hp → Prop
  | lst {a : Addr} {vs : List V} {ds : List D} {w : Vw} {H : Hp} : H a = some (.lst vs) → ¬ w.mo a → Rs K cm H w.av vs ds → ItOk K cm (Itl K a) ds w H
  | tup {a : Addr} {vs : List V} {ds : List D} {w : Vw} {H : Hp} : H a = some (.tup vs) → Rs K cm H w.av vs ds → ItOk K cm (Itt K a) ds w H
  | rng {lo : Int} {n : Nat} {w : Vw} {H : Hp} : ItOk K cm (Itr lo n) (rangeL lo n) w H
  | rngC {lo c : Int} {n : Nat} {w : Vw} {H : Hp} : ItOk K cm (Itc lo c n) (rangeC lo c n) w H
  | zipL {a b : Addr} {vs us : List V} {ds es : List D} {w : Vw} {H : Hp} : H a = some (.lst vs) → ¬ w.mo a → Rs K cm H w.av vs ds → H b = some (.lst us) → ¬ w.mo b → Rs K cm H w.av us es → ItOk K cm (Itz K a b) (zipD ds es) w H
  | zipT {a b : Addr} {vs us : List V} {ds es : List D} {w : Vw} {H : Hp} : H a = some (.tup vs) → Rs K cm H w.av vs ds → H b = some (.tup us) → Rs K cm H w.av us es → ItOk K cm (RZ.ItzT K a b) (zipD ds es) w H
  | enum {a : Addr} {vs : List V} {ds : List D} {w : Vw} {H : Hp} : H a = some (.lst vs) → ¬ w.mo a → Rs K cm H w.av vs ds → ItOk K cm (Ite K a) (enumD 0 ds) w H
  | enumT {a : Addr} {vs : List V} {ds : List D} {w : Vw} {H : Hp} : H a = some (.tup vs) → Rs K cm H w.av vs ds → ItOk K cm (IteT K a) (enumD 0 ds) w H
theorem ItOk.kp {K : PySem.W.Frag} {cm : Nat → Value} {J : It} {ds : List D} {w w' : Vw} {H H' : Hp} (h : ItOk K cm J ds w H) (k : Kp w H w' H') : ItOk K cm J ds w' H' := by
  cases h with
  | lst e n r => exact .lst (k.keep _ _ e n) (k.mosub _ _ e n) (r.kp k)
  | tup e r => exact .tup (k.fix _ _ e not_mut_tup) (r.kp k)
  | rng => exact .rng
  | rngC => exact .rngC
  | zipL e n r e' n' r' => exact .zipL (k.keep _ _ e n) (k.mosub _ _ e n) (r.kp k) (k.keep _ _ e' n') (k.mosub _ _ e' n') (r'.kp k)
  | zipT e r e' r' => exact .zipT (k.fix _ _ e not_mut_tup) (r.kp k) (k.fix _ _ e' not_mut_tup) (r'.kp k)
  | enum e n r => exact .enum (k.keep _ _ e n) (k.mosub _ _ e n) (r.kp k)
  | enumT e r => exact .enumT (k.fix _ _ e not_mut_tup) (r.kp k)
theorem zipD_get : ∀ {ds es : List D} {i : Nat} {d e : D}, ds[i]? = some d → es[i]? = some e → (zipD ds es)[i]? = some (.tup [d, e])
  | [], _, _, _, _, h, _ => by simp at h
  | _ :: _, [], _, _, _, _, h => by simp at h
  | a :: as, b :: bs, 0, d, e, h, h' => by simp at h h'; subst h; subst h'; rfl
  | a :: as, b :: bs, i + 1, d, e, h, h' => by simpa [zipD] using zipD_get (ds := as) (es := bs) (i := i) (by simpa using h) (by simpa using h')
theorem zipD_len : ∀ {ds es : List D}, (zipD ds es).length = min ds.length es.length
  | [], _ => by simp [zipD]
  | _ :: _, [] => by simp [zipD]
  | a :: as, b :: bs => by simp [zipD, zipD_len (ds := as) (es := bs)]
theorem enumD_len : ∀ {ds : List D} {n : Nat}, (enumD n ds).length = ds.length
  | [], _ => rfl
  | _ :: r, n => by simp [enumD, enumD_len (ds := r)]
theorem enumD_get : ∀ {ds : List D} {n i : Nat} {d : D}, ds[i]? = some d → (enumD n ds)[i]? = some (.tup [.int ((n + i : Nat) : Int), d])
  | [], _, _, _, h => by simp at h
  | a :: r, n, 0, d, h => by simp at h; subst h; rfl
  | a :: r, n, i + 1, d, h => by
    have := enumD_get (ds := r) (n := n + 1) (i := i) (d := d) (by simpa using h)
    simp only [enumD, List.getElem?_cons_succ, this]
    congr 5
    omega
section
variable {K : PySem.W.Frag} {cm : Nat → Value} {J : It} {ds : List D} {w : Vw} {H : Hp}
theorem getSome {α : Type} {l : List α} {i : Nat} (h : i < l.length) : ∃ x, l[i]? = some x := ⟨l[i], List.getElem?_eq_getElem h⟩
theorem ItOk.go (h : ItOk K cm J ds w H) {i : Nat} (hi : i < ds.length) : J.go i H := by
  cases h with
  | @lst a vs _ _ _ e n r => obtain ⟨x, hx⟩ := getSome (l := vs) (i := i) (by rw [r.length]; exact hi); exact ⟨vs, x, SqL.of e, hx⟩
  | @tup a vs _ _ _ e r => obtain ⟨x, hx⟩ := getSome (l := vs) (i := i) (by rw [r.length]; exact hi); exact ⟨vs, x, SqT.of e, hx⟩
  | @rng lo n _ _ => show i < n; simpa [rangeL] using hi
  | @rngC lo c n _ _ => show i < n; simpa [rangeC] using hi
  | @zipL a b vs us ds es _ _ e n r e' n' r' =>
    rw [zipD_len] at hi
    obtain ⟨x, hx⟩ := getSome (l := vs) (i := i) (by rw [r.length]; omega)
    obtain ⟨y, hy⟩ := getSome (l := us) (i := i) (by rw [r'.length]; omega)
    exact ⟨vs, us, x, y, SqL.of e, SqL.of e', hx, hy⟩
  | @zipT a b vs us ds es _ _ e r e' r' =>
    rw [zipD_len] at hi
    obtain ⟨x, hx⟩ := getSome (l := vs) (i := i) (by rw [r.length]; omega)
    obtain ⟨y, hy⟩ := getSome (l := us) (i := i) (by rw [r'.length]; omega)
    exact ⟨vs, us, x, y, SqT.of e, SqT.of e', hx, hy⟩
  | @enum a vs _ _ _ e n r => rw [enumD_len] at hi; obtain ⟨x, hx⟩ := getSome (l := vs) (i := i) (by rw [r.length]; exact hi); exact ⟨vs, x, SqL.of e, hx⟩
  | @enumT a vs _ _ _ e r => rw [enumD_len] at hi; obtain ⟨x, hx⟩ := getSome (l := vs) (i := i) (by rw [r.length]; exact hi); exact ⟨vs, x, SqT.of e, hx⟩
theorem ItOk.stop (h : ItOk K cm J ds w H) {i : Nat} (hi : ds.length ≤ i) : J.stop i H := by
  cases h with
  | @lst a vs _ _ _ e n r => exact ⟨vs, SqL.of e, by rw [r.length]; exact hi⟩
  | @tup a vs _ _ _ e r => exact ⟨vs, SqT.of e, by rw [r.length]; exact hi⟩
  | @rng lo n _ _ => show n ≤ i; simpa [rangeL] using hi
  | @rngC lo c n _ _ => show n ≤ i; simpa [rangeC] using hi
  | @zipL a b vs us ds es _ _ e n r e' n' r' => rw [zipD_len] at hi; exact ⟨vs, us, SqL.of e, SqL.of e', by rw [r.length, r'.length]; omega⟩
  | @zipT a b vs us ds es _ _ e r e' r' => rw [zipD_len] at hi; exact ⟨vs, us, SqT.of e, SqT.of e', by rw [r.length, r'.length]; omega⟩
  | @enum a vs _ _ _ e n r => rw [enumD_len] at hi; exact ⟨vs, SqL.of e, by rw [r.length]; exact hi⟩
  | @enumT a vs _ _ _ e r => rw [enumD_len] at hi; exact ⟨vs, SqT.of e, by rw [r.length]; exact hi⟩
theorem ItOk.yld (h : ItOk K cm J ds w H) {i : Nat} {x : V} {H' : Hp} (hi : i < ds.length) (y : J.yld i H x H') : ∃ d, ds[i]? = some d ∧ Same H H' ∧ R K cm H' w.av x d := by
  cases h with
  | @lst a vs _ _ _ e n r =>
    obtain ⟨rfl, q⟩ := y
    obtain ⟨d, hd, rd⟩ := r.getV (q vs (SqL.of e))
    exact ⟨d, hd, Same.refl _, rd⟩
  | @tup a vs _ _ _ e r =>
    obtain ⟨rfl, q⟩ := y
    obtain ⟨d, hd, rd⟩ := r.getV (q vs (SqT.of e))
    exact ⟨d, hd, Same.refl _, rd⟩
  | @rng lo n _ _ =>
    obtain ⟨rfl, rfl⟩ := y
    have hi' : i < n := by simpa [rangeL] using hi
    exact ⟨.int (lo + (i : Int)), by simp [rangeL, hi'], Same.refl _, .int _⟩
  | @rngC lo c n _ _ =>
    obtain ⟨rfl, rfl⟩ := y
    have hi' : i < n := by simpa [rangeC] using hi
    exact ⟨.int (lo + (i : Int) * c), by simp [rangeC, hi'], Same.refl _, .int _⟩
  | @zipL a b vs us ds es _ _ e n r e' n' r' =>
    obtain ⟨T, x1, y1, rfl, hT, rfl, q1, q2⟩ := y
    obtain ⟨d, hd, rd⟩ := r.getV (q1 vs (SqL.of e))
    obtain ⟨d', hd', rd'⟩ := r'.getV (q2 us (SqL.of e'))
    exact ⟨_, zipD_get hd hd', same_upd hT, .tup upd_same ((Rs.cons rd (.cons rd' .nil)).kp (kp_s (same_upd hT)))⟩
  | @zipT a b vs us ds es _ _ e r e' r' =>
    obtain ⟨T, x1, y1, rfl, hT, rfl, q1, q2⟩ := y
    obtain ⟨d, hd, rd⟩ := r.getV (q1 vs (SqT.of e))
    obtain ⟨d', hd', rd'⟩ := r'.getV (q2 us (SqT.of e'))
    exact ⟨_, zipD_get hd hd', same_upd hT, .tup upd_same ((Rs.cons rd (.cons rd' .nil)).kp (kp_s (same_upd hT)))⟩
  | @enum a vs _ _ _ e n r =>
    obtain ⟨T, x1, rfl, hT, rfl, q1⟩ := y
    obtain ⟨d, hd, rd⟩ := r.getV (q1 vs (SqL.of e))
    refine ⟨_, enumD_get hd, same_upd hT, .tup upd_same ?_⟩
    rw [Nat.zero_add]
    exact (Rs.cons (.int _) (.cons rd .nil)).kp (kp_s (same_upd hT))
  | @enumT a vs _ _ _ e r =>
    obtain ⟨T, x1, rfl, hT, rfl, q1⟩ := y
    obtain ⟨d, hd, rd⟩ := r.getV (q1 vs (SqT.of e))
    refine ⟨_, enumD_get hd, same_upd hT, .tup upd_same ?_⟩
    rw [Nat.zero_add]
    exact (Rs.cons (.int _) (.cons rd .nil)).kp (kp_s (same_upd hT))
end
/-! ### locks -/
section
variable {K : PySem.W.Frag} {cm : Nat → Value} {av : Addr → Prop} {H0 H : Hp} {σ : L2.St} {st : List Slot}
theorem SRel.lock (S : SRel K cm av H0 st σ H) (i : Nat) : SRel K cm av H0 (lockS i st) σ H ∧ Kp (VW av st σ) H (VW av (lockS i st) σ) H ∧ (∀ a, OwM (lockS i st) σ a → OwM st σ a) ∧ (∀ a, σ[i]? = some (some (.ref a)) → OwnA st σ a → (∃ s, st[i]? = some s ∧ isOw s = true) → ¬ OwM (lockS i st) σ a) := by
  unfold lockS
  split
  · rename_i d e
    obtain ⟨S', ea⟩ := S.relock e (.inl rfl) (t := .lk d) (.inr rfl)
    have hm : ∀ a, OwM (st.set i (.lk d)) σ a → OwM st σ a := fun a h => owm_set (.inl fun d' z => by cases z) h
    refine ⟨S', .of_sub vw_le (fun a h => ?_) hm, hm, fun a q _ _ ⟨j, d', e', q'⟩ => ?_⟩
    · show AV av st σ a; rw [← ea]; exact h
    · rcases getSet e' with ⟨_, w, _⟩ | ⟨hj, e'⟩
      · cases w
      · exact hj (S.dist j i _ _ a e' e rfl rfl q' q)
  · rename_i hne
    refine ⟨S, kp0, fun _ h => h, fun a q _ ⟨s, es, os⟩ ⟨j, d', e', q'⟩ => ?_⟩
    have := S.dist j i _ _ a e' es rfl os q' q
    subst this
    exact hne d' e'
theorem lockS_own (i j : Nat) : (∃ s, (lockS i st)[j]? = some s ∧ isOw s = true) ↔ ∃ s, st[j]? = some s ∧ isOw s = true := by
  unfold lockS
  split
  · rename_i d e
    by_cases h : j = i
    · subst h
      rw [List.getElem?_set_self (List.getElem?_eq_some_iff.mp e).1, e]
      exact ⟨fun _ => ⟨_, rfl, rfl⟩, fun _ => ⟨_, rfl, rfl⟩⟩
    · rw [List.getElem?_set_ne (Ne.symm h)]
  · exact Iff.rfl
theorem lockS_sh (i j : Nat) (d : D) : (lockS i st)[j]? = some (.sh d) ↔ st[j]? = some (.sh d) := by
  unfold lockS
  split
  · rename_i d' e
    by_cases h : j = i
    · subst h
      rw [List.getElem?_set_self (List.getElem?_eq_some_iff.mp e).1, e]
      exact ⟨fun z => (nomatch z), fun z => (nomatch z)⟩
    · rw [List.getElem?_set_ne (Ne.symm h)]
  · exact Iff.rfl
/-- all lists that are walked are locked -/
theorem SRel.lockR (S : SRel K cm av H0 st σ H) : ∀ os : List Opd, SRel K cm av H0 (lockAll os st) σ H ∧ Kp (VW av st σ) H (VW av (lockAll os st) σ) H ∧ (∀ a, OwM (lockAll os st) σ a → OwM st σ a) ∧
    (∀ j : Nat, (∃ s : Slot, (lockAll os st)[j]? = some s ∧ isOw s = true) ↔ ∃ s : Slot, st[j]? = some s ∧ isOw s = true) ∧
    ∀ (i : Nat) (a : Addr), Opd.bor i ∈ os → σ[i]? = some (some (.ref a)) → (∃ s : Slot, st[i]? = some s ∧ isOw s = true) → ¬ OwM (lockAll os st) σ a
  | [] => ⟨S, kp0, fun _ h => h, fun _ => Iff.rfl, fun _ _ h => nomatch h⟩
  | .val d :: r => by
    obtain ⟨h1, h2, h3, h4, h5⟩ := S.lockR r
    exact ⟨h1, h2, h3, h4, fun i a m q e => h5 i a ((List.mem_cons.mp m).elim (fun z => nomatch z) id) q e⟩
  | .bor i :: r => by
    obtain ⟨h1, h2, h3, h4, h5⟩ := S.lockR r
    obtain ⟨g1, g2, g3, g4⟩ := h1.lock i
    refine ⟨g1, h2.trans g2, fun a h => h3 a (g3 a h), fun j => (lockS_own i j).trans (h4 j), fun j a m q e => ?_⟩
    rcases List.mem_cons.mp m with z | m
    · cases z
      obtain ⟨s', e', o'⟩ := (h4 i).mpr e
      exact g4 a q ⟨i, s', e', o', q⟩ ⟨s', e', o'⟩
    · exact fun z => h5 j a m q e (g3 a z)
end
/-! ### iterators by the evaluator -/
def SemI (X : Cx) (tg iter : Expr) : TI := fun σ H R => ∀ (pins : List (Addr × Obj)) (s : Shared), L2.Inv X pins σ H s →
    wpAny (model X.prog X.w) X.A (eval iter X.env) (fun v s1 => wpAny (model X.prog X.w) X.A (pyIter v) (PIE X pins σ tg R) X.xe s1) X.xe s
theorem piS {X : Cx} {tg iter : Expr} : PI X tg iter (SemI X tg iter) := ⟨fun pins s σ H R I h => h pins s I⟩
theorem semI {X : Cx} {tg iter : Expr} {t : TI} {σ : L2.St} {H : Hp} {R : It → Hp → Prop} (h : PI X tg iter t) (q : t σ H R) : SemI X tg iter σ H R := fun pins s I => h.run pins s σ H R I q
/-- the iterable by operands: their lists locked -/
def OkI (X : Cx) (cm : Nat → Value) (W : WX) (tg iter : Expr) (k : Itk) (fs : List Slot → Res (List Opd)) : Prop :=
  ∀ (av : Addr → Prop) (H0 : Hp) (st : List Slot) (σ : L2.St) (H : Hp) (R : It → Hp → Prop), SRel X.K cm av H0 st σ H →
  Post (XCe X.K cm av H0 σ W) (fun os st' => ∃ ds items, rsAll st' os = some ds ∧ iterD k ds = some items ∧
    ∀ J H', SRel X.K cm av H0 st' σ H' → Kp (VW av st σ) H (VW av st' σ) H' → ItOk X.K cm J items (VW av (lockAll os st') σ) H' → R J H') (fs st) → SemI X tg iter σ H R
/-- the iterable by values -/
def OkJ (X : Cx) (cm : Nat → Value) (W : WX) (tg iter : Expr) (k : Itk) (fs : List Slot → Res (List D)) : Prop :=
  ∀ (av : Addr → Prop) (H0 : Hp) (st : List Slot) (σ : L2.St) (H : Hp) (R : It → Hp → Prop), SRel X.K cm av H0 st σ H →
  Post (XCe X.K cm av H0 σ W) (fun ds st' => ∃ items, iterD k ds = some items ∧
    ∀ J H', SRel X.K cm av H0 st' σ H' → Kp (VW av st σ) H (VW av st' σ) H' → ItOk X.K cm J items (VW av st' σ) H' → R J H') (fs st) → SemI X tg iter σ H R
section
variable {X : Cx} {cm : Nat → Value} {W : WX} {av : Addr → Prop} {H0 H : Hp} {σ : L2.St} {st : List Slot}
/-- an operand that is a list: it stays while the lists are locked -/
theorem OpR1.lst {v : V} {o : Opd} {os : List Opd} {ds : List D} (S : SRel X.K cm av H0 st σ H) (h : OpR1 X.K cm σ (AV av st σ) H v o) (m : o ∈ os) (e : rs1 st o = some (.lst ds)) :
    ∃ a vs, v = .ref a ∧ H a = some (.lst vs) ∧ Rs X.K cm H (AV av st σ) vs ds ∧ ¬ OwM (lockAll os st) σ a := by
  obtain ⟨a, vs, ea, ha, rs⟩ := RX.lst (h.look S e)
  refine ⟨a, vs, ea, ha, rs, ?_⟩
  cases o with
  | val d =>
    cases e
    cases h with
    | lst n ha' _ =>
      cases ea
      exact fun z => n (vw_le (av := av) a ((S.lockR os).2.2.1 a z))
  | bor i =>
    have hv : σ[i]? = some (some v) := h
    rw [ea] at hv
    refine (S.lockR os).2.2.2.2 i a m hv ?_
    simp only [rs1] at e
    split at e
    · exact ⟨_, by assumption, rfl⟩
    · exact ⟨_, by assumption, rfl⟩
    · cases e
end
end PD
set_option maxHeartbeats 1000000
namespace PD
open PySem PySem.Spec PyProof.Rows L2
/-! ### sources -/
/-- a value, or a list that stays for now -/
inductive RL (K : PySem.W.Frag) (cm : Nat → Value) (w : Vw) (H : Hp) : V → D → Prop
  | val {v : V} {d : D} : R K cm H w.av v d → RL K cm w H v d
  | own {a : Addr} {vs : List V} {ds : List D} : H a = some (.lst vs) → ¬ w.mo a → Rs K cm H w.av vs ds → RL K cm w H (.ref a) (.lst ds)
inductive RLs (K : PySem.W.Frag) (cm : Nat → Value) (w : Vw) (H : Hp) : List V → List D → Prop
  | nil : RLs K cm w H [] []
  | cons {v : V} {d : D} {vs : List V} {ds : List D} : RL K cm w H v d → RLs K cm w H vs ds → RLs K cm w H (v :: vs) (d :: ds)
section
variable {K : PySem.W.Frag} {cm : Nat → Value} {w : Vw} {H : Hp} {v : V} {ds : List D}
theorem RL.lst (le : ∀ a, w.mo a → w.av a) (h : RL K cm w H v (.lst ds)) : ∃ a vs, v = .ref a ∧ H a = some (.lst vs) ∧ ¬ w.mo a ∧ Rs K cm H w.av vs ds := by
  cases h with
  | val h => cases h with | lst n e r => exact ⟨_, _, rfl, e, fun z => n (le _ z), r⟩
  | own e n r => exact ⟨_, _, rfl, e, n, r⟩
theorem RL.tup (h : RL K cm w H v (.tup ds)) : ∃ a vs, v = .ref a ∧ H a = some (.tup vs) ∧ Rs K cm H w.av vs ds := by
  cases h with | val h => cases h with | tup e r => exact ⟨_, _, rfl, e, r⟩
theorem RL.int {i : Int} (h : RL K cm w H v (.int i)) : v = .int i := by
  cases h with | val h => cases h; rfl
theorem Rs.rl {vs : List V} (h : Rs K cm H w.av vs ds) : RLs K cm w H vs ds := by
  induction ds generalizing vs with
  | nil => cases h; exact .nil
  | cons d ds ih => cases h with | cons a r => exact .cons (.val a) (ih r)
end
section
variable {X : Cx} {cm : Nat → Value} {W : WX} {av : Addr → Prop} {H0 H : Hp} {σ : L2.St} {st : List Slot}
theorem OpR1.rl {v : V} {o : Opd} {os : List Opd} {d : D} (S : SRel X.K cm av H0 st σ H) (h : OpR1 X.K cm σ (AV av st σ) H v o) (m : o ∈ os) (e : rs1 st o = some d) (hb : ∀ t kvs, d ≠ .dic t kvs) :
    RL X.K cm (VW av (lockAll os st) σ) H v d := by
  have kp := (S.lockR os).2.1
  cases o with
  | val x => cases e; exact .val (R.kp kp h)
  | bor i =>
    have hv : σ[i]? = some (some v) := h
    have e' := e
    simp only [rs1] at e'
    have own : ∀ {s : Slot}, st[i]? = some s → (s = .ow d ∨ s = .lk d) → RL X.K cm (VW av (lockAll os st) σ) H v d := fun {s} es hs => by
      obtain ⟨a, q, n, z, r⟩ := S.ow i _ _ es hs
      rw [hv] at q; cases q
      have nm : ¬ OwM (lockAll os st) σ a := (S.lockR os).2.2.2.2 i a m hv ⟨_, es, by rcases hs with rfl | rfl <;> rfl⟩
      cases r with
      | lst e1 r1 => exact .own e1 nm (r1.kp kp)
      | dK _ _ => exact absurd rfl (hb _ _)
      | dT _ _ => exact absurd rfl (hb _ _)
    split at e'
    · cases e'; exact own (by assumption) (.inl rfl)
    · cases e'; exact own (by assumption) (.inr rfl)
    · cases e'
theorem OpRs.rl {os' : List Opd} (S : SRel X.K cm av H0 st σ H) : ∀ {os : List Opd} {vs : List V} {ds : List D}, (∀ o ∈ os, o ∈ os') → OpRs X.K cm σ (AV av st σ) H vs os → rsAll st os = some ds → (∀ d ∈ ds, ∀ t kvs, d ≠ .dic t kvs) → RLs X.K cm (VW av (lockAll os' st) σ) H vs ds
  | [], _, _, _, .nil, e, _ => by simp only [rsAll, Option.some.injEq] at e; subst e; exact .nil
  | o :: os, _, ds, m, .cons a r, e, hb => by
    simp only [rsAll] at e
    split at e
    · rename_i d ds' e1 e2
      cases e
      exact .cons (a.rl S (m _ List.mem_cons_self) e1 (hb _ List.mem_cons_self)) (OpRs.rl S (fun o' h => m _ (List.mem_cons_of_mem _ h)) r e2 fun d' h => hb d' (List.mem_cons_of_mem _ h))
    · cases e
/-- a walk's rule by its kind; b: lists (else tuples) -/
def ruleI (K : PySem.W.Frag) (k : Itk) (b : Nat) (vs : List V) (H1 : Hp) (R : It → Hp → Prop) : Prop :=
  match k, b with
  | .range, 1 => ∃ j : Int, vs = [.int j] ∧ -(2 ^ 62) ≤ j ∧ j < 2 ^ 62 ∧ R (Itr 0 j.toNat) H1
  | .range, 2 => ∃ i j : Int, vs = [.int i, .int j] ∧ (-(2 ^ 62) ≤ i ∧ i < 2 ^ 62 ∧ -(2 ^ 62) ≤ j ∧ j < 2 ^ 62) ∧ R (Itr i (j - i).toNat) H1
  | .range, 3 => ∃ (i j c : Int) (n : Nat), vs = [.int i, .int j, .int c] ∧ RgC i j c n ∧ R (Itc i c n) H1
  | .zip, _ => ∃ a b xs ys, vs = [.ref a, .ref b] ∧ ((SqL K H1 a xs ∧ SqL K H1 b ys ∧ R (Itz K a b) H1) ∨ (SqT K H1 a xs ∧ SqT K H1 b ys ∧ R (RZ.ItzT K a b) H1))
  | .enum, 1 => ∃ a xs, vs = [.ref a] ∧ SqT K H1 a xs ∧ R (IteT K a) H1
  | .enum, _ => ∃ a xs, vs = [.ref a] ∧ SqL K H1 a xs ∧ R (Ite K a) H1
  | .seq, 1 => ∃ v a, vs = [v] ∧ v = .ref a ∧ (∃ xs, SqL K H1 a xs) ∧ R (Itl K a) H1
  | .seq, 2 => ∃ v a, vs = [v] ∧ v = .ref a ∧ (∃ xs, SqT K H1 a xs) ∧ R (Itt K a) H1
  | _, _ => False
/-- which -/
def selI (k : Itk) (ds : List D) : Nat := match k, ds with
  | .seq, [.lst _] => 1
  | .seq, [.tup _] => 2
  | .range, ds => ds.length
  | .enum, [.tup _] => 1
  | _, _ => 0
theorem rl1 {K : PySem.W.Frag} {w : Vw} {H : Hp} {vs : List V} {d : D} (h : RLs K cm w H vs [d]) : ∃ x, vs = [x] ∧ RL K cm w H x d := by
  cases h with | cons a r => cases r; exact ⟨_, rfl, a⟩
theorem rl2 {K : PySem.W.Frag} {w : Vw} {H : Hp} {vs : List V} {d e : D} (h : RLs K cm w H vs [d, e]) : ∃ x y, vs = [x, y] ∧ RL K cm w H x d ∧ RL K cm w H y e := by
  cases h with | cons a r => obtain ⟨y, rfl, b⟩ := rl1 r; exact ⟨_, _, rfl, a, b⟩
theorem rl3 {K : PySem.W.Frag} {w : Vw} {H : Hp} {vs : List V} {d e f : D} (h : RLs K cm w H vs [d, e, f]) : ∃ x y z, vs = [x, y, z] ∧ RL K cm w H x d ∧ RL K cm w H y e ∧ RL K cm w H z f := by
  cases h with | cons a r => obtain ⟨y, z, rfl, b, c⟩ := rl2 r; exact ⟨_, _, _, rfl, a, b, c⟩
theorem ruleI_of {K : PySem.W.Frag} {k : Itk} {w : Vw} {H1 : Hp} {R : It → Hp → Prop} {vs : List V} {ds items : List D} (le : ∀ a, w.mo a → w.av a) (h : RLs K cm w H1 vs ds) (e : iterD k ds = some items) (q : ∀ J, ItOk K cm J items w H1 → R J H1) : ruleI K k (selI k ds) vs H1 R := by
  cases k with
  | seq =>
    simp only [iterD] at e
    unfold itSeq at e
    split at e
    · rename_i d
      obtain ⟨x, rfl, hx⟩ := rl1 h
      cases d with
      | lst xs =>
        simp only [itemsD, Option.some.injEq] at e; subst e
        obtain ⟨a, vs, rfl, ha, n, rs⟩ := hx.lst le
        exact ⟨_, a, rfl, rfl, ⟨_, SqL.of ha⟩, q _ (.lst ha n rs)⟩
      | tup xs =>
        simp only [itemsD, Option.some.injEq] at e; subst e
        obtain ⟨a, vs, rfl, ha, rs⟩ := hx.tup
        exact ⟨_, a, rfl, rfl, ⟨_, SqT.of ha⟩, q _ (.tup ha rs)⟩
      | _ => simp [itemsD] at e
    · cases e
  | range =>
    simp only [iterD] at e
    unfold itRange at e
    split at e
    · split at e
      · rename_i n hr
        cases e
        obtain ⟨x, rfl, hx⟩ := rl1 h
        exact ⟨n, by rw [hx.int], Int.le_trans (by decide) hr.1, Int.lt_trans hr.2 (by decide), q _ .rng⟩
      · cases e
    · split at e
      · rename_i a b hr
        cases e
        obtain ⟨x, y, rfl, hx, hy⟩ := rl2 h
        exact ⟨a, b, by rw [hx.int, hy.int], ⟨Int.le_trans (by decide) hr.1.1, Int.lt_trans hr.1.2 (by decide), Int.le_trans (by decide) hr.2.1, Int.lt_trans hr.2.2 (by decide)⟩, q _ .rng⟩
      · cases e
    · split at e
      · rename_i a b hr
        cases e
        obtain ⟨x, y, z, rfl, hx, hy, hz⟩ := rl3 h
        exact ⟨a, b, -1, (a - b).toNat, by rw [hx.int, hy.int, hz.int], RgC.neg (Int.le_trans (by decide) hr.1.1) (Int.lt_trans hr.1.2 (by decide)) (Int.le_trans (by decide) hr.2.1) (Int.lt_trans hr.2.2 (by decide)), q _ .rngC⟩
      · cases e
    · cases e
  | zip =>
    simp only [iterD] at e
    unfold itZip at e
    split at e
    · cases e
      obtain ⟨x, y, rfl, hx, hy⟩ := rl2 h
      obtain ⟨a, vs, rfl, ha, n, rs⟩ := hx.lst le
      obtain ⟨b, us, rfl, hb, m, ru⟩ := hy.lst le
      exact ⟨a, b, _, _, rfl, .inl ⟨SqL.of ha, SqL.of hb, q _ (.zipL ha n rs hb m ru)⟩⟩
    · cases e
      obtain ⟨x, y, rfl, hx, hy⟩ := rl2 h
      obtain ⟨a, vs, rfl, ha, rs⟩ := hx.tup
      obtain ⟨b, us, rfl, hb, ru⟩ := hy.tup
      exact ⟨a, b, _, _, rfl, .inr ⟨SqT.of ha, SqT.of hb, q _ (.zipT ha rs hb ru)⟩⟩
    · cases e
  | enum =>
    simp only [iterD] at e
    unfold itEnum at e
    split at e
    · cases e
      obtain ⟨x, rfl, hx⟩ := rl1 h
      obtain ⟨a, vs, rfl, ha, n, rs⟩ := hx.lst le
      exact ⟨a, _, rfl, SqL.of ha, q _ (.enum ha n rs)⟩
    · cases e
      obtain ⟨x, rfl, hx⟩ := rl1 h
      obtain ⟨a, vs, rfl, ha, rs⟩ := hx.tup
      exact ⟨a, _, rfl, SqT.of ha, q _ (.enumT ha rs)⟩
    · cases e
theorem noDic {k : Itk} {ds items : List D} (e : iterD k ds = some items) : ∀ d ∈ ds, ∀ t kvs, d ≠ .dic t kvs := by
  intro d hd t kvs ed
  subst ed
  cases k with
  | seq =>
    simp only [iterD] at e; unfold itSeq at e
    split at e
    · have hd' := List.mem_singleton.mp hd
      subst hd'
      simp [itemsD] at e
    · cases e
  | range => simp only [iterD] at e; unfold itRange at e; split at e <;> simp_all
  | zip => simp only [iterD] at e; unfold itZip at e; split at e <;> simp_all
  | enum => simp only [iterD] at e; unfold itEnum at e; split at e <;> simp_all
/-- walked by values -/
theorem okJ {tg iter : Expr} {es : List Expr} {k : Itk} {fs : List Slot → Res (List D)} (bs : Nat → Prop) (b0 : Nat) (hb0 : bs b0) (hsel : ∀ st ds st', fs st = .ok ds st' → bs (selI k ds)) (hp : ∀ b, bs b → PI X tg iter (fun σ H R => SemA X es σ H (fun vs H1 => ruleI X.K k b vs H1 R))) (ha : OkA X cm W es fs) : OkJ X cm W tg iter k fs := by
  intro av H0 st σ H R S h
  cases hf : fs st with
  | bad => rw [hf] at h; exact h.elim
  | exc c st' => exact semI (hp b0 hb0) (ha av H0 st σ H _ S (by rw [hf] at h ⊢; exact h))
  | ok ds st' =>
    rw [hf] at h
    obtain ⟨items, e, q⟩ := h
    refine semI (hp (selI k ds) (hsel _ _ _ hf)) (ha av H0 st σ H _ S ?_)
    rw [hf]
    exact fun vs H' o => ruleI_of (w := VW av st' σ) vw_le o.2.2.rl e fun J i => q J H' o.1 o.2.1 i
theorem okI {tg iter : Expr} {es : List Expr} {k : Itk} {fs : List Slot → Res (List Opd)} (bs : Nat → Prop) (b0 : Nat) (hb0 : bs b0) (hsel : ∀ st os st' ds, fs st = .ok os st' → rsAll st' os = some ds → bs (selI k ds)) (hp : ∀ b, bs b → PI X tg iter (fun σ H R => SemA X es σ H (fun vs H1 => ruleI X.K k b vs H1 R))) (ha : OkOs X cm W es fs) : OkI X cm W tg iter k fs := by
  intro av H0 st σ H R S h
  cases hf : fs st with
  | bad => rw [hf] at h; exact h.elim
  | exc c st' => exact semI (hp b0 hb0) (ha av H0 st σ H _ S (by rw [hf] at h ⊢; exact h))
  | ok os st' =>
    rw [hf] at h
    obtain ⟨ds, items, e0, e, q⟩ := h
    refine semI (hp (selI k ds) (hsel _ _ _ _ hf e0)) (ha av H0 st σ H _ S ?_)
    rw [hf]
    refine fun vs H' o => ruleI_of (w := VW av (lockAll os st') σ) vw_le (OpRs.rl o.1 (fun _ h => h) o.2.2 e0 (noDic e)) e fun J i => q J H' o.1 o.2.1 i
/-- one source by its value -/
theorem okJ1 {tg e : Expr} {f : List Slot → RE} (hp : ∀ b, PI X tg e (fun σ H R => SemE X e σ H (fun v H1 => ruleI X.K .seq b [v] H1 R))) (ha : OkE X cm W e f) :
    OkJ X cm W tg e .seq (fun st => (f st).th fun d st => (Res.ok [] st : Res (List D)).th fun ds st => .ok (d.2 :: ds) st) := by
  intro av H0 st σ H R S h
  dsimp only at h
  cases hf : f st with
  | bad => rw [hf] at h; exact h.elim
  | exc c st' => exact semI (hp 0) (ha av H0 st σ H _ S (by rw [hf] at h ⊢; exact h))
  | ok d st' =>
    rw [hf] at h
    obtain ⟨items, e, q⟩ := h
    refine semI (hp (selI .seq [d.2])) (ha av H0 st σ H _ S ?_)
    rw [hf]
    refine fun v H' o => ?_
    obtain ⟨S2, k2, r2⟩ := o.val S.avd
    exact ruleI_of (w := VW av st' σ) vw_le (.cons (.val r2) .nil) e fun J i => q J H' S2 k2 i
theorem okI1 {tg e : Expr} {f : List Slot → Res Opd} (hp : ∀ b, PI X tg e (fun σ H R => SemE X e σ H (fun v H1 => ruleI X.K .seq b [v] H1 R))) (ha : OkO X cm W e f) :
    OkI X cm W tg e .seq (fun st => (f st).th fun d st => (Res.ok [] st : Res (List Opd)).th fun ds st => .ok (d :: ds) st) := by
  intro av H0 st σ H R S h
  dsimp only at h
  cases hf : f st with
  | bad => rw [hf] at h; exact h.elim
  | exc c st' => exact semI (hp 0) (ha av H0 st σ H _ S (by rw [hf] at h ⊢; exact h))
  | ok o st' =>
    rw [hf] at h
    obtain ⟨ds, items, e0, e, q⟩ := h
    refine semI (hp (selI .seq ds)) (ha av H0 st σ H _ S ?_)
    rw [hf]
    refine fun v H' r => ruleI_of (w := VW av (lockAll [o] st') σ) vw_le (OpRs.rl r.1 (fun _ h => h) (.cons r.2.2 .nil) e0 (noDic e)) e fun J i => q J H' r.1 r.2.1 i
/-! the kinds' rules -/
theorem pi_imp {tg iter : Expr} {t t' : TI} (h : PI X tg iter t) (i : ∀ σ H R, t' σ H R → t σ H R) : PI X tg iter t' := ⟨fun pins s σ H R I q => h.run pins s σ H R I (i σ H R q)⟩
theorem semE_imp {e : Expr} {σ : L2.St} {H : Hp} {Q Q' : VK} (h : SemE X e σ H Q) (i : ∀ v H', Q v H' → Q' v H') : SemE X e σ H Q' := fun pins s I => wpAny_mono (h pins s I) (fun _ _ ⟨v, H', I', r, q⟩ => ⟨v, H', I', r, i v H' q⟩) fun _ _ x => x
theorem semA_imp {es : List Expr} {σ : L2.St} {H : Hp} {Q Q' : List V → Hp → Prop} (h : SemA X es σ H Q) (i : ∀ v H', Q v H' → Q' v H') : SemA X es σ H Q' := fun pos pins s I => wpAny_mono (h pos pins s I) (fun _ _ ⟨v, H', I', r, q⟩ => ⟨v, H', I', r, i v H' q⟩) fun _ _ x => x
theorem pi_seqK {tg e : Expr} (b : Nat) : PI X tg e (fun σ H R => SemE X e σ H (fun v H1 => ruleI X.K .seq b [v] H1 R)) := by
  match b with
  | 1 => exact pi_imp (pi_list peS) fun σ H R h => semE_imp h fun v H' ⟨v', a, e1, e2, e3, q⟩ => by cases e1; exact ⟨a, e2, e3, q⟩
  | 2 => exact pi_imp (pi_tup peS) fun σ H R h => semE_imp h fun v H' ⟨v', a, e1, e2, e3, q⟩ => by cases e1; exact ⟨a, e2, e3, q⟩
  | 0 => exact pi_imp (pi_list peS) fun σ H R h => semE_imp h fun v H' q => q.elim
  | n + 3 => exact pi_imp (pi_list peS) fun σ H R h => semE_imp h fun v H' q => q.elim
theorem pi_range1K {tg a : Expr} {p pos : Pos} (hg : Gl X "range") (hm : X.mg "range" = none) (hs : starEach [a] X.env = [(false, eval a X.env)]) : PI X tg (.Call (.Name "range" p) [a] [] pos) (fun σ H R => SemA X [a] σ H (fun vs H1 => ruleI X.K .range 1 vs H1 R)) := pi_range1 hg hm paS hs
theorem pi_range2K {tg a b : Expr} {p pos : Pos} (hg : Gl X "range") (hm : X.mg "range" = none) (hs : starEach [a, b] X.env = [(false, eval a X.env), (false, eval b X.env)]) (hs2 : starEach [b] X.env = [(false, eval b X.env)]) : PI X tg (.Call (.Name "range" p) [a, b] [] pos) (fun σ H R => SemA X [a, b] σ H (fun vs H1 => ruleI X.K .range 2 vs H1 R)) := pi_range2 hg hm paS hs hs2
theorem pi_range3K {tg a b c : Expr} {p pos : Pos} (hg : Gl X "range") (hm : X.mg "range" = none) (hs : starEach [a, b, c] X.env = (false, eval a X.env) :: starEach [b, c] X.env) (hpl : (backTo pos (starEach [b, c] X.env)).any (·.1) = false) :
    PI X tg (.Call (.Name "range" p) [a, b, c] [] pos) (fun σ H R => SemA X [a, b, c] σ H (fun vs H1 => ruleI X.K .range 3 vs H1 R)) := pi_range3 hg hm paS hs hpl
theorem pi_zipK {e e2 : Expr} {p pos tpos : Pos} {elts : List Expr} {kk : Nat} (hg : Gl X "zip") (hm : X.mg "zip" = none) (hs : starEach [e, e2] X.env = (false, eval e X.env) :: starEach [e2] X.env) (hpl : (backTo pos (starEach [e2] X.env)).any (·.1) = false) (b : Nat) :
    PI X (.Tuple elts kk tpos) (.Call (.Name "zip" p) [e, e2] [] pos) (fun σ H R => SemA X [e, e2] σ H (fun vs H1 => ruleI X.K .zip b vs H1 R)) :=
  pi_imp (RZ.pi_zipA hg hm paS hs hpl) fun σ H R h => semA_imp h fun v H' q => by cases b <;> exact q
theorem pi_enumK {e : Expr} {p pos tpos : Pos} {elts : List Expr} {kk : Nat} (hg : Gl X "enumerate") (hm : X.mg "enumerate" = none) (hs : starEach [e] X.env = [(false, eval e X.env)]) (b : Nat) :
    PI X (.Tuple elts kk tpos) (.Call (.Name "enumerate" p) [e] [] pos) (fun σ H R => SemA X [e] σ H (fun vs H1 => ruleI X.K .enum b vs H1 R)) :=
  match b with
  | 1 => pi_imp (pi_enumT hg hm paS hs) fun σ H R h => semA_imp h fun v H' q => q
  | 0 => pi_imp (pi_enum hg hm paS hs) fun σ H R h => semA_imp h fun v H' q => q
  | n + 2 => pi_imp (pi_enum hg hm paS hs) fun σ H R h => semA_imp h fun v H' q => q
end
end PD
set_option maxHeartbeats 1000000
namespace PD
open PySem PySem.Spec PyProof.Rows L2
/-! ### a block's own names -/
theorem wipe_get {σ : L2.St} : ∀ {own : List Nat} {i : Nat}, (wipe σ own)[i]? = if i ∈ own ∧ i < σ.length then some none else σ[i]?
  | [], i => by simp [wipe]
  | a :: r, i => by
    show ((wipe σ r).set a none)[i]? = _
    rw [List.getElem?_set, wipe_length]
    by_cases h : a = i
    · subst h
      simp only [if_true, List.mem_cons, true_or, true_and]
      split
      · rfl
      · rename_i hl; exact (List.getElem?_eq_none (by omega)).symm
    · rw [if_neg h, wipe_get]
      have : i ∈ a :: r ↔ i ∈ r := by simp [Ne.symm h]
      simp only [this]
theorem wipeS_len {st : List Slot} : ∀ {own : List Nat}, (wipeS st own).length = st.length
  | [] => rfl
  | a :: r => by show ((wipeS st r).set a .no).length = _; rw [List.length_set, wipeS_len]
theorem wipeS_get {st : List Slot} : ∀ {own : List Nat} {i : Nat}, (wipeS st own)[i]? = if i ∈ own ∧ i < st.length then some .no else st[i]?
  | [], i => by simp [wipeS]
  | a :: r, i => by
    show ((wipeS st r).set a .no)[i]? = _
    rw [List.getElem?_set, wipeS_len]
    by_cases h : a = i
    · subst h
      simp only [if_true, List.mem_cons, true_or, true_and]
      split
      · rfl
      · rename_i hl; exact (List.getElem?_eq_none (by omega)).symm
    · rw [if_neg h, wipeS_get]
      have : i ∈ a :: r ↔ i ∈ r := by simp [Ne.symm h]
      simp only [this]
theorem backS_len {st0 st : List Slot} : ∀ {own : List Nat}, (backS st0 st own).length = st.length
  | [] => rfl
  | a :: r => by show ((backS st0 st r).set a _).length = _; rw [List.length_set, backS_len]
theorem backS_get {st0 st : List Slot} : ∀ {own : List Nat} {i : Nat}, (backS st0 st own)[i]? = if i ∈ own ∧ i < st.length then some ((st0[i]?).getD .no) else st[i]?
  | [], i => by simp [backS]
  | a :: r, i => by
    show ((backS st0 st r).set a _)[i]? = _
    rw [List.getElem?_set, backS_len]
    by_cases h : a = i
    · subst h
      simp only [if_true, List.mem_cons, true_or, true_and]
      split
      · rfl
      · rename_i hl; exact (List.getElem?_eq_none (by omega)).symm
    · rw [if_neg h, backS_get]
      have : i ∈ a :: r ↔ i ∈ r := by simp [Ne.symm h]
      simp only [this]
theorem wipeOk_at {st : List Slot} : ∀ {own : List Nat}, wipeOk st own = true → ∀ i ∈ own, ∀ s, st[i]? = some s → isOw s = false
  | [], _, _, h, _, _ => nomatch h
  | a :: r, h, i, hi, s, e => by
    simp only [wipeOk, Bool.and_eq_true] at h
    rcases List.mem_cons.mp hi with rfl | hi
    · have h1 := h.1
      rw [e] at h1
      cases s <;> first | rfl | cases h1
    · exact wipeOk_at h.2 i hi s e
theorem wipe_but {own l : List Nat} {σ σ' : L2.St} (b : But l σ σ') (h : ∀ j ∈ l, j ∈ own) : wipe σ' own = wipe σ own := by
  apply List.ext_getElem?
  intro i
  rw [wipe_get, wipe_get, b.1]
  split
  · rfl
  · rename_i hi
    by_cases hl : i ∈ l
    · have : ¬ i < σ.length := fun z => hi ⟨h i hl, z⟩
      have e := b.1
      rw [List.getElem?_eq_none (l := σ') (by omega), List.getElem?_eq_none (l := σ) (by omega)]
    · exact b.2 i hl
section
variable {K : PySem.W.Frag} {cm : Nat → Value} {av : Addr → Prop} {H0 H H' : Hp} {σ : L2.St} {st : List Slot} {own : List Nat}
theorem wipe_own {a : Addr} (h : OwnA (wipeS st own) (wipe σ own) a) : OwnA st σ a := by
  obtain ⟨i, s, e, o, q⟩ := h
  rw [wipeS_get] at e
  rw [wipe_get] at q
  split at e
  · cases e; cases o
  · split at q
    · cases q
    · exact ⟨i, s, e, o, q⟩
theorem wipe_owm {a : Addr} (h : OwM (wipeS st own) (wipe σ own) a) : OwM st σ a := by
  obtain ⟨i, s, e, q⟩ := h
  rw [wipeS_get] at e
  rw [wipe_get] at q
  split at e
  · cases e
  · split at q
    · cases q
    · exact ⟨i, s, e, q⟩
theorem SRel.wiped (S : SRel K cm av H0 st σ H) : SRel K cm av H0 (wipeS st own) (wipe σ own) H ∧ Kp (VW av st σ) H (VW av (wipeS st own) (wipe σ own)) H := by
  have kp : Kp (VW av st σ) H (VW av (wipeS st own) (wipe σ own)) H := .of_sub vw_le (fun a h => h.imp id wipe_own) fun a h => wipe_owm h
  have out : ∀ (i : Nat) (s : Slot), (wipeS st own)[i]? = some s → s ≠ .no → st[i]? = some s ∧ (wipe σ own)[i]? = σ[i]? := fun i s e ne => by
    rw [wipeS_get] at e
    split at e
    · cases e; exact absurd rfl ne
    · rename_i h
      refine ⟨e, ?_⟩
      rw [wipe_get, if_neg (by rw [← S.len]; exact h)]
  refine ⟨⟨by rw [wipeS_len, wipe_length]; exact S.len, fun i d e => ?_, fun i s d e h => ?_, fun i j s t a e1 e2 o1 o2 q1 q2 => ?_, S.avd, S.base⟩, kp⟩
  · obtain ⟨e', q'⟩ := out i _ e (by intro z; cases z)
    obtain ⟨v, q, r⟩ := S.sh i d e'
    exact ⟨v, q'.trans q, r.kp kp⟩
  · obtain ⟨e', q'⟩ := out i _ e (by rintro rfl; rcases h with h | h <;> cases h)
    obtain ⟨a, q, n, z, r⟩ := S.ow i s d e' h
    exact ⟨a, q'.trans q, n, z, r.kp kp fun _ x => x⟩
  · obtain ⟨e1', q1'⟩ := out i _ e1 (by rintro rfl; cases o1)
    obtain ⟨e2', q2'⟩ := out j _ e2 (by rintro rfl; cases o2)
    exact S.dist i j s t a e1' e2' o1 o2 (q1'.symm.trans q1) (q2'.symm.trans q2)
/-- the own names' values come back -/
theorem SRel.backed {st0 : List Slot} {av0 : Addr → Prop} {Hs : Hp} (S0 : SRel K cm av0 H0 st0 σ Hs) (ok : wipeOk st0 own = true) (S : SRel K cm av H0 st (wipe σ own) H) (k : Kp (VW av0 st0 σ) Hs (VW av st (wipe σ own)) H) (hw : ∀ (i : Nat), i ∈ own → i < st.length → st[i]? = some .no) :
    SRel K cm av H0 (backS st0 st own) σ H ∧ (∀ a, OwnA (backS st0 st own) σ a ↔ OwnA st (wipe σ own) a) ∧ (∀ a, OwM (backS st0 st own) σ a ↔ OwM st (wipe σ own) a) := by
  have sl : st.length = σ.length := by rw [S.len, wipe_length]
  have at1 : ∀ (i : Nat) (s : Slot), (backS st0 st own)[i]? = some s → isOw s = true → st[i]? = some s ∧ (wipe σ own)[i]? = σ[i]? := fun i s e o => by
    rw [backS_get] at e
    split at e
    · rename_i h
      cases e
      exfalso
      cases q : st0[i]? with
      | none => rw [q] at o; cases o
      | some u => rw [q] at o; have := wipeOk_at ok i h.1 u q; rw [show (some u).getD Slot.no = u from rfl, this] at o; cases o
    · rename_i h
      exact ⟨e, by rw [wipe_get, if_neg (by rw [← sl]; exact h)]⟩
  have at2 : ∀ (i : Nat) (s : Slot), st[i]? = some s → s ≠ .no → (backS st0 st own)[i]? = some s ∧ (wipe σ own)[i]? = σ[i]? := fun i s e ne => by
    have h : ¬ (i ∈ own ∧ i < st.length) := fun z => by rw [hw i z.1 z.2] at e; cases e; exact ne rfl
    exact ⟨by rw [backS_get, if_neg h]; exact e, by rw [wipe_get, if_neg (by rw [← sl]; exact h)]⟩
  have eo : ∀ a, OwnA (backS st0 st own) σ a ↔ OwnA st (wipe σ own) a := fun a =>
    ⟨fun ⟨i, s, e, o, q⟩ => let ⟨e', q'⟩ := at1 i s e o; ⟨i, s, e', o, q'.trans q⟩, fun ⟨i, s, e, o, q⟩ => let ⟨e', q'⟩ := at2 i s e (by rintro rfl; cases o); ⟨i, s, e', o, q'.symm.trans q⟩⟩
  have em : ∀ a, OwM (backS st0 st own) σ a ↔ OwM st (wipe σ own) a := fun a =>
    ⟨fun ⟨i, s, e, q⟩ => let ⟨e', q'⟩ := at1 i _ e rfl; ⟨i, s, e', q'.trans q⟩, fun ⟨i, s, e, q⟩ => let ⟨e', q'⟩ := at2 i _ e (by intro z; cases z); ⟨i, s, e', q'.symm.trans q⟩⟩
  have k1 : Kp (VW av st (wipe σ own)) H (VW av (backS st0 st own) σ) H := .of_sub vw_le (fun a h => h.imp id (eo a).mp) fun a h => (em a).mp h
  refine ⟨⟨by rw [backS_len, sl], fun i d e => ?_, fun i s d e h => ?_, fun i j s t a e1 e2 o1 o2 q1 q2 => ?_, S.avd, S.base⟩, eo, em⟩
  · rw [backS_get] at e
    split at e
    · rename_i h
      cases q : st0[i]? with
      | none => rw [q] at e; cases e
      | some u =>
        rw [q] at e
        have e' : u = .sh d := Option.some.inj e
        subst e'
        obtain ⟨v, q', r⟩ := S0.sh i d q
        exact ⟨v, q', (r.kp k).kp k1⟩
    · rename_i h
      obtain ⟨v, q', r⟩ := S.sh i d e
      rw [wipe_get, if_neg (by rw [← sl]; exact h)] at q'
      exact ⟨v, q', r.kp k1⟩
  · have so : isOw s = true := by rcases h with rfl | rfl <;> rfl
    obtain ⟨e', q'⟩ := at1 i s e so
    obtain ⟨a, q, n, z, r⟩ := S.ow i s d e' h
    exact ⟨a, q'.symm.trans q, n, z, r.kp k1 fun _ x => x⟩
  · obtain ⟨e1', q1'⟩ := at1 i _ e1 o1
    obtain ⟨e2', q2'⟩ := at1 j _ e2 o2
    exact S.dist i j s t a e1' e2' o1 o2 (q1'.trans q1) (q2'.trans q2)
/-- a view with one more that may change -/
abbrev WD (av : Addr → Prop) (D : Addr) (st : List Slot) (σ : L2.St) : Vw := ⟨AV (avP av D) st σ, fun a => OwM st σ a ∨ a = D⟩
theorem wd_le {D : Addr} (a : Addr) (h : (WD av D st σ).mo a) : (WD av D st σ).av a := by
  rcases h with h | h
  · exact vw_le (av := avP av D) a h
  · exact .inl (.inr h)
theorem kp_wd {D : Addr} {st' : List Slot} {σ' : L2.St} (k : Kp (VW (avP av D) st σ) H (VW (avP av D) st' σ') H') : Kp (WD av D st σ) H (WD av D st' σ') H' :=
  ⟨wd_le, k.sub, fun a o e n z => z.elim (k.mosub a o e fun y => n (.inl y)) fun y => n (.inr y), fun b o e n => k.keep b o e fun y => n (.inl y), k.fix, k.dom⟩
theorem kp_wd0 {D : Addr} (h : H D = none) (sm : Same H H') : Kp (VW av st σ) H (WD av D st σ) H' := by
  refine ⟨vw_le, fun a o e n z => ?_, fun a o e n z => z.elim n fun y => ?_, fun b o e _ => sm b o e, fun b o e _ => sm b o e, Same.dom sm⟩
  · have z' : AV (avP av D) st σ a := z
    rw [av_p] at z'
    rcases z' with z | z
    · exact n z
    · subst z; rw [h] at e; cases e
  · subst y; rw [h] at e; cases e
theorem kp_upD {D : Addr} {o o' : HO} (h : H D = some o) (hm : MutO o) : Kp (WD av D st σ) H (WD av D st σ) (upd H D o') := by
  refine ⟨wd_le, fun _ _ _ x => x, fun _ _ _ x => x, fun b u e n => ?_, fun b u e n => ?_, fun b hb => ?_⟩
  · rw [upd_ne (fun z => n (.inr z))]; exact e
  · rw [upd_ne (fun z => by subst z; rw [h] at e; cases e; exact n hm)]; exact e
  · by_cases z : b = D
    · subst z; rw [upd_same]; exact fun z => nomatch z
    · rw [upd_ne z]; exact hb
/-- what is to be avoided is written by whoever holds it -/
theorem SRel.updAv {D : Addr} {o o' : HO} (S : SRel K cm (avP av D) H0 st σ H) (h : H D = some o) (hm : MutO o) (z0 : H0 D = none) : SRel K cm (avP av D) H0 st σ (upd H D o') := by
  have kp : Kp (WD av D st σ) H (WD av D st σ) (upd H D o') := kp_upD h hm
  refine ⟨S.len, fun i d e => ?_, fun i s d e q => ?_, S.dist, fun a z => kp.dom a (S.avd a z), fun b u e => ?_⟩
  · obtain ⟨v, q, r⟩ := S.sh i d e
    exact ⟨v, q, R.kp kp r⟩
  · obtain ⟨a, q', n, z, r⟩ := S.ow i s d e q
    exact ⟨a, q', n, z, RO.kp kp r fun u eu => by rw [upd_ne (fun y => n (.inr y))]; exact eu⟩
  · rw [upd_ne (fun z => by subst z; rw [z0] at e; cases e)]; exact S.base b u e
theorem SRel.notM {D : Addr} (S : SRel K cm (avP av D) H0 st σ H) : ¬ OwM st σ D := fun ⟨i, d, e, q⟩ => S.notOwn ⟨i, _, e, rfl, q⟩
theorem kp_end {D : Addr} : Kp (WD av D st σ) H (VW (avP av D) st σ) H := .of_sub wd_le (fun _ h => h) fun _ h => .inl h
end
/-! ### unlocking -/
section
variable {K : PySem.W.Frag} {cm : Nat → Value} {av : Addr → Prop} {H0 H H' : Hp} {σ : L2.St} {st st0 : List Slot}
theorem SRel.unlock (S : SRel K cm av H0 st σ H) {i : Nat} (h0 : ∃ d, st0[i]? = some (.ow d)) : SRel K cm av H0 (unlockS i st) σ H ∧ (∀ a, AV av (unlockS i st) σ a → AV av st σ a) ∧ (∀ a, OwM (unlockS i st) σ a → OwM st σ a ∨ OwM st0 σ a) := by
  unfold unlockS
  split
  · rename_i d e
    obtain ⟨S', ea⟩ := S.relock e (.inr rfl) (t := .ow d) (.inl rfl)
    refine ⟨S', fun a h => by rw [← ea]; exact h, fun a ⟨j, d', e', q⟩ => ?_⟩
    rcases getSet e' with ⟨rfl, _, _⟩ | ⟨_, e'⟩
    · obtain ⟨d0, h0⟩ := h0
      exact .inr ⟨j, d0, h0, q⟩
    · exact .inl ⟨j, d', e', q⟩
  · exact ⟨S, fun _ h => h, fun _ h => .inl h⟩
theorem SRel.unlockR (S : SRel K cm av H0 st σ H) : ∀ os : List Opd, SRel K cm av H0 (unlockAll st0 os st) σ H ∧ (∀ a, AV av (unlockAll st0 os st) σ a → AV av st σ a) ∧ (∀ a, OwM (unlockAll st0 os st) σ a → OwM st σ a ∨ OwM st0 σ a)
  | [] => ⟨S, fun _ h => h, fun _ h => .inl h⟩
  | .val d :: r => S.unlockR r
  | .bor i :: r => by
    obtain ⟨h1, h2, h3⟩ := S.unlockR r
    by_cases hx : ∃ d, st0[i]? = some (.ow d)
    · have eq : unlockAll st0 (.bor i :: r) st = unlockS i (unlockAll st0 r st) := by
        obtain ⟨d, e⟩ := hx
        simp only [unlockAll, e]
      rw [eq]
      obtain ⟨g1, g2, g3⟩ := h1.unlock (st0 := st0) hx
      exact ⟨g1, fun a h => h2 a (g2 a h), fun a h => (g3 a h).elim (fun z => h3 a z) .inr⟩
    · have eq : unlockAll st0 (.bor i :: r) st = unlockAll st0 r st := by
        simp only [unlockAll]
        split
        · exact absurd ⟨_, by assumption⟩ hx
        · rfl
      rw [eq]
      exact ⟨h1, h2, h3⟩
end
/-! ### the list comprehension -/
section
variable {X : Cx} {cm : Nat → Value} {W : WX}
/-- in every block of X -/
def InBlk (X : Cx) (scope : Scope) (P : Cx → Prop) : Prop := ∀ (s : Shared) (H : Hp) (C : Addr) (cl : List (Str × Addr)) (fp : List Addr), P (X.blk s H scope (compEnvC scope cl C X.env) fp)
abbrev W0 : WX := fun _ _ _ _ => False
theorem Post.noExc {α : Type} {XC : Nat → List Slot → Prop} {P : α → List Slot → Prop} {r : Res α} (h : Post XC P r.noExc) : Post (fun _ _ => False) P r := by
  cases r with
  | ok a st => exact h
  | exc c st => exact h.elim
  | bad => exact h.elim
/-- the evaluator tells what a reading asks -/
def OkRead (X : Cx) (cm : Nat → Value) (W : WX) (t : TE) (f : List Slot → RE) : Prop := ∀ (av : Addr → Prop) (H0 : Hp) (st : List Slot) (σ : L2.St) (H : Hp) (Q : VK), SRel X.K cm av H0 st σ H →
  PoE X.K cm av H0 σ (VW av st σ) H W Q (f st) → t σ H Q
theorem OkRead.e {e : Expr} {t : TE} {f : List Slot → RE} (p : PE X e t) (h : OkRead X cm W t f) : OkE X cm W e f := fun av H0 st σ H Q S q => semE p (h av H0 st σ H Q S q)
/-- an element of a block -/
abbrev tBlk (X : Cx) (scope : Scope) (elt : Expr) : TE := fun σ H Q => ∀ s H' C cl fp, SemE (X.blk s H' scope (compEnvC scope cl C X.env) fp) elt σ H Q
theorem pe_blk {scope : Scope} {elt : Expr} (s : Shared) (H : Hp) (C : Addr) (cl : List (Str × Addr)) (fp : List Addr) : PE (X.blk s H scope (compEnvC scope cl C X.env) fp) elt (tBlk X scope elt) := ⟨fun pins s' σ H Q I q => q s _ C cl fp pins s' I⟩
theorem lc_read {elt tg iter : Expr} {scope : Scope} {vs : List Nat} {g : TG} {m : Tg} {k : Itk} {fs : List Slot → Res (List Opd)} {fc fe : List Slot → RE}
    (hi : OkI X cm W tg iter k fs) (hgb : ∀ (av : Addr → Prop) (H0 : Hp) (st st' : List Slot) (σ : L2.St) (H : Hp) (d : D) (v : V) (Q : L2.St → Hp → Prop), SRel X.K cm av H0 st σ H → R X.K cm H (AV av st σ) v d → bind m d st = some st' →
      (∀ σ' H', SRel X.K cm av H0 st' σ' H' → Kp (VW av st σ) H (VW av st' σ') H' → But m.slots σ σ' → Q σ' H') → g v σ H Q) (hm : ∀ j ∈ m.slots, j ∈ vs)
    {tt : TT} (htb : ∀ (av : Addr → Prop) (H0 : Hp) (st : List Slot) (σ : L2.St) (H : Hp) (Q : Bool → Hp → Prop), SRel X.K cm av H0 st σ H →
      Post (fun _ _ => False) (fun a st' => ∃ b, a.2 = .bl b ∧ ∀ H', SRel X.K cm av H0 st' σ H' → Kp (VW av st σ) H (VW av st' σ) H' → Q b H') (fc st) → tt σ H Q)
    (he : InBlk X scope fun X' => OkE X' cm W0 elt fe) :
    OkRead X cm W (tLc (SemI X tg iter) g tt (tBlk X scope elt) vs) (fun st => (fs st).th fun os st => match rsAll st os with
      | none => .bad
      | some ds => match iterD k ds with
        | none => .bad
        | some items => if wipeOk (lockAll os st) vs && decide (items.length ≤ SZ) then
            (lcGo m vs fc fe items [] (wipeS (lockAll os st) vs)).noExc.th fun d st' => .ok (true, d.2) (unlockAll st os (backS (lockAll os st) st' vs))
          else .bad) := by
  intro av H0 st σ H_ Q S h
  dsimp only at h
  refine hi av H0 st σ H_ _ S ?_
  have h := Post.th.mp h
  refine h.imp (fun _ _ x => x) fun os st1 h1 => ?_
  split at h1
  · exact h1.elim
  rename_i ds e0
  split at h1
  · exact h1.elim
  rename_i items e1
  split at h1
  case isFalse => exact h1.elim
  rename_i cnd
  rw [Bool.and_eq_true] at cnd
  obtain ⟨wok, hlen⟩ := cnd
  have hlen := of_decide_eq_true hlen
  refine ⟨ds, items, e0, e1, fun J H1 S1 k1 it dl hD => ?_⟩
  have h2 := (Post.th.mp h1).noExc
  clear h1 h
  obtain ⟨SL, kL, mL, _, _⟩ := S1.lockR os
  have z0 : H0 dl = none := S1.fresh0 hD
  have hDH : H_ dl = none := by
    cases e : H_ dl with
    | none => rfl
    | some o => exact absurd hD (k1.dom dl (by rw [e]; exact fun z => nomatch z))
  have hw : ∀ (st2 : List Slot) (i : Nat), i ∈ vs → i < (wipeS st2 vs).length → (wipeS st2 vs)[i]? = some .no := fun st2 i hi hl => by
    rw [wipeS_get, if_pos ⟨hi, by rw [wipeS_len] at hl; exact hl⟩]
  refine ⟨fun i mm H => ∃ (st2 : List Slot) (acc : List D) (accV : List V), i ≤ items.length ∧ mm = items.length - i ∧ SRel X.K cm (avP av dl) H0 (wipeS st2 vs) (wipe σ vs) H ∧ ItOk X.K cm J items (WD av dl (wipeS st2 vs) (wipe σ vs)) H ∧
    H dl = some (.lst accV) ∧ Rs X.K cm H (AV (avP av dl) (wipeS st2 vs) (wipe σ vs)) accV acc ∧ acc.length ≤ i ∧ Kp (VW av (lockAll os st1) σ) H1 (WD av dl (wipeS st2 vs) (wipe σ vs)) H ∧
    Post (fun _ _ => False) _ (lcGo m vs fc fe (items.drop i) acc (wipeS st2 vs)), ⟨items.length, lockAll os st1, [], [], Nat.zero_le _, by omega, ?_, ?_, upd_same, .nil, Nat.zero_le _, ?_, by rw [List.drop_zero]; exact h2⟩, ?_⟩
  · exact (SL.wiped (own := vs)).1.avoid hD (same_upd hD) (by rw [upd_same]; exact fun z => nomatch z)
  · exact it.kp ((SL.wiped (own := vs)).2.trans (kp_wd0 hD (same_upd hD)))
  · exact (SL.wiped (own := vs)).2.trans (kp_wd0 hD (same_upd hD))
  rintro i mm H ⟨st2, acc, accV, hi, rfl, S2, it2, hDa, ra, hal, k2, h3⟩
  by_cases hlt : i < items.length
  · refine .inr ⟨it2.go hlt, fun H' => ∃ (st2 : List Slot) (acc : List D) (accV : List V), SRel X.K cm (avP av dl) H0 (wipeS st2 vs) (wipe σ vs) H' ∧ ItOk X.K cm J items (WD av dl (wipeS st2 vs) (wipe σ vs)) H' ∧
      H' dl = some (.lst accV) ∧ Rs X.K cm H' (AV (avP av dl) (wipeS st2 vs) (wipe σ vs)) accV acc ∧ acc.length ≤ i + 1 ∧ Kp (VW av (lockAll os st1) σ) H1 (WD av dl (wipeS st2 vs) (wipe σ vs)) H' ∧
      Post (fun _ _ => False) _ (lcGo m vs fc fe (items.drop (i + 1)) acc (wipeS st2 vs)), fun H' ⟨st2, acc, accV, a1, a2, a3, a4, a5, a6, a7⟩ => ⟨items.length - (i + 1), by omega, st2, acc, accV, by omega, rfl, a1, a2, a3, a4, a5, a6, a7⟩, fun x H' y => ?_⟩
    obtain ⟨d, hd, sm, rx⟩ := it2.yld hlt y
    have ed : items.drop i = d :: items.drop (i + 1) := by
      obtain ⟨hl, he⟩ := List.getElem?_eq_some_iff.mp hd
      rw [List.drop_eq_getElem_cons hl, he]
    rw [ed] at h3
    simp only [lcGo] at h3
    split at h3
    · exact h3.elim
    rename_i st3 eb
    have ks : Kp (WD av dl (wipeS st2 vs) (wipe σ vs)) H (WD av dl (wipeS st2 vs) (wipe σ vs)) H' := .of_same sm wd_le
    refine hgb (avP av dl) H0 (wipeS st2 vs) st3 (wipe σ vs) H' d x _ (S2.same sm) rx eb fun σ3 H3 S3 k3 b3 => ?_
    have ew : wipe σ3 vs = wipe σ vs := by
      rw [wipe_but b3 hm]
      apply List.ext_getElem?
      intro j
      rw [wipe_get, wipe_get, wipe_length]
      split <;> rfl
    refine ⟨ew, htb (avP av dl) H0 st3 σ3 H3 _ S3 ?_⟩
    refine (Post.th.mp h3).imp (fun _ _ x => x) fun c st4 h4 => ?_
    unfold br at h4
    split at h4
    · rename_i b ebl
      refine ⟨b, ebl, fun H4 S4 k4 => ?_⟩
      have kk : Kp (WD av dl (wipeS st2 vs) (wipe σ vs)) H (WD av dl st4 σ3) H4 := ks.trans ((kp_wd k3).trans (kp_wd k4))
      have hD3 : H3 dl = some (.lst accV) := k3.keep dl _ (sm _ _ hDa) (S2.same sm).notM
      have hD4 : H4 dl = some (.lst accV) := k4.keep dl _ hD3 S3.notM
      cases b with
      | false =>
        rw [if_neg Bool.false_ne_true] at h4 ⊢
        have w4 := S4.wiped (own := vs)
        rw [ew] at w4
        have k' : Kp (WD av dl (wipeS st2 vs) (wipe σ vs)) H (WD av dl (wipeS st4 vs) (wipe σ vs)) H4 := kk.trans (kp_wd w4.2)
        exact ⟨st4, acc, accV, w4.1, it2.kp k', hD4, ra.kp k', by omega, k2.trans k', h4⟩
      | true =>
        rw [if_pos rfl] at h4 ⊢
        intro s' H' C cl fp
        refine he s' H' C cl fp (avP av dl) H0 st4 σ3 H4 _ S4 ((Post.th.mp h4).imp (fun _ _ z => z.elim) fun a st5 h5 v H5 o => ?_)
        obtain ⟨S5, k5, r5⟩ := o.val S4.avd
        have hD5 : H5 dl = some (.lst accV) := k5.keep dl _ hD4 S4.notM
        have w5 := S5.wiped (own := vs)
        rw [ew] at w5
        have ku : Kp (WD av dl (wipeS st5 vs) (wipe σ vs)) H5 (WD av dl (wipeS st5 vs) (wipe σ vs)) (upd H5 dl (.lst (accV ++ [v]))) := kp_upD hD5 (.inl ⟨_, rfl⟩)
        have k' : Kp (WD av dl (wipeS st2 vs) (wipe σ vs)) H (WD av dl (wipeS st5 vs) (wipe σ vs)) (upd H5 dl (.lst (accV ++ [v]))) := (kk.trans ((kp_wd k5).trans (kp_wd w5.2))).trans ku
        have hz : accV.length = acc.length := ra.length
        refine ⟨accV, hD5, Nat.lt_of_lt_of_le (show accV.length < SZ by omega) sz_line, st5, acc ++ [a.2], accV ++ [v], w5.1.updAv hD5 (.inl ⟨_, rfl⟩) z0, it2.kp k', upd_same, (ra.kp k').append (.cons ((r5.kp w5.2).kp ku) .nil), by rw [List.length_append]; show acc.length + 1 ≤ _; omega, k2.trans k', h5⟩
    · exact h4.elim
  · refine .inl ⟨it2.stop (by omega), ?_⟩
    have ei : items.drop i = [] := List.drop_eq_nil_of_le (by omega)
    rw [ei] at h3
    have kk : Kp (VW av st σ) H_ (VW (avP av dl) (wipeS st2 vs) (wipe σ vs)) H := k1.trans (kL.trans (k2.trans kp_end))
    obtain ⟨SB, eo, em⟩ := SL.backed wok S2 (k2.trans kp_end) fun i hi hl => hw st2 i hi hl
    obtain ⟨SU, au, mu⟩ := SB.unlockR (st0 := st1) os
    have kb : Kp (VW (avP av dl) (wipeS st2 vs) (wipe σ vs)) H (.fz (AV (avP av dl) (unlockAll st1 os (backS (lockAll os st1) (wipeS st2 vs) vs)) σ)) H :=
      .of_sub vw_le (fun a z => (au a z).imp id (eo a).mp) fun _ z => z.elim
    refine h3 (.ref dl) H (.fr hDH SU ⟨vw_le, fun a o e n z => kk.sub a o e n ((au a z).imp id (eo a).mp), fun a o e n z => (mu a z).elim (fun z => kk.mosub a o e n ((em a).mp z)) fun z => k1.mosub a o e n z, kk.keep, kk.fix, kk.dom⟩ (.lst hDa (ra.kp kb)))
end
end PD
set_option maxHeartbeats 1000000
namespace PD
open PySem PySem.Spec PyProof.Rows L2
/-! ### calls of the program's own defs -/
/-- what a def promises: the evaluator's answer -/
def spF (K : PySem.W.Frag) (cm : Nat → Value) (f : List D → FR) (np : Nat) : Sp := fun vs H Q E => ∃ (av : Addr → Prop) (ds : List D), Rs K cm H av vs ds ∧ (∀ a, av a → H a ≠ none) ∧ ds.length = np ∧
  match f ds with
  | .ok fr d => ∀ v H', VN K cm av H fr d v H' → Q v H'
  | .exc c => ∀ H', Same H H' → E (cm c) none H'
  | .bad => False
/-- the def stands at a global name and keeps its promise -/
structure FnAt (X : Cx) (cm : Nat → Value) (k : Nat) (f : List D → FR) (np : Nat) (x : Str) : Prop where
  ex : ∃ (a : Addr) (fd : FuncData) (ps : List Str), X.mg x = some (.ref a) ∧ FnOk X.prog X.w X.K X.mg X.base (L2.CX X.prog X.w) k a fd ps (spF X.K cm f np) ∧ PySem.W.keepIn X.K (.ref a) = true ∧ Binds X.K fd ps []
  len : ∀ ds, f ds ≠ .bad → ds.length = np
section
variable {X : Cx} {cm : Nat → Value} {W : WX} {av : Addr → Prop} {H0 H : Hp} {σ : L2.St} {st : List Slot} {es : List Expr} {e : Expr} {pos p : Pos}
theorem okE_fn {f : List D → FR} {np : Nat} {fs : List Slot → Res (List D)} {E : L2.St → XK} (hE : E = WE W) (hl : ∀ ds, f ds ≠ .bad → ds.length = np) (hp : PE X e (tCallS (spF X.K cm f np) E (SemA X es))) (ha : OkA X cm W es fs) :
    OkE X cm W e (fun st => (fs st).th fun ds st => outF (f ds) st) := by
  subst hE
  intro av H0 st σ H Q S h
  refine semE hp (ha.bind (avH := VW av st σ) (H := H) S kp0 h fun ds st2 vs H2 S2 k2 _ r2 h2 => ?_)
  refine ⟨AV av st2 σ, ds, r2, fun a => S2.there, hl ds (fun z => by rw [z] at h2; exact h2.elim), ?_⟩
  cases hf : f ds with
  | ok fr d => rw [hf] at h2; exact fun v H' n => h2 v H' (.of_vn (av0 := av) S2 k2 n)
  | exc c => rw [hf] at h2; exact fun H' s => h2 H' (S2.same s)
  | bad => rw [hf] at h2; exact h2
theorem okE_call {f : List D → FR} {np k : Nat} {x : Str} {fs : List Slot → Res (List D)} (F : FnAt X cm k f np x) (hr : Room k X.A) (hg : Gl X x) (tk : Takes X W) (ha : OkA X cm W (e :: es) fs) (hdb : (x == ("__debug__" : Str)) = false)
    (he : starEach (e :: es) X.env = (false, eval e X.env) :: starEach es X.env) (hpl : (backTo pos (starEach es X.env)).any (·.1) = false) : OkE X cm W (.Call (.Name x p) (e :: es) [] pos) (fun st => (fs st).th fun ds st => outF (f ds) st) := by
  obtain ⟨a, fd, ps, h1, h2, h4, h5⟩ := F.ex
  exact okE_fn rfl F.len (pe_callS h2 hr hg h1 h4 h5 (passAt tk) paS hdb he hpl) ha
theorem okE_call0 {f : List D → FR} {np k : Nat} {x : Str} (F : FnAt X cm k f np x) (hr : Room k X.A) (hg : Gl X x) (tk : Takes X W) (hdb : (x == ("__debug__" : Str)) = false) :
    OkE X cm W (.Call (.Name x p) [] [] pos) (fun st => (Res.ok [] st : Res (List D)).th fun ds st => outF (f ds) st) := by
  obtain ⟨a, fd, ps, h1, h2, h4, h5⟩ := F.ex
  intro av H0 st σ H Q S h
  have h : PoE X.K cm av H0 σ (VW av st σ) H W Q (outF (f []) st) := h
  refine semE (t := fun σ H Q => spF X.K cm f np [] H Q (WE W σ)) ⟨fun pins s σ H Q I q => ?_⟩ ?_
  · refine wpAny_Call_Name_kw (ld_glob I hg h1 ?_ hdb)
    exact PySem.W.callWith_K0 I.kIn h4 (run_fnS (us := []) h2 hr h5 (passAt tk σ) I .nil q)
  · refine ⟨AV av st σ, [], .nil, fun a => S.there, F.len [] (fun z => by rw [z] at h; exact h.elim), ?_⟩
    cases hf : f [] with
    | ok fr d => rw [hf] at h; exact fun v H' n => h v H' (.of_vn (av0 := av) S kp0 n)
    | exc c => rw [hf] at h; exact fun H' s => h H' (S.same s)
    | bad => rw [hf] at h; exact h
/-! ### statements -/
def XCs (K : PySem.W.Frag) (cm : Nat → Value) (av : Addr → Prop) (H0 : Hp) (W : WX) (c : Nat) (st : List Slot) : Prop := ∀ σ' H', SRel K cm av H0 st σ' H' → W (cm c) none σ' H'
/-- a statement's end as a wish -/
def PF (K : PySem.W.Frag) (cm : Nat → Value) (av : Addr → Prop) (H0 : Hp) (w : Vw) (H : Hp) (D : Ends) : Fl → List Slot → Prop
  | .nx, st' => ∀ σ' H', SRel K cm av H0 st' σ' H' → Kp w H (VW av st' σ') H' → D.nx σ' H'
  | .bk, st' => ∀ σ' H', SRel K cm av H0 st' σ' H' → Kp w H (VW av st' σ') H' → D.bk σ' H'
  | .ct, st' => ∀ σ' H', SRel K cm av H0 st' σ' H' → Kp w H (VW av st' σ') H' → D.ct σ' H'
  | .rt fr d, _ => ∀ v H', VN K cm av H0 fr d v H' → D.rt v H'
abbrev PoS (K : PySem.W.Frag) (cm : Nat → Value) (av : Addr → Prop) (H0 : Hp) (w : Vw) (H : Hp) (W : WX) (D : Ends) (r : RS) : Prop := Post (XCs K cm av H0 W) (PF K cm av H0 w H D) r
def OkS (X : Cx) (cm : Nat → Value) (W : WX) (s : Stmt) (f : List Slot → RS) : Prop := ∀ (av : Addr → Prop) (H0 : Hp) (st : List Slot) (σ : L2.St) (H : Hp) (D : Ends), SRel X.K cm av H0 st σ H →
  PoS X.K cm av H0 (VW av st σ) H W D (f st) → SemS X s D σ H
def OkSs (X : Cx) (cm : Nat → Value) (W : WX) (s : List Stmt) (f : List Slot → RS) : Prop := ∀ (av : Addr → Prop) (H0 : Hp) (st : List Slot) (σ : L2.St) (H : Hp) (D : Ends), SRel X.K cm av H0 st σ H →
  PoS X.K cm av H0 (VW av st σ) H W D (f st) → SemSs X s D σ H
theorem PF.shift {K : PySem.W.Frag} {w w1 : Vw} {H1 : Hp} {D : Ends} {f : Fl} {st' : List Slot} (k : Kp w H w1 H1) (h : PF K cm av H0 w H D f st') : PF K cm av H0 w1 H1 D f st' := by
  cases f with
  | nx => exact fun σ' H' S k' => h σ' H' S (k.trans k')
  | bk => exact fun σ' H' S k' => h σ' H' S (k.trans k')
  | ct => exact fun σ' H' S k' => h σ' H' S (k.trans k')
  | rt fr d => exact h
theorem PoS.shift {K : PySem.W.Frag} {w w1 : Vw} {H1 : Hp} {D : Ends} {r : RS} (k : Kp w H w1 H1) (h : PoS K cm av H0 w H W D r) : PoS K cm av H0 w1 H1 W D r := h.imp (fun _ _ x => x) fun _ _ x => PF.shift k x
/-- an expression within a statement -/
theorem OkRead.bindS {t : TE} {f : List Slot → RE} {g : Bool × D → List Slot → RS} {Q : VK} {D' : Ends} {w : Vw} {H' : Hp} (ha : OkRead X cm W t f) (S : SRel X.K cm av H0 st σ H) (k : Kp w H' (VW av st σ) H) (h : PoS X.K cm av H0 w H' W D' ((f st).th g))
    (hk : ∀ (x : Bool × D) (st2 : List Slot) (v : V) (H2 : Hp), VO X.K cm av H0 σ (VW av st σ) H x.1 x.2 st2 v H2 → PoS X.K cm av H0 w H' W D' (g x st2) → Q v H2) : t σ H Q := by
  refine ha av H0 st σ H Q S ((Post.th.mp h).imp (fun c st' x H' S' => x σ H' S') fun x st2 q v H2 o => hk x st2 v H2 o q)
theorem OkE.rd {f : List Slot → RE} (h : OkE X cm W e f) : OkRead X cm W (SemE X e) f := h
theorem okS_ex {f : List Slot → RE} (hs : swapsWith e none pos.line X.env = pure false) (ha : OkE X cm W e f) : OkS X cm W (.Expr e pos) (fun st => (f st).th fun _ st => .ok .nx st) := by
  intro av H0 st σ H D S h
  refine semS (ps_expr peS hs) (ha.rd.bindS S kp0 h fun x st2 v H2 o h2 => ?_)
  obtain ⟨S2, k2, _⟩ := o.val S.avd
  exact h2 σ H2 S2 k2
/-- name = value -/
theorem okS_nm {i : Nat} {s : Stmt} {te : TE} {f : List Slot → RE} (hp : PS X s (tAsg te (gName i))) (ha : OkRead X cm W te f) : OkS X cm W s (fun st => (f st).th fun a st => nxS (putS i a.1 a.2 st)) := by
  intro av H0 st σ H D S h
  refine semS hp (ha.bindS S kp0 h fun x st2 v H2 o h2 => ?_)
  show D.nx (σ.set i (some v)) H2
  unfold putS at h2
  split at h2
  · rename_i hi
    obtain ⟨fr, d⟩ := x
    cases o with
    | sh S2 k2 r2 =>
      obtain ⟨S3, k3⟩ := S2.store hi r2
      exact h2 _ _ S3 (k2.trans k3)
    | @fr _ _ p _ n S2 k2 r2 =>
      have z0 : H0 p = none := S.fresh0 n
      have S3 := S2.storeOw hi (fun z => S.avd p z n) z0 r2
      refine h2 _ _ S3 ⟨vw_le, fun a o e na z => ?_, fun a o e na z => ?_, k2.keep, k2.fix, k2.dom⟩
      · refine k2.sub a o e na ?_
        show AV (avP av p) st2 σ a
        rw [av_p]
        rcases z with z | z
        · exact .inl (.inl z)
        · rcases own_store z with z | ⟨_, z⟩
          · exact .inl (.inr z)
          · cases z; exact .inr rfl
      · rcases owm_store z with z | ⟨_, z⟩
        · exact k2.mosub a o e na z
        · cases z; rw [n] at e; cases e
  · exact h2.elim
/-- a target = value -/
theorem okS_tg {s : Stmt} {te : TE} {f : List Slot → RE} {g : TG} {tg : Expr} {m : Tg} (hp : PS X s (tAsg te g)) (hg : OkG X cm tg g m) (ha : OkRead X cm W te f) : OkS X cm W s (fun st => (f st).th fun a st => nxS (bind m a.2 st)) := by
  intro av H0 st σ H D S h
  refine semS hp (ha.bindS S kp0 h fun x st2 v H2 o h2 => ?_)
  obtain ⟨S2, k2, r2⟩ := o.val S.avd
  cases hb : bind m x.2 st2 with
  | none => rw [hb] at h2; exact h2.elim
  | some st3 => rw [hb] at h2; exact hg.2 av H0 st2 st3 σ H2 x.2 v _ S2 r2 hb fun σ' H' S' k' _ => h2 σ' H' S' (k2.trans k')
theorem okSs_nil : OkSs X cm W [] (fun st => .ok .nx st) := by
  intro av H0 st σ H D S h
  exact semSs pss_nil (h σ H S kp0)
theorem okSs_cons {s : Stmt} {ss : List Stmt} {f g : List Slot → RS} (h1 : OkS X cm W s f) (h2 : OkSs X cm W ss g) : OkSs X cm W (s :: ss) (fun st => (f st).th fun fl st => match fl with | .nx => g st | fl => .ok fl st) := by
  intro av H0 st σ H D S h
  refine semSs (pss_cons psS pssS) (h1 av H0 st σ H _ S ((Post.th.mp h).imp (fun _ _ x => x) fun fl st2 q => ?_))
  cases fl with
  | nx => exact fun σ' H' S' k' => h2 av H0 st2 σ' H' D S' (PoS.shift k' q)
  | bk => exact q
  | ct => exact q
  | rt fr d => exact q
theorem okS_if {c : Expr} {a b : List Stmt} {fc : List Slot → RE} {fa fb : List Slot → RS} (hc : OkT X cm W c fc) (ha : OkSs X cm W a fa) (hb : OkSs X cm W b fb) : OkS X cm W (.If c a b pos) (fun st => (fc st).th (br (fun st => fa st) (fun st => fb st))) := by
  intro av H0 st σ H D S h
  refine semS (ps_if ptS pssS pssS) (hc av H0 st σ H _ S ((Post.th.mp h).imp (fun c st' x H' S' => x σ H' S') fun x st2 q => ?_))
  unfold br at q
  split at q
  · rename_i b' eb
    refine ⟨b', eb, fun H2 S2 k2 => ?_⟩
    cases b' with
    | true => rw [if_pos rfl] at q ⊢; exact ha av H0 st2 σ H2 D S2 (PoS.shift k2 q)
    | false => rw [if_neg Bool.false_ne_true] at q ⊢; exact hb av H0 st2 σ H2 D S2 (PoS.shift k2 q)
  · exact q.elim
/-! the ends -/
theorem vn_ret {fr : Bool} {d : D} {v : V} {H' : Hp} {st' : List Slot} {w : Vw} (S : SRel X.K cm av H0 st σ H) (o : VO X.K cm av H0 σ w H fr d st' v H') : VN X.K cm av H0 fr d v H' := by
  cases o with
  | sh S2 k2 r2 => exact .sh S2.base (R.kp (.fz (Same.refl _) fun a _ _ n z => n (.inl z)) r2)
  | @fr _ _ p _ n S2 k2 r2 =>
    refine .fr (S.fresh0 n) S2.base (RO.kp (w := .fz (AV (avP av p) st' σ)) (.fz (Same.refl _) fun a _ _ n z => n ?_) r2 fun _ x => x)
    rw [av_p]; exact z.imp .inl id
theorem okS_ret {f : List Slot → RE} (ha : OkE X cm W e f) : OkS X cm W (.Return (some e) pos) (fun st => (f st).th fun a st => .ok (.rt a.1 a.2) st) := by
  intro av H0 st σ H D S h
  exact semS (ps_ret peS) (ha.rd.bindS S kp0 h fun x st2 v H2 o h2 => h2 v H2 (vn_ret S o))
theorem okS_retV {i : Nat} (hp : PE X e (tVar i)) : OkS X cm W (.Return (some e) pos) (fun st => match st[i]? with | some (.ow d) => .ok (.rt true d) st | _ => (rd i st).th fun a st => .ok (.rt a.1 a.2) st) := by
  intro av H0 st σ H D S h
  dsimp only at h
  split at h
  · rename_i d e1
    obtain ⟨a, q, n, z, r⟩ := S.ow i _ d e1 (.inl rfl)
    refine semS (ps_ret hp) ⟨_, q, h _ H (.fr z S.base (RO.kp (w := .fz (AV av st σ)) (.fz (Same.refl _) fun b _ _ nb w => nb ?_) r fun _ x => x))⟩
    rcases w with w | w
    · exact .inl w
    · subst w; exact .inr ⟨i, _, e1, rfl, q⟩
  · exact okS_ret (rd_okE hp) av H0 st σ H D S h
theorem okS_retN : OkS X cm W (.Return none pos) (fun st => .ok (.rt false .non) st) := by
  intro av H0 st σ H D S h
  exact semS ps_retN (h .non H (.sh S.base .non))
end
end PD
set_option maxHeartbeats 1000000
namespace PD
open PySem PySem.Spec PyProof.Rows L2
section
variable {X : Cx} {cm : Nat → Value} {W : WX} {av : Addr → Prop} {H0 H : Hp} {σ : L2.St} {st : List Slot} {es : List Expr} {e : Expr} {pos p : Pos}
/-! ### while -/
theorem okS_while {c : Expr} {body : List Stmt} {fc : List Slot → RE} {fb : List Slot → RS} (hp : PassesOwn (model X.prog X.w) X.A X.env X.xe) (hc : OkT X cm W c fc) (hb : OkSs X cm W body fb) : OkS X cm W (.While c body [] pos) (whileD fc fb) := by
  intro av H0 st σ H D S h
  unfold whileD at h
  split at h
  case isFalse => exact h.elim
  rename_i hex
  refine semS (ps_while hp ptS pssS) ⟨fun m σ1 H1 => ∃ st1, SRel X.K cm av H0 st1 σ1 H1 ∧ Kp (VW av st σ) H (VW av st1 σ1) H1 ∧ PoS X.K cm av H0 (VW av st σ) H W D (whileF fc fb m st1), ⟨_, st, S, kp0, h⟩, ?_⟩
  rintro m σ1 H1 ⟨st1, S1, k1, h1⟩
  cases m with
  | zero => exact h1.elim
  | succ m =>
    simp only [whileF] at h1
    refine hc av H0 st1 σ1 H1 _ S1 ((Post.th.mp h1).imp (fun c st' x H' S' => x σ1 H' S') fun x st2 q => ?_)
    unfold br at q
    split at q
    · rename_i b' eb
      refine ⟨b', eb, fun H2 S2 k2 => ?_⟩
      cases b' with
      | false => rw [if_neg Bool.false_ne_true] at q ⊢; exact q σ1 H2 S2 (k1.trans k2)
      | true =>
        rw [if_pos rfl] at q ⊢
        refine ⟨fun σ3 H3 => ∃ st3, SRel X.K cm av H0 st3 σ3 H3 ∧ Kp (VW av st σ) H (VW av st3 σ3) H3 ∧ PoS X.K cm av H0 (VW av st σ) H W D (whileF fc fb m st3), fun σ3 H3 w => ⟨m, Nat.lt_succ_self m, w⟩, ?_⟩
        refine hb av H0 st2 σ1 H2 _ S2 ((Post.th.mp q).imp (fun _ _ x => x) fun fl st3 q3 => ?_)
        cases fl with
        | nx => exact fun σ3 H3 S3 k3 => ⟨st3, S3, (k1.trans k2).trans k3, q3⟩
        | ct => exact fun σ3 H3 S3 k3 => ⟨st3, S3, (k1.trans k2).trans k3, q3⟩
        | bk => exact fun σ3 H3 S3 k3 => q3 σ3 H3 S3 ((k1.trans k2).trans k3)
        | rt fr d => exact q3
    · exact q.elim
/-! ### for -/
theorem okS_for {tg iter : Expr} {body : List Stmt} {k : Itk} {fs : List Slot → Res (List D)} {g : TG} {m : Tg} {fb : List Slot → RS} (hp : PassesOwn (model X.prog X.w) X.A X.env X.xe) (hc : X.calm = true) (hs : ∀ x, foldedSetIterable iter X.env x = pure x)
    (hi : OkJ X cm W tg iter k fs) (hg : OkG X cm tg g m) (hb : OkSs X cm W body fb) : OkS X cm W (.For tg iter body [] pos) (fun st => (fs st).th fun ds st => match iterD k ds with | some items => forGo m fb items st | none => .bad) := by
  intro av H0 st σ H D S h
  dsimp only at h
  refine semS (ps_for hp hc piS hg.1 pssS hs) (hi av H0 st σ H _ S ((Post.th.mp h).imp (fun c st' x H' S' => x σ H' S') fun ds st1 h1 => ?_))
  split at h1
  case h_2 => exact h1.elim
  rename_i items e1
  refine ⟨items, e1, fun J H1 S1 k1 it => ?_⟩
  refine ⟨fun i mm σ2 H2 => ∃ st2, i ≤ items.length ∧ mm = items.length - i ∧ SRel X.K cm av H0 st2 σ2 H2 ∧ ItOk X.K cm J items (VW av st2 σ2) H2 ∧ Kp (VW av st σ) H (VW av st2 σ2) H2 ∧ PoS X.K cm av H0 (VW av st σ) H W D (forGo m fb (items.drop i) st2),
    ⟨items.length, st1, Nat.zero_le _, by omega, S1, it, k1, by rw [List.drop_zero]; exact h1⟩, ?_⟩
  rintro i mm σ2 H2 ⟨st2, hi, rfl, S2, it2, k2, h2⟩
  by_cases hlt : i < items.length
  · refine .inr ⟨it2.go hlt, fun σ' H' => ∃ st', SRel X.K cm av H0 st' σ' H' ∧ ItOk X.K cm J items (VW av st' σ') H' ∧ Kp (VW av st σ) H (VW av st' σ') H' ∧ PoS X.K cm av H0 (VW av st σ) H W D (forGo m fb (items.drop (i + 1)) st'),
      fun σ' H' ⟨st', a1, a2, a3, a4⟩ => ⟨items.length - (i + 1), by omega, st', by omega, rfl, a1, a2, a3, a4⟩, fun x H' y => ?_⟩
    obtain ⟨d, hd, sm, rx⟩ := it2.yld hlt y
    have ed : items.drop i = d :: items.drop (i + 1) := by
      obtain ⟨hl, he⟩ := List.getElem?_eq_some_iff.mp hd
      rw [List.drop_eq_getElem_cons hl, he]
    rw [ed] at h2
    simp only [forGo] at h2
    split at h2
    · exact h2.elim
    rename_i st3 eb
    have ks : Kp (VW av st2 σ2) H2 (VW av st2 σ2) H' := .of_same sm vw_le
    refine hg.2 av H0 st2 st3 σ2 H' d x _ (S2.same sm) rx eb fun σ3 H3 S3 k3 _ => ?_
    refine hb av H0 st3 σ3 H3 _ S3 ((Post.th.mp h2).imp (fun _ _ x => x) fun fl st4 q => ?_)
    have kk : Kp (VW av st2 σ2) H2 (VW av st3 σ3) H3 := ks.trans k3
    cases fl with
    | nx => exact fun σ4 H4 S4 k4 => ⟨st4, S4, it2.kp (kk.trans k4), k2.trans (kk.trans k4), q⟩
    | ct => exact fun σ4 H4 S4 k4 => ⟨st4, S4, it2.kp (kk.trans k4), k2.trans (kk.trans k4), q⟩
    | bk => exact fun σ4 H4 S4 k4 => q σ4 H4 S4 (k2.trans (kk.trans k4))
    | rt fr d => exact q
  · refine .inl ⟨it2.stop (by omega), ?_⟩
    have ei : items.drop i = [] := List.drop_eq_nil_of_le (by omega)
    rw [ei] at h2
    exact h2 σ2 H2 S2 k2
/-! ### lists that are changed -/
theorem kp_own {a : Addr} {o o' : HO} (h : OwnA st σ a) (e : H a = some o) (hm : MutO o) : Kp ⟨AV av st σ, fun b => b = a⟩ H ⟨AV av st σ, fun b => b = a⟩ (upd H a o') := by
  refine ⟨fun b z => by subst z; exact .inr h, fun _ _ _ x => x, fun _ _ _ x => x, fun b u eb n => ?_, fun b u eb n => ?_, fun b hb => ?_⟩
  · rw [upd_ne n]; exact eb
  · rw [upd_ne (fun z => by subst z; rw [e] at eb; cases eb; exact n hm)]; exact eb
  · by_cases z : b = a
    · subst z; rw [upd_same]; exact fun z => nomatch z
    · rw [upd_ne z]; exact hb
/-- a slot's own list, changed into another -/
theorem modL {i : Nat} {ds ds' : List D} (S : SRel X.K cm av H0 st σ H) (e : st[i]? = some (.ow (.lst ds))) : ∃ a vs, σ[i]? = some (some (.ref a)) ∧ H a = some (.lst vs) ∧ Rs X.K cm H (AV av st σ) vs ds ∧
    ∀ vs', Rs X.K cm H (AV av st σ) vs' ds' → SRel X.K cm av H0 (st.set i (.ow (.lst ds'))) σ (upd H a (.lst vs')) ∧ Kp (VW av st σ) H (VW av (st.set i (.ow (.lst ds'))) σ) (upd H a (.lst vs')) := by
  obtain ⟨a, q, n, z, r⟩ := S.ow i _ _ e (.inl rfl)
  cases r with
  | @lst vs _ ha rs =>
    refine ⟨a, vs, q, ha, rs, fun vs' r' => ?_⟩
    have k := kp_own (av := av) (o' := .lst vs') ⟨i, _, e, rfl, q⟩ ha (.inl ⟨_, rfl⟩)
    exact S.write e q (.inl ⟨_, rfl⟩) (.lst upd_same (Rs.kp k r'))
theorem ownedL_iff {i : Nat} (h : ownedL i st = true) : ∃ ds, st[i]? = some (.ow (.lst ds)) := by
  unfold ownedL at h
  split at h
  · exact ⟨_, by assumption⟩
  · cases h
theorem ownedAt_iff {i : Nat} (h : ownedAt i st = true) : ∃ d, st[i]? = some (.ow d) := by
  unfold ownedAt at h
  split at h
  · exact ⟨_, by assumption⟩
  · cases h
theorem modS_lst {i : Nat} {f : D → Option D} {D' : Ends} {w : Vw} {H' : Hp} (h : PoS X.K cm av H0 w H' W D' (modS i st f)) : ∃ d d', st[i]? = some (.ow d) ∧ f d = some d' ∧ PF X.K cm av H0 w H' D' .nx (st.set i (.ow d')) := by
  unfold modS at h
  split at h
  · rename_i d e
    split at h
    · rename_i d' e'
      exact ⟨d, d', e, e', h⟩
    · exact h.elim
  · exact h.elim
/-- x.append(e) as a statement -/
theorem okS_app {i : Nat} {x : Str} {p1 apos cpos : Pos} {f : List Slot → RE} (hv : PE X (.Name x p1) (tVar i)) (hline : (apos.endLine == cpos.line) = true) (hs : starEach [e] X.env = (false, eval e X.env) :: starEach [] X.env)
    (hfew : ((backTo cpos (starEach [e] X.env)).all (fun x => !x.1) && (backToKw cpos (keywordEach [] X.env)).all (fun x => x.1.isSome) && decide ([e].length + ([] : List Keyword).length + (if ([] : List Keyword).isEmpty then 0 else 1) < 30)) = true)
    (ha : OkE X cm W e f) : OkS X cm W (.Expr (.Call (.Attribute (.Name x p1) "append" apos) [e] [] cpos) pos) (fun st => if ownedL i st then (f st).th fun a st => modS i st (appD a.2) else .bad) := by
  intro av H0 st σ H D S h
  dsimp only at h
  split at h
  case isFalse => exact h.elim
  rename_i ho
  obtain ⟨ds0, e0⟩ := ownedL_iff ho
  obtain ⟨a0, vs0, q0, ha0, _⟩ := modL (ds' := ds0) S e0
  -- the list is asked for its type ahead of the argument
  have hpe : PE X (.Call (.Attribute (.Name x p1) "append" apos) [e] [] cpos) (tBM X.K "list" rAppend (tVar i) (tCons (SemE X e) tNil)) :=
    pe_bm PySem.F.plainAttrs_list PySem.F.slot_list_append PySem.F.type_list_append mt_append hv (pa_cons peS pa_nil hs) rfl hfew hline hs rfl
  refine semS (ps_expr hpe rfl) ⟨_, q0, .inl ⟨rfl, _, SqL.of ha0⟩, ?_⟩
  refine ha.rd.bindS S kp0 h fun y st2 v H2 o h2 => ?_
  obtain ⟨S2, k2, r2⟩ := o.val S.avd
  obtain ⟨d1, d2, e1, e2, q⟩ := modS_lst h2
  cases d1 <;> simp only [appD, reduceCtorEq] at e2
  rename_i ds
  split at e2
  · rename_i hz
    cases e2
    obtain ⟨a, vs, qa, ha', rs, wr⟩ := modL (ds' := ds ++ [y.2]) S2 e1
    rw [q0] at qa; cases qa
    refine ⟨a0, vs, v, rfl, rfl, ha', Nat.lt_of_lt_of_le (by rw [rs.length]; exact hz) sz_line, ?_⟩
    obtain ⟨S3, k3⟩ := wr (vs ++ [v]) (rs.append (.cons r2 .nil))
    exact q σ _ S3 (k2.trans k3)
  · cases e2
/-- x.extend(e) as a statement -/
theorem okS_ext {i : Nat} {x : Str} {p1 apos cpos : Pos} {f : List Slot → RE} (hv : PE X (.Name x p1) (tVar i)) (hline : (apos.endLine == cpos.line) = true) (hs : starEach [e] X.env = (false, eval e X.env) :: starEach [] X.env)
    (hfew : ((backTo cpos (starEach [e] X.env)).all (fun x => !x.1) && (backToKw cpos (keywordEach [] X.env)).all (fun x => x.1.isSome) && decide ([e].length + ([] : List Keyword).length + (if ([] : List Keyword).isEmpty then 0 else 1) < 30)) = true)
    (ha : OkE X cm W e f) : OkS X cm W (.Expr (.Call (.Attribute (.Name x p1) "extend" apos) [e] [] cpos) pos) (fun st => if ownedL i st then (f st).th fun a st => modS i st (extD a.2) else .bad) := by
  intro av H0 st σ H D S h
  dsimp only at h
  split at h
  case isFalse => exact h.elim
  rename_i ho
  obtain ⟨ds0, e0⟩ := ownedL_iff ho
  obtain ⟨a0, vs0, q0, ha0, _⟩ := modL (ds' := ds0) S e0
  have hpe : PE X (.Call (.Attribute (.Name x p1) "extend" apos) [e] [] cpos) (tBM X.K "list" rExtend (tVar i) (tCons (SemE X e) tNil)) :=
    pe_bm PySem.F.plainAttrs_list PySem.F.slot_list_extend PySem.F.type_list_extend mt_extend hv (pa_cons peS pa_nil hs) rfl hfew hline hs rfl
  refine semS (ps_expr hpe rfl) ⟨_, q0, .inl ⟨rfl, _, SqL.of ha0⟩, ?_⟩
  refine ha.rd.bindS S kp0 h fun y st2 v H2 o h2 => ?_
  obtain ⟨S2, k2, r2⟩ := o.val S.avd
  obtain ⟨d1, d2, e1, e2, q⟩ := modS_lst h2
  cases d1 <;> simp only [extD, reduceCtorEq] at e2
  rename_i ds
  split at e2
  · rename_i ys ey
    split at e2
    · rename_i hz
      cases e2
      obtain ⟨a, vs, qa, ha', rs, wr⟩ := modL (ds' := ds ++ ys) S2 e1
      rw [q0] at qa; cases qa
      rw [ey] at r2
      obtain ⟨b, us, rfl, hb, ru⟩ := RX.lst (.inl r2)
      refine ⟨a0, b, vs, us, rfl, rfl, ha', hb, Nat.le_of_lt (Nat.lt_of_lt_of_le (by rw [rs.length, ru.length]; exact hz) sz_line), ?_⟩
      obtain ⟨S3, k3⟩ := wr (vs ++ us) (rs.append ru)
      exact q σ _ S3 (k2.trans k3)
    · cases e2
  · cases e2
end
end PD
set_option maxHeartbeats 1000000
namespace PD
open PySem PySem.Spec PyProof.Rows L2
/-! F4i: one operand; xs[::-1], isinstance, chains, len(set(..)). -/
section
variable {X : Cx} {cm : Nat → Value} {W : WX} {av : Addr → Prop} {H0 H : Hp} {σ : L2.St} {st : List Slot} {e a b c : Expr} {pos p : Pos}
theorem semE_mono {X : Cx} {e : Expr} {σ : L2.St} {H : Hp} {Q Q' : VK} (h : SemE X e σ H Q) (q : ∀ v H', Q v H' → Q' v H') : SemE X e σ H Q' := fun pins s I => wpAny_mono (h pins s I) (fun u s' ⟨v, H', I', r, z⟩ => ⟨v, H', I', r, q v H' z⟩) fun _ _ x => x
def EndOne (X : Cx) (cm : Nat → Value) (W : WX) {ι : Type} (rule : ι → (Addr → Prop) → V → Hp → VK → Prop) (sel : Opd → List Slot → ι) (g : Opd → List Slot → RE) : Prop :=
  ∀ (av : Addr → Prop) (H0 : Hp) (st : List Slot) (σ : L2.St) (avH : Vw) (H H2 : Hp) (Q : VK) (x : Opd) (v : V), SRel X.K cm av H0 st σ H2 → Kp avH H (VW av st σ) H2 → OpR1 X.K cm σ (AV av st σ) H2 v x → PoE X.K cm av H0 σ avH H W Q (g x st) → rule (sel x st) (AV av st σ) v H2 Q
theorem okE_o1 {ι : Type} [Inhabited ι] {rule : ι → (Addr → Prop) → V → Hp → VK → Prop} {sel : Opd → List Slot → ι} {fa : List Slot → Res Opd} {g : Opd → List Slot → RE} (hp : ∀ i av, PE X e (fun σ H Q => SemE X a σ H fun v H1 => rule i av v H1 Q)) (ha : OkO X cm W a fa)
    (hend : EndOne X cm W rule sel g) : OkE X cm W e (fun st => (fa st).th g) := by
  intro av H0 st σ H Q S h
  dsimp only at h
  cases h1 : fa st with
  | bad => rw [h1] at h; exact h.elim
  | exc c st' => exact semE (hp default av) (ha av H0 st σ H _ S (by rw [h1] at h ⊢; exact h))
  | ok x st1 =>
    rw [h1, Res.th_ok] at h
    refine semE (hp (sel x st1) (AV av st1 σ)) (ha av H0 st σ H _ S ?_)
    rw [h1]
    exact fun v H1 o1 => hend av H0 st1 σ _ H H1 Q x v o1.1 o1.2.1 o1.2.2 h
/-! ### xs[::-1] -/
theorem adj_rev (n : Nat) : Builtin.Slice.sliceAdjust none none (-1) (n : Int) = ((n : Int) - 1, -1) := rfl
theorem places_rev (n : Nat) : Builtin.Slice.slicePlaces ((n : Int) - 1) (-1) (-1) = n := by
  unfold Builtin.Slice.slicePlaces
  rw [if_neg (by decide)]
  by_cases h : n = 0
  · subst h; rfl
  · rw [if_pos (by omega)]
    rw [show (-(-1) : Int) = 1 by decide, Int.ediv_one]
    omega
theorem pick_rev (xs : Array Value) : ((List.range xs.size).filterMap fun (m : Nat) => xs[((xs.size : Int) - 1 + (m : Int) * -1).toNat]?).toArray = xs.toList.reverse.toArray := by
  have e : (fun (m : Nat) => xs[((xs.size : Int) - 1 + (m : Int) * -1).toNat]?) = (fun x => xs[x]?) ∘ fun k => xs.size - 1 - k := by
    funext m
    show xs[((xs.size : Int) - 1 + (m : Int) * -1).toNat]? = xs[xs.size - 1 - m]?
    congr 1
    omega
  rw [e, ← List.filterMap_map, PySem.W.krv_range, List.filterMap_reverse, PySem.W.krv_all]
section
variable {prog : Program} {w : World} {A : Around} {E : Value → Shared → Prop} {s : Shared}
theorem getItem_tuple_rev {t sl : Addr} {items : Array Value} {vs : Value} {Q : Value → Shared → Prop} (ht : IsTup s.heap t items) (hs : s.heap.IsSliceOf sl .none .none vs) (ps : IsPart vs (some (-1)))
    (h : Q (.ref s.heap.objs.size) { s with heap := s.heap.push { cls := .type "tuple", data := .seq items.toList.reverse.toArray } })
    (hsz : items.size ≤ sizeLine) : wpAny (model prog w) A (getItem (.ref t) (.ref sl)) Q E s := by
  have htake : sizeOk (.seq items.toList.reverse.toArray) := by
    show items.toList.reverse.toArray.size ≤ sizeLine
    rw [List.size_toArray, List.length_reverse, Array.length_toList]
    exact hsz
  obtain ⟨os, hos, hcs, hds⟩ := id hs
  have hTs : s.TypeIs (.ref sl) "slice" := ⟨os, hos, hcs⟩
  unfold getItem
  try with_reducible refine wpAny_holding ?_
  first | refine wpAny_bind (wpAny_pure ?_) | skip
  refine wpAny_bind (wpAny_sequenceKey ht.typeIs (by decide) ?_)
  refine wpAny_bind (wpAny_callSpecial?_slot (name := Str.ofString "__getitem__") ht.typeIs PyProof.Rows.slot_tuple_getitem
    (wpAny_call_entry PyProof.Rows.slot_tuple_getitem ht.typeIs entry_tuple_getitem ?_ (args_tuple_getitem _ _)))
  show wpAny _ _ (Builtin.Tuple.tupleItemsOf (.ref t) >>= _) _ _ s
  refine wpAny_bind (tupleItemsOf_ ht ?_)
  refine wpAny_bind (wpAny_typeOf hTs ?_)
  rw [if_pos (by decide)]
  refine wpAny_bind (m := Builtin.Slice.sliceApplied (.ref sl) (pure (items.size : Int))) ?_
  unfold Builtin.Slice.sliceApplied Builtin.Slice.sliceFields
  refine wpAny_bind (wpAny_bind (wpAny_field hos hds (x := .none) rfl (wpAny_bind (wpAny_field hos hds (x := .none) rfl (wpAny_bind (wpAny_field hos hds (x := vs) rfl (wpAny_pure ?_)))))))
  refine wpAny_bind (HT.slicePart_ ps ?_)
  show wpAny _ _ (if ((-1 : Int) == 0) = true then _ else _) _ _ s
  rw [if_neg (by decide)]
  refine wpAny_bind (HT.slicePart_ .none (wpAny_bind (HT.slicePart_ .none (wpAny_bind (wpAny_pure ?_)))))
  show wpAny _ _ (match Builtin.Slice.sliceAdjust none none (-1) (items.size : Int) with | (lo, hi) => pure (lo, (-1 : Int), Builtin.Slice.slicePlaces lo hi (-1))) _ _ s
  rw [adj_rev]
  show wpAny _ _ (pure ((items.size : Int) - 1, (-1 : Int), Builtin.Slice.slicePlaces ((items.size : Int) - 1) (-1) (-1))) _ _ s
  rw [places_rev]
  refine wpAny_pure ?_
  have hno : ¬ ((((items.size : Int) - 1) == 0 && (-1 : Int) == 1 && items.size == items.size) = true) := by
    rw [show ((-1 : Int) == 1) = false by decide, Bool.and_false, Bool.false_and]
    exact Bool.false_ne_true
  show wpAny _ _ (if (((items.size : Int) - 1) == 0 && (-1 : Int) == 1 && items.size == items.size) = true then _ else _) _ _ s
  rw [if_neg hno, pick_rev]
  first
    | exact wpAny_bind (m := Builtin.Tuple.tupleExact _) (wpAny_newObj_type (wpAny_pure ⟨_, rfl, wpAny_pure h⟩) htake)
    | exact wpAny_bind (m := Builtin.Tuple.tupleExact _) (wpAny_newObj_type (wpAny_bind (wpAny_pure (wpAny_pure ⟨_, rfl, wpAny_pure h⟩))) htake)
end
def tRevT (K : PySem.W.Frag) (te : TE) : TE := fun σ H Q => te σ H fun x H1 => ∃ a xs, x = .ref a ∧ SqT K H1 a xs ∧ ∀ p, H1 p = none → Q (.ref p) (upd H1 p (.tup xs.reverse))
theorem pe_revT {e : Expr} {te : TE} {k : Nat} {p1 p2 p3 pos : Pos} (he : PE X e te) : PE X (.Subscript e (.Slice none none (some (.UnaryOp .USub (.Constant (.int 1) k p1) p2)) p3) pos) (tRevT X.K te) := by
  refine ⟨fun pins s σ H Q I h => ?_⟩
  refine Subscript_ (thn (he.run pins s σ H _ I h) fun v s1 ⟨x, H1, I1, r1, q1⟩ => ?_)
  obtain ⟨a, xs, ex, hx, q⟩ := q1
  subst ex
  cases r1
  have hst : PO X (some (.UnaryOp .USub (.Constant (.int 1) k p1) p2)) (tPart (tUn (rU fun i => .int (-i)) (tC (.int 1)))) := po_some (pe_un un_neg pe_int)
  refine wpAny_Slice (thn (po_none.run pins s1 σ H1 (fun o H2 => o = none ∧ H2 = H1) I1 ⟨rfl, rfl⟩) fun vl s2 ⟨l, H2, I2, pl, el, e2⟩ => ?_)
  subst el e2
  cases pl
  refine thn (po_none.run pins s2 σ H2 (fun o H3 => o = none ∧ H3 = H2) I2 ⟨rfl, rfl⟩) fun vu s3 ⟨u, H3, I3, pu, eu, e3⟩ => ?_
  subst eu e3
  cases pu
  refine thn (hst.run pins s3 σ H3 (fun o H4 => o = some (-1) ∧ H4 = H3) I3 ⟨1, rfl, -1, rfl, rfl, rfl⟩) fun vs s4 ⟨o, H4, I4, ps, eo, e4⟩ => ?_
  subst eo e4
  have I5 : Inv X pins σ H4 { s4 with heap := s4.heap.push { cls := .type "slice", data := .fields #[.none, .none, vs] } } := I4.kept (t' := s4.toks) fun b ob q => Heap.get?_push_of_some _ q
  obtain ⟨its, r, ht, hz⟩ := I5.tuple hx
  have hlen := r.length
  show wpAny (model X.prog X.w) X.A (subscriptTail e (.Slice none none (some (.UnaryOp .USub (.Constant (.int 1) k p1) p2)) p3) (.ref a) (.ref s4.heap.objs.size)) (EP X pins σ Q) X.xe { s4 with heap := s4.heap.push { cls := .type "slice", data := .fields #[.none, .none, vs] } }
  refine tail_any (ops := [.ref a, .ref s4.heap.objs.size]) ht.typeIs (PyProof.Rows.slot_tuple_getitem.lookup) ?_ (by with_unfolding_all rfl)
  refine getItem_tuple_rev ht (Heap.IsSliceOf.new _ .none .none vs) ps ?_ (by rw [List.size_toArray]; omega)
  refine ⟨.ref _, _, I5.laid (t' := s4.toks) (o := .tup xs.reverse) (fun b ob q => Heap.get?_push_of_some _ q) (Nat.le_refl _) ?_, rfl, q _ (I5.hok.fresh (Nat.le_refl _))⟩
  exact ⟨by rw [List.length_reverse]; exact hz, _, r.reverse, IsTup.new _ _⟩
theorem Rs.rev {K : PySem.W.Frag} {av : Addr → Prop} {H : Hp} {vs : List V} {ds : List D} (r : Rs K cm H av vs ds) : Rs K cm H av vs.reverse ds.reverse := by
  induction ds generalizing vs with
  | nil => cases r; exact .nil
  | cons d ds ih =>
    cases r with
    | cons x r => rw [List.reverse_cons, List.reverse_cons]; exact (ih r).append (.cons x .nil)
def ruRev (K : PySem.W.Frag) : Bool → (Addr → Prop) → V → Hp → VK → Prop
  | true, _, v, H, Q => ∃ a xs, v = .ref a ∧ SqL K H a xs ∧ ∀ p, H p = none → Q (.ref p) (upd H p (.lst xs.reverse))
  | false, _, v, H, Q => ∃ a xs, v = .ref a ∧ SqT K H a xs ∧ ∀ p, H p = none → Q (.ref p) (upd H p (.tup xs.reverse))
def isLst : Option D → Bool
  | some (.lst _) => true
  | _ => false
theorem okE_rev {k : Nat} {p1 p2 p3 : Pos} {fa : List Slot → Res Opd} (ha : OkO X cm W a fa) : OkE X cm W (.Subscript a (.Slice none none (some (.UnaryOp .USub (.Constant (.int 1) k p1) p2)) p3) pos) (fun st => (fa st).th fun x st => match rs1 st x with
      | some (.lst xs) => .ok (true, .lst xs.reverse) st
      | some (.tup xs) => .ok (false, .tup xs.reverse) st
      | _ => .bad) := by
  refine okE_o1 (rule := ruRev X.K) (sel := fun x st => isLst (rs1 st x)) (fun i av => ?_) ha fun av H0 st σ avH H H2 Q x v S k r h => ?_
  · cases i with
    | true => exact pe_revL peS
    | false => exact pe_revT peS
  · cases e1 : rs1 st x with
    | none => rw [e1] at h; exact h.elim
    | some d =>
      rw [e1] at h
      have lx := r.look S e1
      cases d with
      | lst xs =>
        obtain ⟨a, vs, ea, ha, rs⟩ := lx.lst
        show ruRev X.K (isLst (rs1 st x)) (AV av st σ) v H2 Q
        rw [e1]
        exact ⟨a, vs, ea, SqL.of ha, fun p hp => h _ _ (.of_vn (av0 := av) S k (.lst hp rs.rev))⟩
      | tup xs =>
        obtain ⟨a, vs, ea, ha, rs⟩ := lx.tup
        show ruRev X.K (isLst (rs1 st x)) (AV av st σ) v H2 Q
        rw [e1]
        exact ⟨a, vs, ea, SqT.of ha, fun p hp => h _ _ (.of_vn (av0 := av) S k (.tup hp rs.rev))⟩
      | _ => exact h.elim
/-! ### isinstance -/
def tyN : Bi → Option String
  | .isInt => some "int" | .isBool => some "bool" | .isTuple => some "tuple" | .isList => some "list" | .isStr => some "str" | _ => none
theorem isi_ty {n : Bi} {T : String} (hn : tyN n = some T) {K : PySem.W.Frag} {H : Hp} {v : V} {d : D} (r : RX K cm H av v d) (ho : okIs n d = true) : ∃ t : String, TyX K H v (.type t) ∧ PySem.W.kitOne K (.type t) (.type T) = some (isD n d) := by
  cases d with
  | non => rw [RX.non r]; refine ⟨_, .base .non, kit_ty ?_⟩; cases n <;> cases hn <;> first | (show kitB _ _ = some true; decide +kernel) | (show kitB _ _ = some false; decide +kernel)
  | bl b => rw [RX.bl r]; refine ⟨_, .base (.bl b), kit_ty ?_⟩; cases n <;> cases hn <;> first | (show kitB _ _ = some true; decide +kernel) | (show kitB _ _ = some false; decide +kernel)
  | int i => rw [RX.int r]; refine ⟨_, .base (.int i), kit_ty ?_⟩; cases n <;> cases hn <;> first | (show kitB _ _ = some true; decide +kernel) | (show kitB _ _ = some false; decide +kernel)
  | str x => rw [RX.str r]; refine ⟨_, .base (.str x), kit_ty ?_⟩; cases n <;> cases hn <;> first | (show kitB _ _ = some true; decide +kernel) | (show kitB _ _ = some false; decide +kernel)
  | tup xs => obtain ⟨a, vs, rfl, ha, _⟩ := r.tup; refine ⟨_, .base (.tup ha), kit_ty ?_⟩; cases n <;> cases hn <;> first | (show kitB _ _ = some true; decide +kernel) | (show kitB _ _ = some false; decide +kernel)
  | lst xs => obtain ⟨a, vs, rfl, ha, _⟩ := r.lst; refine ⟨_, .base (.lst ha), kit_ty ?_⟩; cases n <;> cases hn <;> first | (show kitB _ _ = some true; decide +kernel) | (show kitB _ _ = some false; decide +kernel)
  | dic t kvs =>
    cases t with
    | false => obtain ⟨a, vs, rfl, ha, _⟩ := r.dicK; refine ⟨_, .base (.dK ha), kit_ty ?_⟩; cases n <;> cases hn <;> first | (show kitB _ _ = some true; decide +kernel) | (show kitB _ _ = some false; decide +kernel)
    | true => obtain ⟨a, vs, rfl, ha, _⟩ := r.dicT; refine ⟨_, .base (.dT ha), kit_ty ?_⟩; cases n <;> cases hn <;> first | (show kitB _ _ = some true; decide +kernel) | (show kitB _ _ = some false; decide +kernel)
  | scr ns => cases n <;> cases hn <;> cases ho
  | exc c => cases n <;> cases hn <;> cases ho
def ruIsi (K : PySem.W.Frag) (cm : Nat → Value) (n : Bi) : Unit → (Addr → Prop) → V → Hp → VK → Prop := fun _ av v H Q => ∃ d, RX K cm H av v d ∧ okIs n d = true ∧ Q (.bl (isD n d)) H
theorem biD_isi {n : Bi} {T : String} (hn : tyN n = some T) : biD n = isB n := by cases n <;> first | rfl | cases hn
theorem okE_isi {n : Bi} {T : String} {fa : List Slot → Res Opd} {p2 : Pos} (hn : tyN n = some T) (hg : Gl X "isinstance") (hm : X.mg "isinstance" = none) (hg2 : Gl X (Str.ofString T)) (hm2 : X.mg (Str.ofString T) = none) (hv : bootBuiltins (Str.ofString T) = some (.type T))
    (hT : Str.ofString T ≠ "__name__") (hd : (Str.ofString T == ("__debug__" : Str)) = false) (hs : starEach [a, .Name (Str.ofString T) p2] X.env = (false, eval a X.env) :: starEach [.Name (Str.ofString T) p2] X.env) (ha : OkO X cm W a fa) :
    OkE X cm W (.Call (.Name "isinstance" p) [a, .Name (Str.ofString T) p2] [] pos) (fun st => (fa st).th fun x st => match rs1 st x with | some d => outE (biD n [d]) st | none => .bad) := by
  refine okE_o1 (rule := ruIsi X.K cm n) (sel := fun _ _ => ()) (fun i av => ?_) ha fun av H0 st σ avH H H2 Q x v S k r h => ?_
  · have pe := pe_callB (p := p) (pos := pos) call_isi hg hm PyProof.Rows.boot_isinstance (pa_cons (peS (X := X) (e := a)) (pa_cons (pe_bltn (v := .ty T) (pos := p2) hg2 hm2 hv rfl hT hd) pa_nil rfl) hs) (by decide) (by decide) hs rfl
    refine ⟨fun pins s σ H Q I h => pe.run pins s σ H Q I (semE_mono h fun v H' ⟨d, rx, ho, q⟩ => ?_)⟩
    obtain ⟨t, ty, kk⟩ := isi_ty hn rx ho
    exact ⟨v, .ty T, .type t, .type T, _, rfl, .ty T, ty, kk, q⟩
  · split at h
    · rename_i d e1
      rw [biD_isi hn] at h
      obtain ⟨fr, r', hr, hq⟩ := endE S k h
      simp only [isB] at hr
      split at hr
      · rename_i ho
        cases hr
        exact ⟨d, r.look S e1, ho, hq _ _ (.here (.bl _))⟩
      · cases hr
    · exact h.elim
/-! ### len(set(xs)), whole numbers -/
theorem met_all (ns : List Int) : firstMet (fun i => ns.getD i 0) ns.length = dedI ns := by
  unfold firstMet
  have e : (List.range ns.length).map (fun i => ns.getD i 0) = ns := by
    apply List.ext_getElem
    · simp
    · intro i h1 h2
      simp [h2]
  rw [e]
  rfl
def tLenSetG (K : PySem.W.Frag) (ta : TE) : TE := fun σ H Q => ta σ H fun x H1 => ∃ (l : Addr) (ns : List Int), x = V.ref l ∧ SqL K H1 l (ns.map V.int) ∧ ns.length < 64 ∧ Q (.int (dedI ns).length) H1
theorem pe_lenSetG {a : Expr} {ta : TE} {p p2 q pos : Pos} (hc : X.calm = true) (hg : Gl X "len") (hm : X.mg "len" = none) (hg2 : Gl X "set") (hm2 : X.mg "set" = none) (ha : PE X a ta)
    (na : starEach [a] X.env = (false, eval a X.env) :: starEach [] X.env) : PE X (.Call (.Name "len" p) [.Call (.Name "set" p2) [a] [] q] [] pos) (tLenSetG X.K ta) := by
  refine ⟨fun pins s σ H Q I h => ?_⟩
  refine Call_ (ld_blt I hg hm PySem.boot_len ?_)
  refine PyProof.Rows.callWith_builtin1 (PyProof.Rows.args_cons ?_ rfl) rfl rfl
  refine Call_ (ld_blt I hg2 hm2 PyProof.Rows.boot_set ?_)
  refine PyProof.Rows.callWith_type1 (PyProof.Rows.args_cons (thn (ha.run pins s σ H _ I h) fun v s1 ⟨x, H1, I1, r1, q1⟩ => PyProof.Rows.args_nil ?_) na) na rfl
  obtain ⟨l, ns, rfl, hq, h1, q1⟩ := q1
  cases r1
  obtain ⟨its, r, pl, hz⟩ := I1.list hq
  have hl : its.toArray.size = ns.length := by rw [List.size_toArray, ← r.length, List.length_map]
  refine call_set_list (I1.ok.hd hc) pl.isList (ns := ns) (by simpa using r.ints) (by unfold scanBound; omega) fun h' tk hS hk => ?_
  rw [hl, met_all] at hS
  have hle : (dedI ns).length ≤ ns.length := by rw [← met_all]; exact firstMet_length_le _ _
  refine PyProof.Rows.args_nil ?_
  obtain ⟨o, es, ep, t, ho, hex, hd, _, _, _, hf, hn⟩ := hS
  have I2 : Inv X pins σ H1 { s1 with heap := h', toks := tk } := I1.kept fun b o e => hk b o (Heap.lt_size e) e
  refine call_len_set ho hex hd hf (by rw [hn] <;> omega) ⟨.int (dedI ns).length, H1, I2.tok _, ⟨_, by rw [hn]⟩, q1⟩
def ruLenSet (K : PySem.W.Frag) : Unit → (Addr → Prop) → V → Hp → VK → Prop := fun _ _ v H Q => ∃ (l : Addr) (ns : List Int), v = V.ref l ∧ SqL K H l (ns.map V.int) ∧ ns.length < 64 ∧ Q (.int (dedI ns).length) H
/-! ### chains -/
theorem okE_chain0 {o o' : Cop} {fa fb fc : List Slot → RE} (hu : X.A.units + 65 < cLine) (ha : OkE X cm W a fa) (hb : OkE X cm W b fb) (hc : OkE X cm W c fc) (S : SRel X.K cm av H0 st σ H) {Q : VK}
    (h : PoE X.K cm av H0 σ (VW av st σ) H W Q ((fa st).th fun x st => (fb st).th fun y st => match cmpD o x.2 y.2 with
      | some true => (fc st).th fun z st => outB (cmpD o' y.2 z.2) st
      | some false => ret (.bl false) st
      | none => .bad)) : ∃ av1 av2, tChain (rC X.K cm av1 (cmpD o)) (rC X.K cm av2 (cmpD o')) (SemE X a) (SemE X b) (SemE X c) σ H Q := by
  cases h1 : fa st with
  | bad => rw [h1] at h; exact h.elim
  | exc k st' => exact ⟨av, av, ha av H0 st σ H _ S (by rw [h1] at h ⊢; exact h)⟩
  | ok x st1 =>
    rw [h1, Res.th_ok] at h
    cases h2 : fb st1 with
    | bad => rw [h2] at h; exact h.elim
    | exc k st' =>
      refine ⟨av, av, ha av H0 st σ H _ S ?_⟩
      rw [h1]
      intro v H1 o1
      obtain ⟨S1, k1, r1⟩ := o1.val S.avd
      refine hb av H0 st1 σ H1 _ S1 ?_
      rw [h2] at h ⊢
      exact h
    | ok y st2 =>
      rw [h2, Res.th_ok] at h
      cases h3 : cmpD o x.2 y.2 with
      | none => rw [h3] at h; exact h.elim
      | some t =>
        rw [h3] at h
        cases t with
        | false =>
          refine ⟨AV av st2 σ, av, ha av H0 st σ H _ S ?_⟩
          rw [h1]
          intro v H1 o1
          obtain ⟨S1, k1, r1⟩ := o1.val S.avd
          refine hb av H0 st1 σ H1 _ S1 ?_
          rw [h2]
          intro w H2 o2
          obtain ⟨S2, k2, r2⟩ := o2.val S1.avd
          exact ⟨x.2, y.2, false, .inl (r1.kp k2), .inl r2, h3, false, rfl, h _ _ (.sh S2 (k1.trans k2) (.bl _))⟩
        | true =>
          dsimp only at h
          cases h4 : fc st2 with
          | bad => rw [h4] at h; exact h.elim
          | exc k st' =>
            refine ⟨AV av st2 σ, av, ha av H0 st σ H _ S ?_⟩
            rw [h1]
            intro v H1 o1
            obtain ⟨S1, k1, r1⟩ := o1.val S.avd
            refine hb av H0 st1 σ H1 _ S1 ?_
            rw [h2]
            intro w H2 o2
            obtain ⟨S2, k2, r2⟩ := o2.val S1.avd
            refine ⟨x.2, y.2, true, .inl (r1.kp k2), .inl r2, h3, true, rfl, ?_⟩
            rw [if_pos rfl]
            refine hc av H0 st2 σ H2 _ S2 ?_
            rw [h4] at h ⊢
            exact h
          | ok z st3 =>
            refine ⟨AV av st2 σ, AV av st3 σ, ha av H0 st σ H _ S ?_⟩
            rw [h1]
            intro v H1 o1
            obtain ⟨S1, k1, r1⟩ := o1.val S.avd
            refine hb av H0 st1 σ H1 _ S1 ?_
            rw [h2]
            intro w H2 o2
            obtain ⟨S2, k2, r2⟩ := o2.val S1.avd
            refine ⟨x.2, y.2, true, .inl (r1.kp k2), .inl r2, h3, true, rfl, ?_⟩
            rw [if_pos rfl]
            refine hc av H0 st2 σ H2 _ S2 ?_
            rw [h4] at h ⊢
            intro u H3 o3
            obtain ⟨S3, k3, r3⟩ := o3.val S2.avd
            rw [Res.th_ok] at h
            obtain ⟨r, hr, hq⟩ := endB S3 ((k1.trans k2).trans k3) h
            exact ⟨y.2, z.2, r, .inl (r2.kp k3), .inl r3, hr, hq⟩
theorem okE_chain {o o' : Cop} {fa fb fc : List Slot → RE} (hu : X.A.units + 65 < cLine) (ho : copOk o = true) (ho' : copOk o' = true) (hm : lastMarks [copO o, copO o'] [b, c] = false) (ha : OkE X cm W a fa) (hb : OkE X cm W b fb) (hc : OkE X cm W c fc) :
    OkE X cm W (.Compare a [copO o, copO o'] [b, c] pos) (fun st => (fa st).th fun x st => (fb st).th fun y st => match cmpD o x.2 y.2 with
      | some true => (fc st).th fun z st => outB (cmpD o' y.2 z.2) st
      | some false => ret (.bl false) st
      | none => .bad) := by
  intro av H0 st σ H Q S h
  obtain ⟨av1, av2, q⟩ := okE_chain0 hu ha hb hc S h
  exact semE (pe_chain (opr_cmp hu o ho) (opr_cmp hu o' ho') peS peS peS hm) q
theorem okT_chain {o o' : Cop} {fa fb fc : List Slot → RE} (hu : X.A.units + 65 < cLine) (ho : copOk o = true) (ho' : copOk o' = true) (hm : lastMarks [copO o, copO o'] [b, c] = false) (ha : OkE X cm W a fa) (hb : OkE X cm W b fb) (hc : OkE X cm W c fc) :
    OkT X cm W (.Compare a [copO o, copO o'] [b, c] pos) (fun st => (fa st).th fun x st => (fb st).th fun y st => match cmpD o x.2 y.2 with
      | some true => (fc st).th fun z st => outB (cmpD o' y.2 z.2) st
      | some false => ret (.bl false) st
      | none => .bad) := by
  intro av H0 st σ H Q S h
  obtain ⟨av1, av2, q⟩ := okE_chain0 (Q := fun v H' => ∃ k, v = .bl k ∧ Q k H') hu ha hb hc S (h.imp (fun _ _ x => x) fun x st2 ⟨b, e1, q⟩ v H2 o => by
    obtain ⟨S2, k2, r2⟩ := o.val S.avd
    rw [e1] at r2
    exact ⟨b, RX.bl (.inl r2), q H2 S2 k2⟩)
  exact semT (pt_chain (opr_cmp hu o ho) (opr_cmp hu o' ho') peS peS peS hm) q
end
end PD
set_option maxHeartbeats 1000000
namespace PD
open PySem PySem.Spec PyProof.Rows L2
/-! F4j: dicts of constants, d.get(k, x). -/
section
variable {X : Cx} {cm : Nat → Value} {W : WX} {av : Addr → Prop} {H0 H : Hp} {σ : L2.St} {st : List Slot} {e a b c : Expr} {pos p : Pos}
theorem getD_of {d k' v' r : D} {fr : Bool} (hr : mtD .get d [k', v'] = some (fr, r)) : ∃ t kvs, d = .dic t kvs ∧ keyOk t k' = true ∧ fr = false ∧ r = (dlook k' kvs).getD v' := by
  cases d with
  | dic t kvs =>
    simp only [mtD] at hr
    split at hr
    · rename_i hk; cases hr; exact ⟨t, kvs, rfl, hk, rfl, rfl⟩
    · cases hr
  | _ => simp [mtD] at hr
theorem okE_get {apos cpos : Pos} {fa : List Slot → Res Opd} {fb fc : List Slot → RE} (hu : X.A.units + 1 < cLine) (m : M2 X a "get" apos b c cpos) (ha : OkO X cm W a fa) (hb : OkE X cm W b fb) (hc : OkE X cm W c fc) :
    OkE X cm W (.Call (.Attribute a "get" apos) [b, c] [] cpos) (fun st => (fa st).th fun x st => if mtOk .get (rs1 st x) then ((fb st).th fun y st => (fc st).th fun z st => .ok [y.2, z.2] st).th fun ds st => match rs1 st x with
      | some d => outE (mtD .get d ds) st
      | _ => .bad else .bad) := by
  intro av H0 st σ H Q S h
  refine semE (pe_dget2 (td := SemE X a) (ty := SemE X b) (tx := SemE X c) hu peS peS peS m) ?_
  refine ha av H0 st σ H _ S ((Post.th.mp h).imp (fun _ _ x => x) fun x st1 q v H1 ⟨S1, k1, r1⟩ => ?_)
  split at q
  case isFalse => exact q.elim
  rename_i hx
  obtain ⟨t, kvs, e1⟩ : ∃ t kvs, rs1 st1 x = some (.dic t kvs) := by
    have hx : isDicO (rs1 st1 x) = true := hx
    unfold isDicO at hx
    split at hx
    · exact ⟨_, _, by assumption⟩
    · cases hx
  have lx := r1.look S1 e1
  obtain ⟨ad, ea, hd⟩ : ∃ ad, v = .ref ad ∧ IsD H1 ad := by
    cases t with
    | false => obtain ⟨ad, ks, ea, h1, _⟩ := lx.dicK; exact ⟨ad, ea, .inl ⟨ks, .inl h1⟩⟩
    | true => obtain ⟨ad, ks, ea, h1, _⟩ := lx.dicT; exact ⟨ad, ea, .inr ⟨ks, .inl h1⟩⟩
  refine ⟨ad, ea, hd, ?_⟩
  have q := Post.th.mp q
  refine hb av H0 st1 σ H1 _ S1 ((Post.th.mp q).imp (fun _ _ x => x) fun y st2 q2 w H2 o2 => ?_)
  obtain ⟨S2, k2, r2⟩ := o2.val S1.avd
  refine hc av H0 st2 σ H2 _ S2 ((Post.th.mp q2).imp (fun _ _ x => x) fun z st3 q3 u H3 o3 => ?_)
  obtain ⟨S3, k3, r3⟩ := o3.val S2.avd
  have q3 : PoE X.K cm av H0 σ (VW av st σ) H W Q (match rs1 st3 x with | some d => outE (mtD .get d [y.2, z.2]) st3 | _ => .bad) := q3
  split at q3
  case h_2 => exact q3.elim
  rename_i d g1
  obtain ⟨fr, r, hr, hq⟩ := endE S3 ((k1.trans k2).trans k3) q3
  have rx := ((r1.kp k2).kp k3).look S3 g1
  obtain ⟨t', kvs', rfl, hk, rfl, rfl⟩ := getD_of hr
  obtain ⟨a', ea', h' | ⟨d, w', h1, h2, h3⟩⟩ := dget_of rx (.inl (r2.kp k3)) hk
  · rw [ea] at ea'
    cases ea'
    rw [h'.1] at hq
    exact ⟨none, h'.2, hq u H3 (.here r3)⟩
  · rw [ea] at ea'
    cases ea'
    rw [h1] at hq
    exact ⟨some w', h2, hq w' H3 (.here h3)⟩
/-! ### a dict's display, constants alone -/
def keyC : Cst → Option Key
  | .int i => some (.inl i)
  | .str x => some (.inr x)
  | _ => none
def vC : Cst → V
  | .non => .non | .bl b => .bl b | .int i => .int i | .str x => .str x
def cEq : Cst → Expr → Bool
  | q, .Constant v _ _ => (match q, v with | .non, .none => true | .bl b, .bool c => b == c | .int i, .int j => i == j | .str x, .str y => decide (x = y) | _, _ => false)
  | _, _ => false
/-- the pairs -/
def cPairs : Es → Es → List (Option Expr) → List Expr → Option (List (Key × Cst))
  | .nil, .nil, [], [] => some []
  | .cons (.c k) ks, .cons (.c v) vs, some ke :: kr, ve :: vr => match keyC k, cPairs ks vs kr vr with
    | some q, some l => if cEq k ke && cEq v ve then some ((q, v) :: l) else none
    | _, _ => none
  | _, _, _, _ => none
theorem pe_cst {q : Cst} {e : Expr} (h : cEq q e = true) : PE X e (tC (vC q)) := by
  unfold cEq at h
  split at h
  · split at h
    · exact pe_non
    · rw [beq_iff_eq] at h; subst h; exact pe_bl
    · rw [beq_iff_eq] at h; subst h; exact pe_int
    · rw [decide_eq_true_eq] at h; subst h; exact pe_str
    · cases h
  · cases h
theorem keyC_v {k : Cst} {q : Key} (h : keyC k = some q) : vC k = kV q ∧ cst k = keyD q ∧ keyOk false (cst k) = true := by
  cases k <;> simp only [keyC, Option.some.injEq, reduceCtorEq] at h <;> subst h <;> exact ⟨rfl, rfl, rfl⟩
theorem cPairs_ok {FT : Nat → List D → FR} : ∀ {ks vs : Es} {keys : List (Option Expr)} {values : List Expr} {l : List (Key × Cst)}, cPairs ks vs keys values = some l →
    PPs X pos keys values (l.map fun p => (tC (kV p.1), tC (vC p.2))) ∧ keys.all (·.isSome) = true ∧ keys.length = l.length ∧ values.length = l.length ∧ (∀ st, evA FT ks st = .ok (l.map fun p => keyD p.1) st ∧ evA FT vs st = .ok (l.map fun p => cst p.2) st)
  | ks, vs, keys, values, l, h => by
    unfold cPairs at h
    split at h
    · cases h
      exact ⟨pps_nil, rfl, rfl, rfl, fun st => ⟨by simp only [evA]; rfl, by simp only [evA]; rfl⟩⟩
    · rename_i k ks' v vs' ke kr ve vr
      split at h
      · rename_i q l' e1 e2
        split at h
        · rename_i hc
          cases h
          rw [Bool.and_eq_true] at hc
          obtain ⟨i1, i2, i3, i4, i5⟩ := cPairs_ok (FT := FT) e2
          obtain ⟨k1, k2, k3⟩ := keyC_v e1
          refine ⟨?_, by simpa using i2, by simp [i3], by simp [i4], fun st => ⟨?_, ?_⟩⟩
          · rw [List.map_cons]
            have := pe_cst (X := X) hc.1
            rw [k1] at this
            exact pps_cons this (pe_cst hc.2) i1
          · simp only [evA, evE, Res.th_ok, (i5 st).1, List.map_cons]
            rw [k2]
          · simp only [evA, evE, Res.th_ok, (i5 st).2, List.map_cons]
        · cases h
      · cases h
    · cases h
theorem tPairs_c {σ : L2.St} {H : Hp} : ∀ {l : List (Key × Cst)} {Q : List (V × V) → Hp → Prop}, Q (l.map fun p => (kV p.1, vC p.2)) H → tPairs (l.map fun p => (tC (kV p.1), tC (vC p.2))) σ H Q
  | [], _, h => h
  | p :: l, Q, h => tPairs_c (l := l) (Q := fun ps H3 => Q ((kV p.1, vC p.2) :: ps) H3) h
theorem r_cst {K : PySem.W.Frag} {H : Hp} {av : Addr → Prop} (q : Cst) : R K cm H av (vC q) (cst q) := by
  cases q with
  | non => exact .non
  | bl b => exact .bl b
  | int i => exact .int i
  | str x => exact .str x
theorem rp_merge {K : PySem.W.Frag} {H : Hp} {av : Addr → Prop} : ∀ (l : List (Key × Cst)) {ks : List (Key × V)} {kvs : List (D × D)}, RP keyD K cm H av ks kvs →
    RP keyD K cm H av (mergeK ks (l.map fun p => (p.1, vC p.2))) ((l.map fun p => (keyD p.1, cst p.2)).foldl (fun acc p => dput p.1 p.2 acc) kvs)
  | [], _, _, r => r
  | p :: l, _, _, r => rp_merge l (r.put keyD keyD_eq' p.1 (r_cst p.2))
theorem zip_maps {α β γ : Type} (f : α → β) (g : α → γ) : ∀ l : List α, (l.map f).zip (l.map g) = l.map fun a => (f a, g a)
  | [] => rfl
  | a :: l => by simp only [List.map_cons, List.zip_cons_cons, zip_maps f g l]
theorem keyOk_keyD (k : Key) : keyOk false (keyD k) = true := by cases k <;> rfl
theorem okE_dicC {FT : Nat → List D → FR} {ks vs : Es} {keys : List (Option Expr)} {values : List Expr} {l : List (Key × Cst)} (hp : cPairs ks vs keys values = some l) (h0 : 1 ≤ l.length) (h15 : l.length ≤ 15) :
    OkE X cm W (.Dict keys values pos) (evE FT (.dic false ks vs)) := by
  obtain ⟨i1, i2, i3, i4, i5⟩ := cPairs_ok (X := X) (pos := pos) (FT := FT) hp
  intro av H0 st σ H Q S h
  have ev : evE FT (.dic false ks vs) st = .ok (true, .dic false ((l.map fun p => (keyD p.1, cst p.2)).foldl (fun acc p => dput p.1 p.2 acc) [])) st := by
    simp only [evE, (i5 st).1, (i5 st).2, Res.th_ok]
    rw [if_pos]
    · rw [zip_maps]
    · simp only [List.length_map, beq_self_eq_true, Bool.and_true, List.all_map, List.all_eq_true]
      exact fun p _ => keyOk_keyD p.1
  rw [ev] at h
  refine semE (pe_disp i1 i2 (by rw [i3, i4]) (fun z => by rw [z] at i3; simp at i3; omega) (by omega)) ?_
  intro p hp'
  refine tPairs_c ⟨upd_same, l.map fun p => (p.1, vC p.2), by rw [List.map_map]; rfl, by simpa using h15, ?_⟩
  have h : ∀ v H', VO X.K cm av H0 σ (VW av st σ) H true (.dic false ((l.map fun p => (keyD p.1, cst p.2)).foldl (fun acc p => dput p.1 p.2 acc) [])) st v H' → Q v H' := h
  refine h _ _ (.of_vn (av0 := av) S kp0 (.fr hp' (fun b o e => ?_) (.dK upd_same (RP.rk (rp_merge l .nil)))))
  rw [upd_ne (ne_of_none e hp'), upd_ne (ne_of_none e hp')]
  exact e
end
end PD
set_option maxHeartbeats 1000000
namespace PD
open PySem PySem.Spec PyProof.Rows L2
/-! F4k: x[k] = e, x a list. -/
section
variable {X : Cx} {cm : Nat → Value} {W : WX} {av : Addr → Prop} {H0 H : Hp} {σ : L2.St} {st : List Slot} {pos : Pos}
def isLstOw (i : Nat) (st : List Slot) : Bool := match st[i]? with | some (.ow (.lst _)) => true | _ => false
theorem okS_setL {i : Nat} {x : Str} {p1 p2 : Pos} {ke ve : Expr} {fk fe : List Slot → RE} (hv : PE X (.Name x p1) (tVar i)) (hk : OkE X cm W ke fk) (he : OkE X cm W ve fe) (hs : swapsWithSole [.Subscript (.Name x p1) ke p2] ve pos.line X.env = pure false)
    (hw : swappedStores [.Subscript (.Name x p1) ke p2] ve X.env = pure none)
    (ha : ∀ v, assign (.Subscript (.Name x p1) ke p2) X.env v = (do
      let ov ← holding [v] (eval (.Name x p1) X.env)
      let iv ← holding [v, ov] (eval ke X.env)
      standAt p2
      holding [v, ov, iv] (setItem ov iv v)
      release [v, ov, iv] [])) :
    OkS X cm W (.Assign [.Subscript (.Name x p1) ke p2] ve pos) (fun st => (fe st).th fun a st => if ownedL i st then (fk st).th fun kd st => if ownedL i st then modS i st (setD kd.2 a.2) else .bad else .bad) := by
  intro av H0 st σ H D S h
  dsimp only at h
  refine semS (ps_asg (peS (X := X) (e := ve)) (pg_sub hv (peS (X := X) (e := ke)) set_list ha) hs hw rfl) ?_
  refine he.rd.bindS S kp0 h fun a st1 v H1 o1 h1 => ?_
  obtain ⟨S1, k1, r1⟩ := o1.val S.avd
  split at h1
  case isFalse => exact h1.elim
  rename_i ho
  obtain ⟨ds0, e0⟩ := ownedL_iff ho
  obtain ⟨a0, vs0, q0, ha0, _⟩ := modL (ds' := ds0) S1 e0
  refine ⟨_, q0, ?_⟩
  refine hk.rd.bindS S1 k1 h1 fun kd st2 w H2 o2 h2 => ?_
  obtain ⟨S2, k2, r2⟩ := o2.val S1.avd
  split at h2
  case isFalse => exact h2.elim
  rename_i ho2
  obtain ⟨ds, e2⟩ := ownedL_iff ho2
  obtain ⟨d1, d2, e1, e3, q⟩ := modS_lst h2
  rw [e2] at e1
  cases e1
  simp only [setD] at e3
  split at e3
  · rename_i n en
    rw [Option.map_eq_some_iff] at e3
    obtain ⟨j, hj, rfl⟩ := e3
    obtain ⟨a1, vs, qa, hb, rs, wr⟩ := modL (ds' := ds.set j a.2) S2 e2
    rw [q0] at qa; cases qa
    rw [en] at r2
    refine ⟨a0, vs, n, j, rfl, RX.int (.inl r2), hb, by rw [← ixAt_eq, rs.length]; exact hj, ?_⟩
    obtain ⟨S3, k3⟩ := wr (vs.set j v) (rs.set (r1.kp k2) j)
    exact q σ _ S3 ((k1.trans k2).trans k3)
  · cases e3
end
end PD
set_option maxHeartbeats 2000000
/-! F4l: sorted, sorted(set(xs)), len(set(xs)) of pairs; xs.pop(). -/
namespace PD
open PySem PySem.Spec PyProof.Rows L2
theorem pLe_iff {a b : Int × Int} : pLe a b = true ↔ a.1 < b.1 ∨ (a.1 = b.1 ∧ a.2 ≤ b.2) := by simp [pLe]
theorem pLe_trans (a b c : Int × Int) (h : pLe a b = true) (h' : pLe b c = true) : pLe a c = true := by
  rw [pLe_iff] at *; omega
theorem pLe_total (a b : Int × Int) : (pLe a b || pLe b a) = true := by
  rw [Bool.or_eq_true, pLe_iff, pLe_iff]; omega
theorem pLe_anti {a b : Int × Int} (h : pLe a b = true) (h' : pLe b a = true) : a = b := by
  rw [pLe_iff] at *
  exact Prod.ext (by omega) (by omega)
theorem sortP_uniq {l m : List (Int × Int)} (p : l.Perm m) (h : l.Pairwise fun a b => pLe a b = true) : l = m.mergeSort pLe := by
  refine List.Perm.eq_of_pairwise (le := fun a b => pLe a b = true) (fun a b _ _ h1 h2 => pLe_anti h1 h2) h ?_ (p.trans (List.mergeSort_perm _ _).symm)
  exact List.pairwise_mergeSort pLe_trans pLe_total m
theorem sortI_uniq {l m : List Int} (p : l.Perm m) (h : l.Pairwise (· ≤ ·)) : l = m.mergeSort fun a b => decide (a ≤ b) := by
  refine List.Perm.eq_of_pairwise (le := fun a b => a ≤ b) (fun a b _ _ h1 h2 => Int.le_antisymm h1 h2) h ?_ (p.trans (List.mergeSort_perm _ _).symm)
  exact (List.pairwise_mergeSort (le := fun a b : Int => decide (a ≤ b)) (fun a b c h1 h2 => by simp at *; omega) (fun a b => by simp; omega) m).imp fun h => by simpa using h
theorem dedP_gen : ∀ (l acc : List (Int × Int)), acc.Nodup → (l.foldl (fun σ k => if σ.any (· == k) then σ else σ ++ [k]) acc).Nodup ∧ ∀ x, x ∈ l.foldl (fun σ k => if σ.any (· == k) then σ else σ ++ [k]) acc ↔ x ∈ acc ∨ x ∈ l
  | [], acc, h => ⟨h, fun x => by simp⟩
  | a :: r, acc, h => by
    rw [List.foldl_cons]
    by_cases c : acc.any (· == a) = true
    · rw [if_pos c]
      obtain ⟨h1, h2⟩ := dedP_gen r acc h
      refine ⟨h1, fun x => ?_⟩
      rw [h2, List.mem_cons]
      have : a ∈ acc := by
        rw [List.any_eq_true] at c
        obtain ⟨y, hy, e⟩ := c
        rw [beq_iff_eq.mp e] at hy
        exact hy
      constructor
      · rintro (z | z)
        · exact .inl z
        · exact .inr (.inr z)
      · rintro (z | rfl | z)
        · exact .inl z
        · exact .inl this
        · exact .inr z
    · rw [if_neg c]
      have na : a ∉ acc := fun z => c (List.any_eq_true.mpr ⟨a, z, beq_self_eq_true _⟩)
      obtain ⟨h1, h2⟩ := dedP_gen r (acc ++ [a]) (by
        rw [List.nodup_append]
        exact ⟨h, by simp, fun x hx y hy => by simp at hy; subst hy; exact fun e => na (e ▸ hx)⟩)
      refine ⟨h1, fun x => ?_⟩
      rw [h2, List.mem_append, List.mem_singleton, List.mem_cons, or_assoc]
theorem dedP_nodup (l : List (Int × Int)) : (dedP l).Nodup := (dedP_gen l [] .nil).1
theorem mem_dedP {l : List (Int × Int)} {x : Int × Int} : x ∈ dedP l ↔ x ∈ l := by
  have := (dedP_gen l [] .nil).2 x
  simpa [dedP] using this
/-- distinct ones with the same members -/
theorem dedP_perm {l m : List (Int × Int)} (h : m.Nodup) (e : ∀ x, x ∈ m ↔ x ∈ l) : m.Perm (dedP l) :=
  (List.perm_ext_iff_of_nodup h (dedP_nodup l)).mpr fun x => by rw [mem_dedP, e]
section
variable {K : PySem.W.Frag} {cm : Nat → Value} {H H' : Hp} {av : Addr → Prop}
/-- a pair that stands at a value -/
def kAt (H : Hp) : V → Int × Int
  | .ref t => match H t with | some (.tup [.int a, .int b]) => (a, b) | _ => (0, 0)
  | _ => (0, 0)
theorem pairI_e {d : D} {p : Int × Int} (h : pairI d = some p) : d = pI p := by
  unfold pairI at h
  split at h
  · cases h; rfl
  · cases h
theorem vals_pairs : ∀ {ds : List D} {vs : List V} {ps : List (Int × Int)}, Rs K cm H av vs ds → pairsI ds = some ps → ds = ps.map pI ∧ vs.map (kAt H) = ps ∧ ∀ v ∈ vs, ∃ t, v = .ref t ∧ H t = some (.tup [.int (kAt H v).1, .int (kAt H v).2])
  | [], _, ps, .nil, e => by simp only [pairsI, Option.some.injEq] at e; subst e; exact ⟨rfl, rfl, fun v h => by cases h⟩
  | d :: r, _, ps, .cons (v := v) a q, e => by
    simp only [pairsI] at e
    split at e
    · rename_i p ps' e1 e2
      cases e
      obtain ⟨h1, h2, h3⟩ := vals_pairs q e2
      have ed := pairI_e e1
      subst ed
      unfold pI at a
      cases a with
      | tup hH rs =>
        rename_i t vs'
        cases rs with | cons r1 rs => cases rs with | cons r2 rs =>
          cases rs
          cases r1
          cases r2
          have ek : kAt H (.ref t) = p := by simp [kAt, hH]
          refine ⟨by rw [List.map_cons, h1], by rw [List.map_cons, h2, ek], fun w hw => ?_⟩
          rcases List.mem_cons.mp hw with rfl | hw
          · exact ⟨t, rfl, by rw [ek]; exact hH⟩
          · exact h3 w hw
    · cases e
theorem rs_pairs : ∀ {ys : List V}, (∀ v ∈ ys, ∃ t, v = .ref t ∧ H t = some (.tup [.int (kAt H v).1, .int (kAt H v).2])) → Rs K cm H av ys ((ys.map (kAt H)).map pI)
  | [], _ => .nil
  | y :: ys, h => by
    obtain ⟨t, rfl, ht⟩ := h y List.mem_cons_self
    exact .cons (.tup ht (.cons (.int _) (.cons (.int _) .nil))) (rs_pairs fun v hv => h v (List.mem_cons_of_mem _ hv))
theorem rs_ints : ∀ ns : List Int, Rs K cm H av (ns.map V.int) (ns.map D.int)
  | [] => .nil
  | n :: r => .cons (.int n) (rs_ints r)
theorem RX.lstI {x : V} {ds : List D} (hx : RX K cm H av x (.lst ds)) : ∃ a vs, x = .ref a ∧ H a = some (.lst vs) ∧ Rs K cm H av vs ds := hx.lst
end
section
variable {X : Cx} {cm : Nat → Value} {av : Addr → Prop}
theorem rBi_sorted2 : CallR X (.builtin "sorted") (rBi X.K cm sortedB2 av) := by
  intro pins s σ H xs us Q I r h
  obtain ⟨ds, fr, d, rx, hf, q⟩ := h
  unfold sortedB2 at hf
  split at hf
  · rename_i xs0
    rw [Option.map_eq_some_iff] at hf
    obtain ⟨ys, e, hf⟩ := hf
    cases hf
    obtain ⟨x, rfl, hx⟩ := rx1 rx
    obtain ⟨a, vs, ea, ha, rs⟩ := hx.lst
    unfold sortD2 at e
    split at e
    · cases e
    · split at e
      · rename_i ns e1
        cases e
        obtain ⟨e2, e3⟩ := vals_ints rs e1
        refine cr_sortedI pins s σ H _ us Q I r ⟨a, ns, by rw [ea], by rw [← e2]; exact SqL.of ha, fun ns' p pm pw hp => ?_⟩
        refine q _ _ (.lst hp ?_)
        rw [sortI_uniq pm pw]
        exact rs_ints _
      · split at e
        · rename_i ps e1
          cases e
          obtain ⟨e2, e3, e4⟩ := vals_pairs rs e1
          refine cr_sortedPO pins s σ H _ us Q I r ⟨a, vs, kAt H, by rw [ea], SqL.of ha, e4, fun zs p st sb hp => ?_⟩
          have pm := sb.perm
          have m4 : ∀ v ∈ zs, ∃ t, v = .ref t ∧ H t = some (.tup [.int (kAt H v).1, .int (kAt H v).2]) := fun v hv => e4 v (pm.mem_iff.mp hv)
          have eu : zs.map (kAt H) = ps.mergeSort pLe := by
            refine sortP_uniq ?_ ?_
            · rw [← e3]; exact pm.map _
            · rw [List.pairwise_map]
              refine List.Pairwise.imp (fun {x y} h => ?_) st
              have := SrtO.lexB_no.mp h
              rw [pLe_iff]
              omega
          refine q _ _ (.lst hp ?_)
          rw [← eu]
          exact rs_pairs m4
        · cases e
  · cases hf
end
end PD
set_option maxHeartbeats 2000000
/-! F4m: xs[a:b]; xs.pop(); sorted(set(xs)), len(set(xs)) of pairs. -/
namespace PD
open PySem PySem.Spec PyProof.Rows L2
/-! ### xs[a:b] -/
section
variable {X : Cx} {cm : Nat → Value} {W : WX} {a b c : Expr} {pos : Pos}
theorem okE_sl {p2 : Pos} {fa : List Slot → Res Opd} {fb fc : List Slot → RE} (ha : OkO X cm W a fa) (hb : OkE X cm W b fb) (hc : OkE X cm W c fc) :
    OkE X cm W (.Subscript a (.Slice (some b) (some c) none p2) pos) (fun st => (fa st).th fun x st => (fb st).th fun l st => match l.2 with
      | .int i => (fc st).th fun h st => match rs1 st x, h.2 with | some d, .int j => outE (slD d (some i) (some j)) st | _, _ => .bad
      | _ => .bad) := by
  intro av H0 st σ H Q S h
  dsimp only at h
  have key : ∀ av', tSl (rSlD X.K cm av') (SemE X a) (tPart (SemE X b)) (tPart (SemE X c)) σ H Q → SemE X (.Subscript a (.Slice (some b) (some c) none p2) pos) σ H Q := fun av' q =>
    semE (pe_slice (slr_d (cm := cm) (av := av')) peS (po_some peS) (po_some peS)) q
  cases h1 : fa st with
  | bad => rw [h1] at h; exact h.elim
  | exc k st' => exact key av (ha av H0 st σ H _ S (by rw [h1] at h ⊢; exact h))
  | ok x st1 =>
    rw [h1, Res.th_ok] at h
    cases h2 : fb st1 with
    | bad => rw [h2] at h; exact h.elim
    | exc k st' =>
      refine key av (ha av H0 st σ H _ S ?_)
      rw [h1]
      exact fun v H1 o1 => hb av H0 st1 σ H1 _ o1.1 (by rw [h2] at h ⊢; exact h)
    | ok l st2 =>
      rw [h2, Res.th_ok] at h
      obtain ⟨fr, ld⟩ := l
      cases ld with
      | int i =>
        dsimp only at h
        cases h3 : fc st2 with
        | bad => rw [h3] at h; exact h.elim
        | exc k st' =>
          refine key av (ha av H0 st σ H _ S ?_)
          rw [h1]
          refine fun v H1 o1 => hb av H0 st1 σ H1 _ o1.1 ?_
          rw [h2]
          intro w H2 o2
          obtain ⟨S2, k2, r2⟩ := o2.val o1.1.avd
          refine ⟨i, RX.int (.inl r2), hc av H0 st2 σ H2 _ S2 ?_⟩
          rw [h3] at h ⊢
          exact h
        | ok z st3 =>
          rw [h3, Res.th_ok] at h
          obtain ⟨fr', zd⟩ := z
          split at h
          case h_2 => exact h.elim
          rename_i d j e1 e2
          dsimp only at e2
          subst e2
          refine key (AV av st3 σ) (ha av H0 st σ H _ S ?_)
          rw [h1]
          refine fun v H1 o1 => hb av H0 st1 σ H1 _ o1.1 ?_
          rw [h2]
          intro w H2 o2
          obtain ⟨S2, k2, r2⟩ := o2.val o1.1.avd
          refine ⟨i, RX.int (.inl r2), hc av H0 st2 σ H2 _ S2 ?_⟩
          rw [h3]
          intro y H3 o3
          obtain ⟨S3, k3, r3⟩ := o3.val S2.avd
          obtain ⟨fr2, r, hr, hq⟩ := endE S3 (o1.2.1.trans (k2.trans k3)) h
          exact ⟨j, RX.int (.inl r3), d, fr2, r, (o1.2.2.kp (k2.trans k3)).look S3 e1, hr, hq⟩
      | _ => exact h.elim
end
/-! ### xs.pop() as a statement -/
section
variable {X : Cx} {cm : Nat → Value} {W : WX} {pos : Pos}
theorem okS_pop {i : Nat} {x : Str} {p1 apos cpos : Pos} (hv : PE X (.Name x p1) (tVar i)) (hline : (apos.endLine == cpos.line) = true) :
    OkS X cm W (.Expr (.Call (.Attribute (.Name x p1) "pop" apos) [] [] cpos) pos) (fun st => (popS i st popD).th fun _ st => .ok .nx st) := by
  intro av H0 st σ H D S h
  dsimp only at h
  have own : ∃ ds, st[i]? = some (.ow (.lst ds)) := by
    unfold popS at h
    split at h
    · rename_i d e
      cases d with
      | lst ds => exact ⟨ds, e⟩
      | _ => exact h.elim
    · exact h.elim
  obtain ⟨ds, e0⟩ := own
  unfold popS at h
  rw [e0] at h
  dsimp only at h
  cases hl : ds.getLast? with
  | none => rw [show popD (.lst ds) = none by simp [popD, hl]] at h; exact h.elim
  | some d =>
    rw [show popD (.lst ds) = some (d, .lst ds.dropLast) by simp [popD, hl]] at h
    obtain ⟨a, vs, q, ha, rs, wr⟩ := modL (ds' := ds.dropLast) S e0
    have hne : ds ≠ [] := fun e => by subst e; cases hl
    have ln : 0 < vs.length := by rw [rs.length]; exact List.length_pos_iff.mpr hne
    have hpe : PE X (.Call (.Attribute (.Name x p1) "pop" apos) [] [] cpos) (tBM0 X.K "list" rPop (tVar i)) := pe_bm0 PySem.F.plainAttrs_list PySem.F.slot_list_pop PySem.F.type_list_pop mt_pop hv rfl hline
    refine semS (ps_expr hpe rfl) ⟨_, q, .inl ⟨rfl, _, SqL.of ha⟩, a, vs, vs[vs.length - 1]'(by omega), rfl, rfl, ha, List.getElem?_eq_getElem _, ?_⟩
    have rd : Rs X.K cm H (AV av st σ) vs.dropLast ds.dropLast := by
      have t := rs.take (vs.length - 1)
      rw [← List.dropLast_eq_take] at t
      rw [show ds.take (vs.length - 1) = ds.dropLast by rw [List.dropLast_eq_take, rs.length]] at t
      exact t
    obtain ⟨S3, k3⟩ := wr vs.dropLast rd
    exact h σ _ S3 k3
end
/-! ### sets of pairs -/
theorem perm_of_map {α β : Type} (f : α → β) {l m : List β} (h : l.Perm m) : ∀ {L : List α}, L.map f = m → ∃ M : List α, l = M.map f ∧ M.Perm L := by
  induction h with
  | nil => intro L e; exact ⟨[], rfl, by rw [List.map_eq_nil_iff.mp e]⟩
  | cons x _ ih =>
    intro L e
    obtain ⟨a, L1, rfl, rfl, e1⟩ := List.map_eq_cons_iff.mp e
    obtain ⟨M, e2, p⟩ := ih e1
    exact ⟨a :: M, by rw [e2]; rfl, p.cons a⟩
  | swap x y l =>
    intro L e
    obtain ⟨a, L1, rfl, rfl, e1⟩ := List.map_eq_cons_iff.mp e
    obtain ⟨b, L2, rfl, rfl, rfl⟩ := List.map_eq_cons_iff.mp e1
    exact ⟨b :: a :: L2, rfl, .swap a b L2⟩
  | trans _ _ ih1 ih2 =>
    intro L e
    obtain ⟨M, e1, p1⟩ := ih2 e
    obtain ⟨N, e2, p2⟩ := ih1 e1.symm
    exact ⟨N, e2, p2.trans p1⟩
def pr2 (ns : List Int) : Int × Int := (ns.getD 0 0, ns.getD 1 0)
section
variable {P : Program} {w : World} {A : Around} {E : Value → Shared → Prop} {s : Shared}
/-- the first two numbers of a tuple at a value -/
def kV2 (h : Heap) (v : Value) : Int × Int := pr2 (TS.intsOf h v)
theorem isPair_of {h : Heap} {t : Addr} {ns : List Int} (x : IsT P w h ns t) (h2 : ns.length = 2) : Srt.IsPair h (.ref t) (kV2 h (.ref t)).1 (kV2 h (.ref t)).2 := by
  have ti : TS.TupInts h (.ref t) ns := tupInts_of x
  have ei : TS.intsOf h (.ref t) = ns := ti.ints
  unfold kV2
  rw [ei]
  obtain ⟨a, b, rfl⟩ : ∃ a b, ns = [a, b] := by
    match ns, h2 with
    | [a, b], _ => exact ⟨a, b, rfl⟩
  obtain ⟨q, its, e, ⟨o, ho, hc, n, hd⟩, hi⟩ := ti
  cases e
  obtain ⟨lst⟩ := its
  cases hi with | cons _ t1 hi => cases hi with | cons _ t2 hi =>
    cases hi
    exact ⟨t, o, t1, t2, n, rfl, ho, hc, hd⟩
/-- a set's pairs in order -/
theorem setPairs_sorted {a : Addr} {L : List (Addr × List Int)} {es : Array (Int × Value)} {ep : Nat} {t : SetTable} {Q : Value → Shared → Prop} (R : SetTR P w s.heap a L es ep t) (hh : A.handled = none) (h2 : ∀ q ∈ L, q.2.length = 2)
    (hQ : ∀ (s' : Shared) (p : Addr) (L' : List (Addr × List Int)), L'.Perm L → L'.Pairwise (fun q r => pLe (pr2 q.2) (pr2 r.2) = true) → (∀ b u, s.heap.get? b = some u → s'.heap.get? b = some u) → s'.gens = s.gens → s'.os = s.os → s.heap.objs.size ≤ p →
      (∃ c, s'.heap.get? p = some (seqObj "list" (L'.map fun q => Value.ref q.1).toArray c)) → Q (.ref p) s') :
    wpAny (model P w) A (call (.builtin "sorted") [.ref a]) Q E s := by
  have few := R.few
  have sz := R.size
  obtain ⟨ob, hob, hex, hdat⟩ := R.ob
  refine Calls.call_function_entry kind_sorted plain_sorted entry_sorted (args_sorted1 _) ?_
  unfold Builtin.«sorted»
  apply wpAny_bind (m := checkCount "sorted" 1 1 _)
  apply wpAny_pure
  apply wpAny_bind
  refine collect_set (A := A.in1) hh ⟨ob, hob, hex.1, hdat⟩ R.fits (by unfold scanBound; omega) R.tab.ris R.led ?_
  intro s1 vs keep hsize hgens hos pm
  have vals : es.toList.map (·.2) = L.map fun q => Value.ref q.1 := by rw [R.rows]; unfold rowsOf; rw [List.map_map]; rfl
  rw [vals] at pm
  obtain ⟨V1, eV, pV⟩ := perm_of_map (fun q : Addr × List Int => Value.ref q.1) pm rfl
  have lv : vs.length < 64 := by rw [pm.length_eq, List.length_map]; exact few
  apply wpAny_bind
  apply wpAny_newList _ (by rw [sizeLine_eq]; omega)
  have atL : (s1.heap.push (seqObj "list" vs.toArray 0)).get? s1.heap.objs.size = some (seqObj "list" vs.toArray 0) := Heap.get?_push_size _ rfl
  have still : ∀ q ∈ L, IsT P w (s1.heap.push (seqObj "list" vs.toArray 0)) q.2 q.1 := fun q hq => isT_keep (R.tup q hq) fun b u e => Heap.get?_push_of_some _ (keep b u e)
  have isp : ∀ v ∈ vs, Srt.IsPair (s1.heap.push (seqObj "list" vs.toArray 0)) v (kV2 (s1.heap.push (seqObj "list" vs.toArray 0)) v).1 (kV2 (s1.heap.push (seqObj "list" vs.toArray 0)) v).2 := fun v hv => by
    rw [eV] at hv
    obtain ⟨q, hq, rfl⟩ := List.mem_map.mp hv
    have hL := pV.mem_iff.mp hq
    exact isPair_of (still q hL) (h2 q hL)
  apply wpAny_bind
  apply wpAny_holding
  refine wpAny_call_entry slot_list_sort ⟨_, atL, rfl⟩ entry_list_sort (SrtO.list_sort_ord (s := { s1 with heap := s1.heap.push (seqObj "list" vs.toArray 0) }) (SrtO.swo_lex (kV2 (s1.heap.push (seqObj "list" vs.toArray 0)))) atL (by rw [sizeLine_eq]; omega) (fun l2 => ?_) fun out hs hb => ⟨.none, rfl, ?_⟩) (args_list_sort _)
  · refine SrtO.pairs_sortableO (s := { s1 with heap := s1.heap.push (seqObj "list" vs.toArray 0) }) (by omega) isp fun u e => ?_
    rw [atL] at e
    cases e
    intro z
    exact absurd (Value.type.inj z) (by decide)
  · obtain ⟨V2, e2, p2⟩ := perm_of_map (fun q : Addr × List Int => Value.ref q.1) hb.perm eV.symm
    have pL : V2.Perm L := p2.trans pV
    obtain ⟨c, hc⟩ := sortedHeap_at (out := out.toArray) atL
    apply wpAny_pure
    refine ⟨_, rfl, hQ _ s1.heap.objs.size V2 pL ?_ (fun b u e => ?_) hgens hos hsize ⟨c, by rw [← e2]; exact hc⟩⟩
    · have hs' : List.Pairwise (fun x y => SrtO.lexB (kV2 (s1.heap.push (seqObj "list" vs.toArray 0)) y) (kV2 (s1.heap.push (seqObj "list" vs.toArray 0)) x) = false) out := hs
      rw [e2, List.pairwise_map] at hs'
      refine List.Pairwise.imp_of_mem (fun {q r} hq hr hlt => ?_) hs'
      have eq : kV2 (s1.heap.push (seqObj "list" vs.toArray 0)) (.ref q.1) = pr2 q.2 := by unfold kV2; rw [(tupInts_of (still q (pL.mem_iff.mp hq))).ints]
      have er : kV2 (s1.heap.push (seqObj "list" vs.toArray 0)) (.ref r.1) = pr2 r.2 := by unfold kV2; rw [(tupInts_of (still r (pL.mem_iff.mp hr))).ints]
      rw [eq, er] at hlt
      have := SrtO.lexB_no.mp hlt
      rw [pLe_iff]
      omega
    · have g := keep b u e
      have lt := Heap.lt_size g
      show (sortedHeap (s1.heap.push (seqObj "list" vs.toArray 0)) s1.heap.objs.size vs out.toArray).get? b = some u
      rw [sortedHeap_old (Nat.ne_of_lt lt) (by rw [size_push']; exact Nat.lt_succ_of_lt lt)]
      exact Heap.get?_push_of_some _ g
end
/-! ### as rules of the layer -/
section
variable {X : Cx}
/-- sorted(s), s a set of pairs -/
def rSetPairs (K : PySem.W.Frag) (P : Program) (w : World) : List V → Hp → VK → Prop := fun vs H Q => ∃ (a : Addr) (L : List (Addr × List Int)), vs = [V.ref a] ∧ H a = some (SetTO P w a L) ∧ (∀ p ∈ L, SqT K H p.1 (p.2.map V.int)) ∧ (∀ p ∈ L, p.2.length = 2) ∧
  ∀ (M : List (Addr × List Int)) (p : Addr), M.Perm L → (M.map (·.2)).Nodup → M.Pairwise (fun q r => pLe (pr2 q.2) (pr2 r.2) = true) → H p = none → Q (.ref p) (upd H p (.lst (M.map fun q => V.ref q.1)))
theorem cr_setPairs (hc : X.calm = true) : CallR X (.builtin "sorted") (rSetPairs X.K X.prog X.w) := by
  intro pins s σ H vs us Q I r h
  obtain ⟨a, L, rfl, hset, htup, hlen, q⟩ := h
  obtain ⟨es, ep, t, R⟩ := ((I.hok a _ hset).1 : SetT0 X.prog X.w s.heap a L).full fun p hp => I.isT (htup p hp)
  rw [Vals.ref1 r]
  refine setPairs_sorted R (I.ok.hd hc) hlen ?_
  rintro ⟨hp', g', dr', tk', os'⟩ p M pm srt keep hg ho hp ⟨c, at_p⟩
  dsimp only at keep hg ho at_p
  subst hg ho
  have fresh : H p = none := I.hok.fresh hp
  have few : (M.map fun q => V.ref q.1).length ≤ sizeLine := by
    rw [List.length_map, pm.length_eq, sizeLine_eq]
    have := R.few
    omega
  have J : Inv X pins σ (upd H p (.lst (M.map fun q => V.ref q.1))) { s with heap := hp', drawn := dr', toks := tk' } :=
    I.call (ch := []) (Un.laid keep hp fresh) (I.hok.laid keep hp ⟨few, M.map (fun q => Value.ref q.1), c, vals_of_refs M, at_p⟩) I.bare (fun _ z => nomatch z)
  exact ⟨.ref p, _, J, rfl, q M p pm ((pm.map (·.2)).nodup_iff.mpr R.nd) srt fresh⟩
/-- len(s) -/
def rLenPairs (K : PySem.W.Frag) (P : Program) (w : World) : List V → Hp → VK → Prop := fun vs H Q => ∃ (a : Addr) (L : List (Addr × List Int)), vs = [V.ref a] ∧ H a = some (SetTO P w a L) ∧ (∀ p ∈ L, SqT K H p.1 (p.2.map V.int)) ∧ ((L.map (·.2)).Nodup → Q (.int L.length) H)
theorem cr_lenPairs : CallR X (.builtin "len") (rLenPairs X.K X.prog X.w) := by
  intro pins s σ H vs us Q I r h
  obtain ⟨a, L, rfl, hset, htup, q⟩ := h
  obtain ⟨es, ep, t, R⟩ := ((I.hok a _ hset).1 : SetT0 X.prog X.w s.heap a L).full fun p hp => I.isT (htup p hp)
  rw [Vals.ref1 r]
  obtain ⟨ob, hob, hex, hd⟩ := R.ob
  have few := R.few
  refine call_len_set hob hex hd R.fits (by rw [R.size]; omega) ⟨.int L.length, H, I.tok _, ⟨_, by rw [R.size]⟩, q R.nd⟩
end
section
variable {K : PySem.W.Frag} {cm : Nat → Value} {H H1 H' : Hp} {av : Addr → Prop}
theorem VN.from {fr : Bool} {d : D} {v : V} (s : Same H H1) (h : VN K cm av H1 fr d v H') : VN K cm av H fr d v H' := by
  cases h with
  | sh s2 r => exact .sh (fun b o e => s2 b o (s b o e)) r
  | @fr _ p _ n s2 r =>
    refine .fr ?_ (fun b o e => s2 b o (s b o e)) r
    cases e : H p with
    | none => rfl
    | some o => rw [s p o e] at n; cases n
/-- the pairs at a list's values, as the sets of tuples take them -/
def keysOf (H : Hp) (vs : List V) : List (Addr × List Int) := vs.map fun v => match v with | .ref t => (t, [(kAt H v).1, (kAt H v).2]) | _ => (0, [])
theorem keysOf_ref {vs : List V} (h : ∀ v ∈ vs, ∃ t, v = .ref t ∧ H t = some (.tup [.int (kAt H v).1, .int (kAt H v).2])) : (keysOf H vs).map (fun p => V.ref p.1) = vs ∧ (∀ p ∈ keysOf H vs, H p.1 = some (.tup [.int (pr2 p.2).1, .int (pr2 p.2).2]) ∧ p.2 = [(pr2 p.2).1, (pr2 p.2).2] ∧ kAt H (.ref p.1) = pr2 p.2) ∧ (keysOf H vs).map (fun p => pr2 p.2) = vs.map (kAt H) := by
  induction vs with
  | nil => exact ⟨rfl, fun p hp => (by cases hp), rfl⟩
  | cons v vs ih =>
    obtain ⟨t, rfl, ht⟩ := h v List.mem_cons_self
    obtain ⟨i1, i2, i3⟩ := ih fun v hv => h v (List.mem_cons_of_mem _ hv)
    have e : keysOf H (.ref t :: vs) = (t, [(kAt H (.ref t)).1, (kAt H (.ref t)).2]) :: keysOf H vs := rfl
    rw [e]
    refine ⟨by rw [List.map_cons, i1], fun p hp => ?_, by rw [List.map_cons, i3]; rfl⟩
    rcases List.mem_cons.mp hp with rfl | hp
    · exact ⟨ht, rfl, rfl⟩
    · exact i2 p hp
end
section
variable {X : Cx} {cm : Nat → Value} {W : WX} {a : Expr} {pos p p2 q : Pos}
def tSet (X : Cx) (a : Expr) : TE := fun σ H Q => SemA X [a] σ H fun vs H1 => rSetOfT X.K X.prog X.w vs H1 Q
theorem pe_set (hc : X.calm = true) (hu : X.A.units + 64 < cLine) (hg2 : Gl X "set") (hm2 : X.mg "set" = none) (na : starEach [a] X.env = (false, eval a X.env) :: starEach [] X.env) : PE X (.Call (.Name "set" p2) [a] [] q) (tSet X a) :=
  pe_callTy (cr_setOfT hc hu) hg2 hm2 (by decide +kernel) paS (by decide +kernel) (by decide +kernel) na rfl
/-- what a set of the pairs of a list tells -/
theorem set_of_pairs {av : Addr → Prop} {H : Hp} {l : Addr} {vs : List V} {ps : List (Int × Int)} {ds : List D} (ha : H l = some (.lst vs)) (rs : Rs X.K cm H av vs ds) (e : pairsI ds = some ps) (hl : ps.length ≤ 63) {Q : VK}
    (h : ∀ (s : Addr) (L : List (Addr × List Int)), H s = none → (∀ p ∈ L, SqT X.K H p.1 (p.2.map V.int)) → (∀ p ∈ L, H p.1 = some (.tup [.int (pr2 p.2).1, .int (pr2 p.2).2]) ∧ p.2 = [(pr2 p.2).1, (pr2 p.2).2] ∧ kAt H (.ref p.1) = pr2 p.2) → (∀ x, x ∈ L.map (fun p => pr2 p.2) ↔ x ∈ ps) → Q (.ref s) (upd H s (SetTO X.prog X.w s L))) :
    rSetOfT X.K X.prog X.w [.ref l] H Q := by
  obtain ⟨e1, e2, e3⟩ := vals_pairs rs e
  obtain ⟨k1, k2, k3⟩ := keysOf_ref e3
  have sq : ∀ p ∈ keysOf H vs, SqT X.K H p.1 (p.2.map V.int) := fun p hp => by
    obtain ⟨h1, h2, _⟩ := k2 p hp
    rw [h2]
    exact SqT.of h1
  refine ⟨l, keysOf H vs, rfl, by rw [k1]; exact SqL.of ha, sq, ?_, fun s L hs hsub hall => ?_⟩
  · have : (keysOf H vs).length = ps.length := by rw [← e2, ← k3, List.length_map]
    omega
  · refine h s L hs (fun p hp => sq p (hsub p hp)) (fun p hp => k2 p (hsub p hp)) fun x => ?_
    rw [← e2, ← k3]
    constructor
    · intro hx
      obtain ⟨p, hp, rfl⟩ := List.mem_map.mp hx
      exact List.mem_map.mpr ⟨p, hsub p hp, rfl⟩
    · intro hx
      obtain ⟨p, hp, rfl⟩ := List.mem_map.mp hx
      obtain ⟨p', hp', e'⟩ := List.mem_map.mp (hall p hp)
      exact List.mem_map.mpr ⟨p', hp', by rw [e']⟩
theorem pairs_nodup {L : List (Addr × List Int)} {H : Hp} (h : ∀ p ∈ L, H p.1 = some (.tup [.int (pr2 p.2).1, .int (pr2 p.2).2]) ∧ p.2 = [(pr2 p.2).1, (pr2 p.2).2] ∧ kAt H (.ref p.1) = pr2 p.2) (n : (L.map (·.2)).Nodup) : (L.map fun p => pr2 p.2).Nodup := by
  rw [List.nodup_iff_pairwise_ne, List.pairwise_map] at n ⊢
  refine List.Pairwise.imp_of_mem (fun {x y} hx hy ne e => ne ?_) n
  rw [(h x hx).2.1, (h y hy).2.1, e]
theorem dedI_gen : ∀ (l acc : List Int), acc.Nodup → (l.foldl (fun σ k => if σ.any (· == k) then σ else σ ++ [k]) acc).Nodup ∧ ∀ x, x ∈ l.foldl (fun σ k => if σ.any (· == k) then σ else σ ++ [k]) acc ↔ x ∈ acc ∨ x ∈ l
  | [], acc, h => ⟨h, fun x => by simp⟩
  | a :: r, acc, h => by
    rw [List.foldl_cons]
    by_cases c : acc.any (· == a) = true
    · rw [if_pos c]
      obtain ⟨h1, h2⟩ := dedI_gen r acc h
      refine ⟨h1, fun x => ?_⟩
      rw [h2, List.mem_cons]
      have ca : a ∈ acc := by
        rw [List.any_eq_true] at c
        obtain ⟨y, hy, e⟩ := c
        rw [beq_iff_eq] at e
        exact e ▸ hy
      constructor
      · rintro (h | h)
        · exact .inl h
        · exact .inr (.inr h)
      · rintro (h | h | h)
        · exact .inl h
        · exact .inl (h ▸ ca)
        · exact .inr h
    · rw [if_neg c]
      have ca : a ∉ acc := fun h => c (by rw [List.any_eq_true]; exact ⟨a, h, by simp⟩)
      obtain ⟨h1, h2⟩ := dedI_gen r (acc ++ [a]) (by
        rw [List.nodup_append]
        exact ⟨h, by simp, fun x hx y hy e => by simp at hy; subst hy; subst e; exact ca hx⟩)
      refine ⟨h1, fun x => ?_⟩
      simp only [h2, List.mem_append, List.mem_cons, List.not_mem_nil, or_false, or_assoc]
/-- set(t), a tuple of whole numbers -/
def rSetOfI (K : PySem.W.Frag) (w : World) : List V → Hp → VK → Prop := fun vs H Q => ∃ (p : Addr) (ns : List Int), vs = [V.ref p] ∧ SqT K H p (ns.map V.int) ∧ ns.length ≤ 63 ∧ ∀ (a : Addr) (c : Nat), H a = none → c ≤ ns.length → Q (.ref a) (upd H a (SetO w a (fun j => decide (j ∈ ns)) c))
theorem cr_setOfI (hc : X.calm = true) : CallR X (.type "set") (rSetOfI X.K X.w) := by
  intro pins s σ H xs us Q I r h
  obtain ⟨l, ns, rfl, hl, hf, q⟩ := h
  rw [Vals.ref1 r]
  obtain ⟨its, rv, pl, hz⟩ := I.tuple hl
  have hn : H s.heap.objs.size = none := I.hok.fresh (Nat.le_refl _)
  refine call_set_tupI (P := X.prog) (w := X.w) ns (I.ok.hd hc) (show s.heap.IsTuple l its.toArray from pl) (ints_of_vals rv) (by unfold scanBound; omega) fun h' tk c R hcn k => ?_
  exact ⟨.ref s.heap.objs.size, upd H s.heap.objs.size (SetO X.w s.heap.objs.size (fun j => decide (j ∈ ns)) c), I.laid (t' := tk) k (Nat.le_refl _) (setO_new R), rfl, q _ c hn hcn⟩
theorem pe_setI (hc : X.calm = true) (hg2 : Gl X "set") (hm2 : X.mg "set" = none) (na : starEach [a] X.env = (false, eval a X.env) :: starEach [] X.env) : PE X (.Call (.Name "set" p2) [a] [] q) (fun σ H Q => SemA X [a] σ H fun vs H1 => rSetOfI X.K X.w vs H1 Q) :=
  pe_callTy (cr_setOfI hc) hg2 hm2 (by decide +kernel) paS (by decide +kernel) (by decide +kernel) na rfl
def ruSortSetI (X : Cx) : Unit → (Addr → Prop) → V → Hp → VK → Prop := fun _ _ v H Q => rSetOfI X.K X.w [v] H fun u H2 => rSortedSet X.w [u] H2 Q
def isTupD : Option D → Bool
  | some (.tup _) => true
  | _ => false
def ruSortSet (X : Cx) : Unit → (Addr → Prop) → V → Hp → VK → Prop := fun _ _ v H Q => rSetOfT X.K X.prog X.w [v] H fun u H2 => rSetPairs X.K X.prog X.w [u] H2 Q
def ruSortSet2 (X : Cx) : Bool → (Addr → Prop) → V → Hp → VK → Prop
  | true => ruSortSetI X ()
  | false => ruSortSet X ()
def ruLenSetP (X : Cx) : Unit → (Addr → Prop) → V → Hp → VK → Prop := fun _ _ v H Q => rSetOfT X.K X.prog X.w [v] H fun u H2 => rLenPairs X.K X.prog X.w [u] H2 Q
theorem okE_sortedSet {fa : List Slot → Res Opd} (hc : X.calm = true) (hu : X.A.units + 64 < cLine) (hg : Gl X "sorted") (hm : X.mg "sorted" = none) (hg2 : Gl X "set") (hm2 : X.mg "set" = none) (na : starEach [a] X.env = (false, eval a X.env) :: starEach [] X.env) (ha : OkO X cm W a fa) :
    OkE X cm W (.Call (.Name "sorted" p) [.Call (.Name "set" p2) [a] [] q] [] pos) (fun st => (fa st).th fun x st => match rs1 st x with | some d => outE (sortedSetB [d]) st | none => .bad) := by
  refine okE_o1 (rule := ruSortSet2 X) (sel := fun x st => isTupD (rs1 st x)) (fun i av => ?_) ha fun av H0 st σ avH H H2 Q x v S k r h => ?_
  · cases i with
    | false =>
      refine ⟨fun pins s σ H Q I h => ?_⟩
      refine (pe_callB (cr_setPairs hc) hg hm (by decide +kernel) (pa_cons (pe_set hc hu hg2 hm2 na) pa_nil rfl) (by decide +kernel) (by decide +kernel) rfl rfl).run pins s σ H Q I ?_
      exact semA (pa_cons peS pa_nil na) h
    | true =>
      refine ⟨fun pins s σ H Q I h => ?_⟩
      refine (pe_callB (cr_sortedSet hc) hg hm (by decide +kernel) (pa_cons (pe_setI hc hg2 hm2 na) pa_nil rfl) (by decide +kernel) (by decide +kernel) rfl rfl).run pins s σ H Q I ?_
      exact semA (pa_cons peS pa_nil na) h
  · split at h
    · rename_i d e1
      obtain ⟨fr, r', hr, hq⟩ := endE S k h
      have lx := r.look S e1
      unfold sortedSetB at hr
      split at hr
      · rename_i ds e2
        cases e2
        dsimp only
        rw [e1]
        show rSetOfT X.K X.prog X.w [v] H2 (fun u H3 => rSetPairs X.K X.prog X.w [u] H3 Q)
        rw [Option.map_eq_some_iff] at hr
        obtain ⟨ys, ey, hr⟩ := hr
        cases hr
        unfold sortSetD at ey
        split at ey
        · cases ey
        rename_i hlen
        split at ey
        · rename_i ps ep
          cases ey
          obtain ⟨l, vs, rfl, hl, rs⟩ := lx.lst
          have lps : ps.length ≤ 63 := by
            have := (vals_pairs rs ep).1
            rw [this, List.length_map] at hlen
            omega
          refine set_of_pairs hl rs ep lps fun s L hs htup hat hmem => ?_
          have sm : Same H2 (upd H2 s (SetTO X.prog X.w s L)) := same_upd hs
          refine ⟨s, L, rfl, upd_same, fun p hp => ?_, fun p hp => by rw [(hat p hp).2.1]; rfl, fun M t pm nd srt ht => ?_⟩
          · have := (hat p hp).2.1
            rw [this]
            exact SqT.of (sm _ _ (hat p hp).1)
          · have hatM : ∀ p ∈ M, H2 p.1 = some (.tup [.int (pr2 p.2).1, .int (pr2 p.2).2]) ∧ p.2 = [(pr2 p.2).1, (pr2 p.2).2] ∧ kAt H2 (.ref p.1) = pr2 p.2 := fun p hp => hat p (pm.mem_iff.mp hp)
            have eM : M.map (fun p => pr2 p.2) = (dedP ps).mergeSort pLe := by
              refine sortP_uniq ?_ (List.pairwise_map.mpr srt)
              refine dedP_perm (pairs_nodup hatM nd) fun x => ?_
              rw [← hmem x]
              exact (pm.map _).mem_iff
            have ek : (M.map fun p => V.ref p.1).map (kAt H2) = M.map fun p => pr2 p.2 := by
              rw [List.map_map]
              exact List.map_congr_left fun p hp => (hatM p hp).2.2
            have rs2 : Rs X.K cm H2 (AV av st σ) (M.map fun p => V.ref p.1) (((dedP ps).mergeSort pLe).map pI) := by
              rw [← eM, ← ek]
              refine rs_pairs fun v hv => ?_
              obtain ⟨p, hp, rfl⟩ := List.mem_map.mp hv
              exact ⟨p.1, rfl, by rw [(hatM p hp).2.2]; exact (hatM p hp).1⟩
            exact hq _ _ (VN.from sm (.lst ht (rs2.kp (kp_s sm))))
        · cases ey
      · rename_i ds e2
        cases e2
        dsimp only
        rw [e1]
        show rSetOfI X.K X.w [v] H2 (fun u H3 => rSortedSet X.w [u] H3 Q)
        split at hr
        · rename_i ns en
          split at hr
          · rename_i lns
            cases hr
            obtain ⟨p, vs, rfl, hp, rs⟩ := lx.tup
            have ev := (vals_ints rs en).1
            subst ev
            refine ⟨p, ns, rfl, SqT.of hp, lns, fun a c ha hcn => ⟨a, _, c, rfl, upd_same, by omega, fun ms t srt mem _ ht => ?_⟩⟩
            have sm : Same H2 (upd H2 a (SetO X.w a (fun j => decide (j ∈ ns)) c)) := same_upd ha
            have em : ms = (dedI ns).mergeSort fun a b => decide (a ≤ b) := by
              refine sortI_uniq ?_ (srt.imp fun h => by omega)
              refine (List.perm_ext_iff_of_nodup (srt.imp fun h e => by omega) (dedI_gen ns [] .nil).1).mpr fun x => ?_
              rw [mem, decide_eq_true_eq]
              have := (dedI_gen ns [] .nil).2 x
              simpa [dedI] using this.symm
            rw [em]
            exact hq _ _ (VN.from sm (.lst ht (rs_ints _)))
          · cases hr
        · cases hr
      · cases hr
    · exact h.elim
def isPairsD : Option D → Bool
  | some (.lst xs) => (intsD xs).isNone
  | _ => false
def ruLen2 (X : Cx) : Bool → (Addr → Prop) → V → Hp → VK → Prop
  | true => ruLenSetP X ()
  | false => ruLenSet X.K ()
theorem okE_lenSet {fa : List Slot → Res Opd} (hc : X.calm = true) (hu : X.A.units + 64 < cLine) (hg : Gl X "len") (hm : X.mg "len" = none) (hg2 : Gl X "set") (hm2 : X.mg "set" = none) (na : starEach [a] X.env = (false, eval a X.env) :: starEach [] X.env) (ha : OkO X cm W a fa) :
    OkE X cm W (.Call (.Name "len" p) [.Call (.Name "set" p2) [a] [] q] [] pos) (fun st => (fa st).th fun x st => match rs1 st x with | some d => outE (lenSetB [d]) st | none => .bad) := by
  refine okE_o1 (rule := ruLen2 X) (sel := fun x st => isPairsD (rs1 st x)) (fun i av => ?_) ha fun av H0 st σ avH H H2 Q x v S k r h => ?_
  · cases i with
    | false => exact pe_lenSetG hc hg hm hg2 hm2 peS na
    | true =>
      refine ⟨fun pins s σ H Q I h => ?_⟩
      refine (pe_callB cr_lenPairs hg hm (by decide +kernel) (pa_cons (pe_set hc hu hg2 hm2 na) pa_nil rfl) (by decide +kernel) (by decide +kernel) rfl rfl).run pins s σ H Q I ?_
      exact semA (pa_cons peS pa_nil na) h
  · split at h
    · rename_i d e1
      obtain ⟨fr, r', hr, hq⟩ := endE S k h
      have lx := r.look S e1
      unfold lenSetB at hr
      split at hr
      · rename_i ds e2
        cases e2
        dsimp only
        rw [e1]
        cases e3 : intsD ds with
        | some ns =>
          rw [e3] at hr
          dsimp only at hr
          rw [show isPairsD (some (.lst ds)) = false by simp [isPairsD, e3]]
          split at hr
          · cases hr
            obtain ⟨a, vs, ea, ha, rs⟩ := lx.lst
            have ev := (vals_ints rs e3).1
            subst ev
            exact ⟨a, ns, ea, SqL.of ha, by omega, hq _ _ (.here (.int _))⟩
          · cases hr
        | none =>
          rw [e3] at hr
          dsimp only at hr
          rw [show isPairsD (some (.lst ds)) = true by simp [isPairsD, e3]]
          split at hr
          · rename_i ps ep
            split at hr
            · rename_i lps
              cases hr
              obtain ⟨l, vs, rfl, hl, rs⟩ := lx.lst
              show rSetOfT X.K X.prog X.w [V.ref l] H2 (fun u H3 => rLenPairs X.K X.prog X.w [u] H3 Q)
              refine set_of_pairs hl rs ep lps fun s L hs htup hat hmem => ?_
              have sm : Same H2 (upd H2 s (SetTO X.prog X.w s L)) := same_upd hs
              refine ⟨s, L, rfl, upd_same, fun p hp => ?_, fun nd => ?_⟩
              · have := (hat p hp).2.1
                rw [this]
                exact SqT.of (sm _ _ (hat p hp).1)
              · have pm := dedP_perm (pairs_nodup hat nd) hmem
                have el : (L.length : Int) = ((dedP ps).length : Int) := by rw [← pm.length_eq, List.length_map]
                rw [el]
                exact hq _ _ (VN.from sm (.here (.int _)))
            · cases hr
          · cases hr
      · cases hr
    · exact h.elim
end
end PD
set_option maxHeartbeats 1000000
/-! F4n: try .. except C as n: kept = n; isinstance of what was kept; [f, g][i](..). -/
namespace PD
open PySem PySem.Spec PyProof.Rows L2
section
variable {X : Cx} {pins : List (Addr × Obj)} {σ : L2.St} {H : Hp} {s : Shared}
/-- an object of the heap is tracked from now on -/
theorem inv_track {a : Addr} {oe : Obj} {o : HO} (I : Inv X pins σ H s) (ha : s.heap.get? a = some oe) (na : H a = none) (nL : a ≠ X.env.locals) (s0 : X.s_0.heap.get? a = none) (nc : ∀ v, oe.data ≠ .cell v)
    (np : ∀ p ∈ X.pn ++ pins, p.1 ≠ a) (new : ObjOk X.prog X.w (upd H a o) s.heap a o) : Inv X pins σ (upd H a o) s := by
  have up : ∀ b u, H b = some u → upd H a o b = some u := fun b u e => by rw [upd_ne (ne_of_none e na)]; exact e
  have n0 : ∀ b u, X.s_0.heap.get? b = some u → b ≠ a := fun b u e z => by rw [z, s0] at e; cases e
  refine ⟨I.ok, I.os, I.bare, ⟨I.base.keep, I.base.slot, fun b u e n hx => ?_, I.base.there, fun b xs e => up b _ (I.base.tups b xs e), fun b u v e => up b _ (I.base.frzs b u v e), fun b ps e => ?_⟩, I.loc, I.cell, ?_, fun x c e => ?_, fun p hp => ?_, fun b u e => ?_, I.len⟩
  · rw [upd_ne (n0 b u e)]; exact I.base.free b u e n hx
  · obtain ⟨more, q⟩ := I.base.tbls b ps e
    exact ⟨more, up b _ q⟩
  · rw [upd_ne (Ne.symm nL)]; exact I.free
  · have hc : c ≠ a := fun z => by
      obtain ⟨v, o', ho, hd⟩ := I.cell x c e
      rw [z, ha] at ho; cases ho
      exact nc _ hd
    rw [upd_ne hc]; exact I.freeC x c e
  · obtain ⟨e, n, ne, nf, d⟩ := I.pin p hp
    exact ⟨e, by rw [upd_ne (np p hp)]; exact n, ne, nf, d⟩
  · by_cases hb : b = a
    · rw [hb, upd_same] at e
      cases e
      rw [hb]; exact new
    · rw [upd_ne hb] at e
      exact (I.hok b u e).stay (fun c v hc q => q) (fun c q => up c _ q) fun c _ q => up c _ q
theorem inv_unsuiteP {a : Addr} {q : Addr × Obj} {pn' : List (Addr × Obj)} (I : Inv (X.suite a (q :: (X.pn ++ pins))) pn' σ H s) (ok : X.Ok) : Inv X (q :: pins) σ H s :=
  ⟨ok, I.os, I.bare, I.base, I.loc, I.cell, I.free, I.freeC, fun p hp => I.pin p (List.mem_append_left _ (by
    rcases List.mem_append.mp hp with h | h
    · exact List.mem_cons_of_mem _ (List.mem_append_left _ h)
    · rcases List.mem_cons.mp h with h | h
      · rw [h]; exact List.mem_cons_self
      · exact List.mem_cons_of_mem _ (List.mem_append_right _ h))), I.hok, I.len⟩
theorem inv_unpin {q : Addr × Obj} (I : Inv X (q :: pins) σ H s) : Inv X pins σ H s :=
  ⟨I.ok, I.os, I.bare, I.base, I.loc, I.cell, I.free, I.freeC, fun p hp => I.pin p (by
    rcases List.mem_append.mp hp with h | h
    · exact List.mem_append_left _ h
    · exact List.mem_append_right _ (List.mem_cons_of_mem _ h)), I.hok, I.len⟩
end
/-- what 'except x as n: kept = n' wishes -/
def wKeep (K : PySem.W.Frag) (c : Value) (i j : Nat) (Wout : WX) (D : Ends) : WX := fun cls d σ H =>
  ∃ b, PySem.W.exmOne K cls c = some b ∧ (b = true → d = none ∧ ∀ a, H a = none → D.nx (((σ.set i (some (.ref a))).set j (some (.ref a))).set i none) (upd H a (ExK cls a))) ∧ (b = false → Wout cls d σ H)
section
variable {X : Cx} {x n m : Str} {c : Value} {i j : Nat} {body : List Stmt} {np pos pos' p1 p2 sp : Pos} {tb : WX → TS} {Wout : WX}
theorem ps_try_keep (hs : X.stack = X.env :: X.outer) (hf : X.env.frame = some X.env.locals) (hex : X.ex = []) (hN : X.N.Nodup) (hi : X.N[i]? = some n) (hj : X.N[j]? = some m) (hln : X.env.kindOf n = some .local) (hlm : X.env.kindOf m = some .local)
    (hnd : (n == ("__debug__" : Str)) = false ∧ (n == ("__classdict__" : Str)) = false) (hc : Names X x c) (tk : Takes X Wout)
    (hb : ∀ (W : WX) (pn : List (Addr × Obj)) (xe : Value → Shared → Prop), Takes (X.tr pn xe) W → PassesOwn (model X.prog X.w) X.A X.env xe → PSs (X.tr pn xe) body (tb W)) :
    PS X (.Try body [.ExceptHandler (some (.Name x np)) (some n) [.Assign [.Name m p1] (.Name n p2) sp] pos'] [] [] pos) (fun D σ H => tb (wKeep X.K c i j Wout D) D σ H) := by
  refine ⟨fun pins s σ H D I h => ?_⟩
  have ok := I.ok
  have hfr : X.A.frames = some (X.env :: X.outer) := by rw [ok.frames, hs]
  have hloc : Loc X.env.scope n := .inl hln
  refine wpAny_Try_except ?_
  refine wpAny_mono ((hb (wKeep X.K c i j Wout D) (X.pn ++ pins) (fun e s₁ => wpAny (model X.prog X.w) X.A (noteFrame e X.env) (fun _ s₂ => wpAny (model X.prog X.w) X.A (setFlight e none) (fun _ s₃ =>
    wpAny (model X.prog X.w) X.A (handleBy e X.env [.ExceptHandler (some (.Name x np)) (some n) [.Assign [.Name m p1] (.Name n p2) sp] pos']) (SP X pins D) X.xe s₃) X.xe s₂) X.xe s₁) (fun u s' xx => ?_) PassesOwn.looking).run [] s σ H D (I.toTry _) h) (fun f s1 hsp => ?_) (fun e s1 he => he)
  · obtain ⟨a, B, sI, pins', σ', H', cls, d, rfl, J', nb, up, sky, na, os, ag, b, hb1, hyes, hno⟩ := xx
    have J : Inv X pins σ' H' sI := J'.ofTry ok
    have sky' : Sky B (X.env :: X.outer) a (Zc cls d) X.env.locals s'.heap := by rw [← hs]; exact sky
    show wpAny (model X.prog X.w) X.A (noteFrame (.ref a) X.env) _ _ _
    refine Sky.land Zc.steady hfr hf sky' fun h3 fl3 up3 => ?_
    have J3 : Inv X pins σ' H' { s' with heap := h3 } := J.landed nb fl3.1 (up.trans up3) os ag
    obtain ⟨oe3, vs3, he3, hz3, hd3⟩ := fl3.there
    have notFr : ∀ {h : Heap} {o : Obj} {vs : Array Value}, h.FunFrames B (X.env :: X.outer) → h.get? a = some o → o.data = .fields vs → a ∉ frs (X.env :: X.outer) := fun {h o vs} ff e dd hm => by
      obtain ⟨_, o', e', hnf⟩ := ff.mem hm
      rw [e] at e'; cases e'
      exact hnf _ dd
    have nfr := notFr fl3.2.2.1 he3 hd3
    have nL : a ≠ X.env.locals := fun z => nfr (List.mem_filterMap.mpr ⟨X.env, List.mem_cons_self, by rw [hf, z]⟩)
    have nF : a ∉ X.fs := fun hm => by
      obtain ⟨e, he, q⟩ := List.mem_filterMap.mp hm
      exact nfr (List.mem_filterMap.mpr ⟨e, List.mem_cons_of_mem _ he, q⟩)
    have nB : B.get? a = none := fl3.2.1
    have nS : a ∉ frs X.stack := by rw [hs]; exact nfr
    have s0 : X.s_0.heap.get? a = none := by
      cases e : X.s_0.heap.get? a with
      | none => rfl
      | some o =>
        obtain ⟨o', e'⟩ := J.base.there a o e (by rw [hex]; simp)
        rw [nb a o' e' nS] at nB; cases nB
    have np' : ∀ p ∈ X.pn ++ pins, p.1 ≠ a := fun p hp z => by
      obtain ⟨e, n', ne, nf, _⟩ := J.pin p hp
      have : p.1 ∉ frs X.stack := by
        rw [hs]
        intro hm
        obtain ⟨e', he, q⟩ := List.mem_filterMap.mp hm
        rcases List.mem_cons.mp he with w | w
        · subst w; rw [hf] at q; exact ne (Option.some.inj q).symm
        · exact nf (List.mem_filterMap.mpr ⟨e', w, q⟩)
      rw [z] at e this
      rw [nb a _ e this] at nB; cases nB
    have S3 := J3.suite he3 hd3 na nL nF
    refine wpAny_handleBy_cons (codeAny_handlers_test ?_) (by intro q; cases q)
    have LT : PySem.W.Looks (model X.prog X.w) h3 (typeOf (.ref a)) cls := fun A Q E s k q => wpAny_typeOf_ref (k _ _ he3) (by rw [hz3.1]; exact q)
    have LM := PySem.W.exm_one (M := model X.prog X.w) (J3.kIn) LT hb1
    have test : ∀ {Q : Value → Shared → Prop} {E : Value → Shared → Prop}, Q c { s' with heap := h3 } → wpAny (model X.prog X.w) (X.A.mark (some (.ref a))) (eval (.Name x np) X.env) Q E { s' with heap := h3 } := fun {Q E} q => by
      obtain ⟨hg, hdbg, hm | ⟨hm, hv, hnn⟩⟩ := hc
      · exact ld_glob (X := X.suite a ((a, oe3) :: (X.pn ++ pins))) S3 hg hm q hdbg
      · exact ld_blt (X := X.suite a ((a, oe3) :: (X.pn ++ pins))) S3 hg hm hv q hnn hdbg
    refine test (LM.here ?_)
    cases b with
    | true =>
      obtain ⟨rfl, hyes'⟩ := hyes rfl
      refine codeAny_handlers_suite_as ?_
      refine HandSPX.lands_againZ fl3 fun h4 fl4 up4 => ?_
      have J4 : Inv X pins σ' H' { s' with heap := h4 } := J.landed nb fl4.1 ((up.trans up3).trans up4) os ag
      obtain ⟨oe4, vs4, he4, hz4, hd4⟩ := fl4.there
      have S4 := J4.suite he4 hd4 na nL nF
      refine store_ok (X := X.suite a ((a, oe4) :: (X.pn ++ pins))) (v := .ref a) S4 hN hi hloc rfl (fun s5 S5 => ?_) (.inr hln)
      have li : i < σ'.length := by rw [J.len]; exact (List.getElem?_eq_some_iff.mp hi).1
      have hss : PSs (X.suite a ((a, oe4) :: (X.pn ++ pins))) [.Assign [.Name m p1] (.Name n p2) sp] _ :=
        pss_one (ps_set (i := j) (X := X.suite a ((a, oe4) :: (X.pn ++ pins))) hN hj (.inl hlm) (pe_var (i := i) hi (.inl hln) hnd.1 hnd.2) (hf := .inr hlm))
      refine wpAny_mono (hss.run [] s5 _ H' { nx := fun σ6 H6 => σ6 = (σ'.set i (some (.ref a))).set j (some (.ref a)) ∧ H6 = H', rt := fun _ _ => False, bk := fun _ _ => False, ct := fun _ _ => False } S5 ⟨_, List.getElem?_set_self li, rfl, rfl⟩) (fun f s6 hsp => ?_) (fun _ _ z => False.elim z)
      have end_ : ∀ {σ6 : L2.St} {H6 : Hp} {Q : Shared → Prop}, Inv (X.suite a ((a, oe4) :: (X.pn ++ pins))) [] σ6 H6 s6 → (∀ s7, Inv X ((a, oe4) :: pins) (σ6.set i none) H6 s7 → Q s7) →
          wpAny (model X.prog X.w) X.A (do bindName X.env n .none; unbindBehindTheSuite X.env n pos') (fun _ s7 => Q s7) X.xe s6 := fun {σ6 H6 Q} S6 hq => gone_ok (inv_unsuiteP S6 ok) hN hi hln hq
      cases f with
      | next =>
        obtain ⟨σ6, H6, S6, e6, eH⟩ := hsp
        refine end_ S6 fun s7 J7 => ?_
        subst e6 eH
        obtain ⟨q1, _, _, _, q5⟩ := J7.pin (a, oe4) (List.mem_append_right _ List.mem_cons_self)
        refine ⟨_, _, inv_track (inv_unpin J7) q1 na nL s0 q5 np' ?_, hyes' a na⟩
        exact ⟨⟨oe4, vs4, q1, hz4, hd4⟩, ⟨_, q1⟩, fun h1 h2 ⟨oe, vs, e1, e2, e3⟩ st => ⟨oe, vs, st _ e1, e2, e3⟩⟩
      | brk =>
        obtain ⟨σ6, H6, S6, e6⟩ := hsp
        exact e6.elim
      | cont => 
        obtain ⟨σ6, H6, S6, e6⟩ := hsp
        exact e6.elim
      | ret u =>
        obtain ⟨v6, σ6, H6, S6, r6, q6⟩ := hsp
        exact q6.elim
    | false =>
      show wpAny _ X.A (handleBy (.ref a) X.env []) _ _ _
      refine wpAny_handleBy_nil ?_
      obtain ⟨k1, k2, k3, oe, vs, T, oT, ts', he, hz, hd, h1, hr⟩ := id fl3
      unfold PySem.passOn
      refine wpAny_bind (wpAny_field he hd h1 ?_)
      rw [if_neg (show ¬ ((Value.ref T == Value.none) = true) from by simp)]
      have fin : wpAny (model X.prog X.w) X.A (setFlight (.ref a) X.env.frame) (fun _ s4 => wpAny (model X.prog X.w) X.A (throw (.ref a) : Sem Flow) (SP X pins D) X.xe s4) X.xe { s' with heap := h3 } := by
        rw [hf]
        refine HandSPX.setFlight_upZ fl3 fun h4 hh4 up4 => wpAny_throw (tk _ _ ?_)
        exact ⟨a, B, sI, pins, σ', H', cls, d, rfl, J, nb, (up.trans up3).trans up4, .inr (.inr (by rw [hs]; exact hh4)), na, os, ag, hno rfl⟩
      first
        | exact wpAny_bind (wpAny_pure (wpAny_bind fin))
        | exact wpAny_bind fin
  · cases f with
    | next =>
      obtain ⟨σ', H', J', q⟩ := hsp
      exact wpAny_execs_nil ⟨σ', H', J'.ofTry ok, q⟩
    | brk =>
      obtain ⟨σ', H', J', q⟩ := hsp
      exact ⟨σ', H', J'.ofTry ok, q⟩
    | cont =>
      obtain ⟨σ', H', J', q⟩ := hsp
      exact ⟨σ', H', J'.ofTry ok, q⟩
    | ret u =>
      obtain ⟨v, σ', H', J', r, q⟩ := hsp
      exact ⟨v, σ', H', J'.ofTry ok, r, q⟩
end
end PD
set_option maxHeartbeats 1000000
namespace PD
open PySem PySem.Spec PyProof.Rows L2
section
variable {K : PySem.W.Frag} {cm : Nat → Value} {av : Addr → Prop} {H0 H : Hp} {st : List Slot} {σ : L2.St}
/-- a name goes -/
theorem SRel.clear {i : Nat} (S : SRel K cm av H0 st σ H) : SRel K cm av H0 (st.set i .no) (σ.set i none) H ∧ Kp (VW av st σ) H (VW av (st.set i .no) (σ.set i none)) H := by
  have kp : Kp (VW av st σ) H (VW av (st.set i .no) (σ.set i none)) H := .of_sub vw_le (fun a h => h.imp id fun h => (own_store h).elim id fun z => by cases z.1) fun a h => (owm_store h).elim id fun z => by obtain ⟨⟨d', z⟩, _⟩ := z; cases z
  refine ⟨⟨by rw [List.length_set, List.length_set]; exact S.len, fun j d' e' => ?_, fun j s' d' e' h' => ?_, fun j k s' t a' e1 e2 o1 o2 q1 q2 => ?_, S.avd, S.base⟩, kp⟩
  · rcases getSet e' with ⟨rfl, w, _⟩ | ⟨hj, e'⟩
    · cases w
    · obtain ⟨v', q', r'⟩ := S.sh j d' e'
      exact ⟨v', by rw [List.getElem?_set_ne (Ne.symm hj)]; exact q', r'.kp kp⟩
  · rcases getSet e' with ⟨rfl, w, _⟩ | ⟨hj, e'⟩
    · subst w; rcases h' with h' | h' <;> cases h'
    · obtain ⟨b, q', n', z', r'⟩ := S.ow j s' d' e' h'
      exact ⟨b, by rw [List.getElem?_set_ne (Ne.symm hj)]; exact q', n', z', r'.kp kp fun _ x => x⟩
  · rcases getSet e1 with ⟨rfl, rfl, _⟩ | ⟨h1, e1⟩
    · cases o1
    · rcases getSet e2 with ⟨rfl, rfl, _⟩ | ⟨h2, e2⟩
      · cases o2
      · rw [List.getElem?_set_ne (Ne.symm h1)] at q1
        rw [List.getElem?_set_ne (Ne.symm h2)] at q2
        exact S.dist j k s' t a' e1 e2 o1 o2 q1 q2
theorem noOwn_at (h : noOwn st = true) {i : Nat} {s : Slot} (e : st[i]? = some s) : isOw s = false := by
  have := List.all_eq_true.mp h s (List.mem_of_getElem? e)
  cases s <;> first | rfl | cases this
theorem noOwn_own (h : noOwn st = true) {a : Addr} : ¬ OwnA st σ a := fun ⟨i, s, e, o, _⟩ => by rw [noOwn_at h e] at o; cases o
/-- with nothing owned, this heap may be the entry's -/
theorem SRel.enter (S : SRel K cm av H0 st σ H) (h : noOwn st = true) : SRel K cm av H st σ H :=
  ⟨S.len, S.sh, fun i s d e q => (by have := noOwn_at h e; rcases q with rfl | rfl <;> cases this), S.dist, S.avd, Same.refl H⟩
theorem SRel.exit {H' : Hp} {st' : List Slot} {σ' : L2.St} (S : SRel K cm av H0 st σ H) (h : noOwn st = true) (S' : SRel K cm av H st' σ' H') : SRel K cm av H0 st' σ' H' ∧ Kp (VW av st σ) H (VW av st' σ') H' := by
  refine ⟨⟨S'.len, S'.sh, fun i s d e q => ?_, S'.dist, S'.avd, S.base.trans S'.base⟩, ⟨vw_le, fun a o e n z => ?_, fun a o e n z => ?_, fun b o e _ => S'.base b o e, fun b o e _ => S'.base b o e, Same.dom S'.base⟩⟩
  · obtain ⟨a, h1, h2, h3, h4⟩ := S'.ow i s d e q
    refine ⟨a, h1, h2, ?_, h4⟩
    cases e0 : H0 a with
    | none => rfl
    | some o => rw [S.base a o e0] at h3; cases h3
  · rcases z with z | z
    · exact n (.inl z)
    · have := (S'.own z).2.1
      rw [e] at this; cases this
  · obtain ⟨i, d, e1, q⟩ := z
    have := (S'.own ⟨i, _, e1, rfl, q⟩).2.1
    rw [e] at this; cases this
end
section
variable {X : Cx} {cm : Nat → Value} {W : WX} {pos : Pos}
theorem okS_tryKeep {x n m : Str} {i j c lim : Nat} {body : List Stmt} {np pos' p1 p2 sp : Pos} {fb : List Slot → RS} (hs : X.stack = X.env :: X.outer) (hf : X.env.frame = some X.env.locals) (hex : X.ex = []) (hN : X.N.Nodup) (hi : X.N[i]? = some n) (hj : X.N[j]? = some m) (hij : i ≠ j)
    (hln : X.env.kindOf n = some .local) (hlm : X.env.kindOf m = some .local) (hnd : (n == ("__debug__" : Str)) = false ∧ (n == ("__classdict__" : Str)) = false) (hc : Names X x (cm c)) (tk : Takes X W)
    (hm : ∀ k, k < lim → excIs c k = true → PySem.W.exmOne X.K (cm k) (cm c) = some true)
    (hb : ∀ (W' : WX) (pn : List (Addr × Obj)) (xe : Value → Shared → Prop), Takes (X.tr pn xe) W' → PassesOwn (model X.prog X.w) X.A X.env xe → OkSs (X.tr pn xe) cm W' body fb) :
    OkS X cm W (.Try body [.ExceptHandler (some (.Name x np)) (some n) [.Assign [.Name m p1] (.Name n p2) sp] pos'] [] [] pos) (fun st => if noOwn st then match fb st with
      | .exc k st' => if excIs c k && decide (k < lim) && decide (i < st'.length) && decide (j < st'.length) then .ok .nx ((st'.set i .no).set j (.sh (.exc k))) else .bad
      | r => r else .bad) := by
  intro av H0 st σ H D S h
  dsimp only at h
  split at h
  case isFalse => exact h.elim
  rename_i hno
  refine semS (ps_try_keep (i := i) (j := j) (tb := fun W' D σ H => ∀ (pn : List (Addr × Obj)) (xe : Value → Shared → Prop), Takes (X.tr pn xe) W' → PassesOwn (model X.prog X.w) X.A X.env xe → SemSs (X.tr pn xe) body D σ H) hs hf hex hN hi hj hln hlm hnd hc tk
    (fun W' pn xe tk' hp' => ⟨fun pins s σ H D I h => h pn xe tk' hp' pins s I⟩)) ?_
  intro pn xe tk' hp'
  refine hb _ pn xe tk' hp' av H st σ H D (S.enter hno) ?_
  cases hfb : fb st with
  | bad => rw [hfb] at h; exact h
  | ok fl st' =>
    rw [hfb] at h
    have h : PF X.K cm av H0 (VW av st σ) H D fl st' := h
    show PF X.K cm av H (VW av st σ) H D fl st'
    cases fl with
    | nx => exact fun σ' H' S' k' => h σ' H' (S.exit hno S').1 k'
    | bk => exact fun σ' H' S' k' => h σ' H' (S.exit hno S').1 k'
    | ct => exact fun σ' H' S' k' => h σ' H' (S.exit hno S').1 k'
    | rt fr d => exact fun v H' q => h v H' (.from S.base q)
  | exc k st' =>
    rw [hfb] at h
    dsimp only at h
    split at h
    case isFalse => exact h.elim
    rename_i hk
    simp only [Bool.and_eq_true, decide_eq_true_eq] at hk
    obtain ⟨⟨⟨h1, h2⟩, h3⟩, h4⟩ := hk
    intro σ' H' S'
    refine ⟨true, hm k h2 h1, fun _ => ⟨rfl, fun a na => ?_⟩, fun z => by cases z⟩
    obtain ⟨S1, k1⟩ := S.exit hno S'
    have sm : Same H' (upd H' a (ExK (cm k) a)) := same_upd na
    have S2 := S1.same sm
    obtain ⟨S3, k3⟩ := S2.clear (i := i)
    have r : R X.K cm (upd H' a (ExK (cm k) a)) (AV av (st'.set i .no) (σ'.set i none)) (.ref a) (.exc k) := .exc upd_same
    obtain ⟨S4, k4⟩ := S3.store (i := j) (by rw [List.length_set]; exact h4) r
    have e : ((σ'.set i (some (V.ref a))).set j (some (V.ref a))).set i none = (σ'.set i none).set j (some (V.ref a)) := by
      rw [List.set_comm _ _ (Ne.symm hij), List.set_set]
    rw [e]
    exact h _ _ S4 (k1.trans ((Kp.of_same sm vw_le).trans (k3.trans k4)))
end
end PD
set_option maxHeartbeats 1000000
namespace PD
open PySem PySem.Spec PyProof.Rows L2
/-! F4p: isinstance of a kept exception; [f, g][i](..). -/
/-- what is known of the exception class k -/
structure ExI (K : PySem.W.Frag) (cm : Nat → Value) (ex : Nat → Option Str) (k : Nat) : Prop where
  all : ∃ C : Addr, cm k = .ref C ∧ ExcC K C ∧ PySem.W.typeIn K (.ref C) = some (.type "type") ∧ PySem.W.subIn K (.ref C) (.type "ValueError") = some true ∧
    ∀ (c : Nat) (y : Str) , ex c = some y → PySem.W.subIn K (.ref C) (cm c) = some (excIs c k)
section
variable {K : PySem.W.Frag} {cm : Nat → Value} {ex : Nat → Option Str}
theorem ExI.kit {k c : Nat} {y : Str} (h : ExI K cm ex k) (hc : ExI K cm ex c) (e : ex c = some y) : ∃ C : Addr, cm k = .ref C ∧ PySem.W.kitOne K (.ref C) (cm c) = some (excIs c k) ∧ PySem.W.exmOne K (cm k) (cm c) = some (excIs c k) := by
  obtain ⟨C, h1, h2, h3, h4, h5⟩ := h.all
  obtain ⟨C', g1, g2, g3, g4, g5⟩ := hc.all
  have s := h5 c y e
  refine ⟨C, h1, ?_, ?_⟩
  · unfold PySem.W.kitOne
    rw [g1] at s ⊢
    split
    · rename_i q
      have q : C = C' := Value.ref.inj (beq_iff_eq.mp q)
      subst q
      have s' := g5 c y e
      rw [g1] at s'
      have : excIs c c = true := by unfold excIs; simp
      rw [this] at s'
      rw [← s, s']
    · unfold PySem.W.kitCls
      dsimp only
      have hd := g2.hd
      obtain ⟨cd, hcd, _⟩ := PySem.W.any_some hd
      rw [if_pos (by rw [hcd, g3]; rfl)]
      exact s
  · rw [h1, g1] at *
    exact PySem.W.exm_ref g2.hs g2.hd g3 s
theorem ExI.kitV {k : Nat} (h : ExI K cm ex k) : ∃ C : Addr, cm k = .ref C ∧ PySem.W.kitOne K (.ref C) (.type "ValueError") = some true := by
  obtain ⟨C, h1, h2, h3, h4, h5⟩ := h.all
  refine ⟨C, h1, ?_⟩
  unfold PySem.W.kitOne
  rw [if_neg (by intro q; cases beq_iff_eq.mp q)]
  unfold PySem.W.kitCls
  dsimp only
  rw [if_pos (by decide +kernel)]
  exact h4
end
section
variable {X : Cx} {cm : Nat → Value} {W : WX} {a b c e : Expr} {pos p : Pos} {ex : Nat → Option Str}
/-- isinstance(x, c), x an exception that was kept -/
def rIsK (K : PySem.W.Frag) : List V → Hp → VK → Prop := fun xs H Q => ∃ (a D : Addr) (c : V) (cv : Value) (b : Bool), xs = [.ref a, c] ∧ H a = some (ExK (.ref D) a) ∧ ExcC K D ∧ (∀ u, RelV c u → u = cv) ∧ PySem.W.kitOne K (.ref D) cv = some b ∧ Q (.bl b) H
theorem call_isK : CallR X (.builtin "isinstance") (rIsK X.K) := by
  intro pins s σ H xs us Q I r h
  obtain ⟨a, D, c, cv, b, rfl, ha, C, hcv, e, q⟩ := h
  cases r with
  | cons rx rr =>
    cases rr with
    | cons rt rr =>
      cases rr
      cases rx
      have ec := hcv _ rt
      subst ec
      obtain ⟨⟨oe, vs, hget, hz, hv⟩, _, _⟩ := (show ObjOk X.prog X.w H s.heap a (ExK (.ref D) a) from I.hok a _ ha)
      have J : PySem.W.InstAt s.heap a oe D none := by
        obtain ⟨oc, od, oda, osl⟩ := oe
        obtain ⟨h1, h2⟩ := hz
        dsimp only at h1 h2 hv
        subst h1 h2 hv
        exact ⟨hget, rfl, rfl, trivial⟩
      exact PySem.W.kia_one (PySem.W.handS_kitx_exc C.hg C.hk C.hs C.hd C.ha C.hn C.ht C.hm) I.kIn J e (fun z => nomatch z) fun tk => ⟨.bl b, H, I.kept (t' := tk) fun _ _ z => z, rfl, q⟩
def ruIsK (K : PySem.W.Frag) (cm : Nat → Value) (n : Bi) : Unit → (Addr → Prop) → V → Hp → VK → Prop := fun _ av v H Q => ∃ d, RX K cm H av v d ∧ okIs n d = true ∧ Q (.bl (isD n d)) H
theorem okIs_exc {c n : Nat} {d : D} (h : okIs (.isExc c n) d = true) : ∃ k, d = .exc k ∧ k < n := by
  cases d <;> simp only [okIs, Bool.false_eq_true, decide_eq_true_eq] at h
  exact ⟨_, rfl, h⟩
/-- the second operand: the class c -/
theorem okE_isX {c n : Nat} {cv : V} {cw : Value} {fa : List Slot → Res Opd} {T : Str} {p2 : Pos} (hg : Gl X "isinstance") (hm : X.mg "isinstance" = none) (hT : PE X (.Name T p2) (tC cv)) (hcv : ∀ u, RelV cv u → u = cw)
    (hk : ∀ k, k < n → ∃ C : Addr, cm k = .ref C ∧ ExcC X.K C ∧ PySem.W.kitOne X.K (.ref C) cw = some (excIs c k))
    (hs : starEach [a, .Name T p2] X.env = (false, eval a X.env) :: starEach [.Name T p2] X.env) (ha : OkO X cm W a fa) :
    OkE X cm W (.Call (.Name "isinstance" p) [a, .Name T p2] [] pos) (fun st => (fa st).th fun x st => match rs1 st x with | some d => outE (biD (.isExc c n) [d]) st | none => .bad) := by
  refine okE_o1 (rule := ruIsK X.K cm (.isExc c n)) (sel := fun _ _ => ()) (fun i av => ?_) ha fun av H0 st σ avH H H2 Q x v S k r h => ?_
  · have pe := pe_callB (p := p) (pos := pos) call_isK hg hm PyProof.Rows.boot_isinstance (pa_cons (peS (X := X) (e := a)) (pa_cons hT pa_nil rfl) hs) (by decide) (by decide) hs rfl
    refine ⟨fun pins s σ H Q I h => pe.run pins s σ H Q I (semE_mono h fun v H' ⟨d, rx, ho, q⟩ => ?_)⟩
    obtain ⟨k, rfl, hkn⟩ := okIs_exc ho
    obtain ⟨C, h1, h2, h3⟩ := hk k hkn
    obtain ⟨a', rfl, ha'⟩ := rx.exc
    rw [h1] at ha'
    exact ⟨a', C, cv, cw, _, rfl, ha', h2, hcv, h3, q⟩
  · split at h
    · rename_i d e1
      obtain ⟨fr, r', hr, hq⟩ := endE S k h
      rw [show biD (.isExc c n) [d] = isB (.isExc c n) [d] from rfl] at hr
      simp only [isB] at hr
      split at hr
      · rename_i ho
        cases hr
        exact ⟨d, r.look S e1, ho, hq _ _ (.here (.bl _))⟩
      · cases hr
    · exact h.elim
/-! ### [f, g][i](e, ..) -/
/-- names of defs -/
def tNames : List Addr → TA
  | [] => tNil
  | a :: r => tCons (tC (.ref a)) (tNames r)
theorem tNames_go : ∀ {l : List Addr} {σ : L2.St} {H : Hp} {Q : List V → Hp → Prop}, Q (l.map V.ref) H → tNames l σ H Q
  | [], σ, H, Q, h => h
  | a :: r, σ, H, Q, h => tNames_go (l := r) h
inductive NamesAt (X : Cx) (cm : Nat → Value) (k : Nat) (FT : Nat → List D → FR) : List Nat → List Expr → List Addr → Prop
  | nil : NamesAt X cm k FT [] [] []
  | cons {f : Nat} {x : Str} {p : Pos} {a : Addr} {np : Nat} {fd : FuncData} {ps : List Str} {fs : List Nat} {es : List Expr} {as : List Addr} : Gl X x → (x == ("__debug__" : Str)) = false → X.mg x = some (.ref a) →
      FnOk X.prog X.w X.K X.mg X.base (L2.CX X.prog X.w) k a fd ps (spF X.K cm (FT f) np) → PySem.W.keepIn X.K (.ref a) = true → Binds X.K fd ps [] → (∀ ds, FT f ds ≠ .bad → ds.length = np) → NamesAt X cm k FT fs es as → NamesAt X cm k FT (f :: fs) (.Name x p :: es) (a :: as)
theorem NamesAt.pa {k : Nat} {FT : Nat → List D → FR} {fs : List Nat} {es : List Expr} {as : List Addr} (h : NamesAt X cm k FT fs es as) : PA X es (tNames as) := by
  induction h with
  | nil => exact pa_nil
  | cons g d m _ _ _ _ _ ih => exact pa_cons (pe_glob g m rfl d) ih rfl
theorem NamesAt.len {k : Nat} {FT : Nat → List D → FR} {fs : List Nat} {es : List Expr} {as : List Addr} (h : NamesAt X cm k FT fs es as) : as.length = fs.length := by
  induction h with
  | nil => rfl
  | cons _ _ _ _ _ _ _ _ ih => simp [ih]
theorem NamesAt.get {k : Nat} {FT : Nat → List D → FR} {fs : List Nat} {es : List Expr} {as : List Addr} (h : NamesAt X cm k FT fs es as) {j f : Nat} (e : fs[j]? = some f) : ∃ (a : Addr) (fd : FuncData) (ps : List Str) (np : Nat), as[j]? = some a ∧
    FnOk X.prog X.w X.K X.mg X.base (L2.CX X.prog X.w) k a fd ps (spF X.K cm (FT f) np) ∧ PySem.W.keepIn X.K (.ref a) = true ∧ Binds X.K fd ps [] ∧ (∀ ds, FT f ds ≠ .bad → ds.length = np) := by
  induction h generalizing j with
  | nil => simp at e
  | cons g d m h1 h2 h3 h4 _ ih =>
    cases j with
    | zero => simp at e; subst e; exact ⟨_, _, _, _, rfl, h1, h2, h3, h4⟩
    | succ j => simpa using ih (by simpa using e)
/-- what a call of a def at a value does -/
def tCallV (X : Cx) (cm : Nat → Value) (k : Nat) (E : L2.St → XK) (t : TA) (f : V) : TE := fun σ H Q => ∃ (a : Addr) (fd : FuncData) (ps : List Str) (g : List D → FR) (np : Nat), f = .ref a ∧
  FnOk X.prog X.w X.K X.mg X.base (L2.CX X.prog X.w) k a fd ps (spF X.K cm g np) ∧ PySem.W.keepIn X.K (.ref a) = true ∧ Binds X.K fd ps [] ∧ t σ H fun vs H1 => spF X.K cm g np vs H1 Q (E σ)
theorem pe_callV {func : Expr} {tf : TE} {t : TA} {k : Nat} {E : L2.St → XK} {es : List Expr} (hr : Room k X.A) (hx : ∀ σ, PassesAt (L2.CX X.prog X.w) X σ (E σ)) (hf : PE X func tf) (ha : PA X (e :: es) t)
    (he : starEach (e :: es) X.env = (false, eval e X.env) :: starEach es X.env) (hpl : (backTo pos (starEach es X.env)).any (·.1) = false)
    (hev : eval (.Call func (e :: es) [] pos) X.env = (do callWith pos (← eval func X.env) [] (backTo pos (starEach (e :: es) X.env)) (backToKw pos (keywordEach [] X.env)))) :
    PE X (.Call func (e :: es) [] pos) (fun σ H Q => tf σ H fun f H1 => tCallV X cm k E t f σ H1 Q) := by
  refine ⟨fun pins s σ H Q I h => ?_⟩
  refine Call_ (thn (hf.run pins s σ H _ I h) fun u s1 ⟨f, H1, I1, r1, q1⟩ => ?_) hev
  obtain ⟨a, fd, ps, g, np, rfl, F, hk, hb, q⟩ := q1
  cases r1
  refine PySem.W.callWith_K (h₀ := X.base) I1.ok.mod.kin hk (thn (ha.run pos pins s1 σ H1 _ I1 q) fun us s2 ⟨vs, H2, I2, r, q2⟩ => ⟨I2.kIn, ?_⟩) he hpl
  exact run_fnS F hr hb (hx σ) I2 r q2
theorem okE_callIx {k : Nat} {FT : Nat → List D → FR} {fs : List Nat} {ns : List Expr} {as : List Addr} {ie : Expr} {es : List Expr} {p1 p2 : Pos} {fi : List Slot → RE} {fa : List Slot → Res (List D)} (N : NamesAt X cm k FT fs ns as) (hr : Room k X.A) (tk : Takes X W) (hix : PlainIx ie) (hn : fs.length ≤ 1000)
    (hi : OkE X cm W ie fi) (ha : OkA X cm W (e :: es) fa) (he : starEach (e :: es) X.env = (false, eval e X.env) :: starEach es X.env) (hpl : (backTo pos (starEach es X.env)).any (·.1) = false) :
    OkE X cm W (.Call (.Subscript (.List ns p1) ie p2) (e :: es) [] pos) (fun st => (fi st).th fun kd st => match kd.2 with
      | .int i => match (ixAt fs.length i).bind fun j => fs[j]? with
        | some f => (fa st).th fun ds st => outF (FT f ds) st
        | none => .bad
      | _ => .bad) := by
  intro av H0 st σ H Q S h
  refine semE (pe_callV (cm := cm) (E := WE W) hr (passAt tk) (pe_ix ix_list (pe_lst N.pa) (peS (X := X) (e := ie)) hix) paS he hpl rfl) ?_
  refine tNames_go ⟨by rw [List.length_map, N.len, sizeLine_eq]; omega, fun pl hp => ?_⟩
  have sm : Same H (upd H pl (.lst (as.map V.ref))) := same_upd hp
  have S1 := S.same sm
  have k1 : Kp (VW av st σ) H (VW av st σ) (upd H pl (.lst (as.map V.ref))) := .of_same sm vw_le
  refine hi av H0 st σ _ _ S1 ((Post.th.mp h).imp (fun _ _ x => x) fun kd st2 q v H2 o2 => ?_)
  obtain ⟨S2, k2, r2⟩ := o2.val S1.avd
  split at q
  case h_2 => exact q.elim
  rename_i i ei
  rw [ei] at r2
  split at q
  case h_2 => exact q.elim
  rename_i f ef
  obtain ⟨j, hj, hf⟩ := Option.bind_eq_some_iff.mp ef
  obtain ⟨a, fd, ps, np, g1, g2, g3, g4, g5⟩ := N.get hf
  have lst2 : H2 pl = some (.lst (as.map V.ref)) := k2.keep pl _ upd_same (fun ⟨i', d', z1, z2⟩ => by
    obtain ⟨_, _, o, ho, _⟩ := S.own ⟨i', _, z1, rfl, z2⟩
    rw [hp] at ho; cases ho)
  refine ⟨pl, _, i, .ref a, rfl, RX.int (.inl r2), SqL.of lst2, ?_, a, fd, ps, FT f, np, rfl, g2, g3, g4, ?_⟩
  · have hl : (as.map V.ref).length = fs.length := by rw [List.length_map, N.len]
    unfold atI
    rw [hl, ← ixAt_eq, hj]
    show (as.map V.ref)[j]? = some (V.ref a)
    rw [List.getElem?_map, g1]; rfl
  · have kk := k1.trans k2
    refine ha.bind (avH := VW av st σ) (H := H) S2 kk q fun ds st3 vs H3 S3 k3 _ r3 h3 => ?_
    refine ⟨AV av st3 σ, ds, r3, fun a => S3.there, g5 ds (fun z => by rw [z] at h3; exact h3.elim), ?_⟩
    cases hf' : FT f ds with
    | ok fr d => rw [hf'] at h3; exact fun v H' n => h3 v H' (.of_vn (av0 := av) S3 k3 n)
    | exc c => rw [hf'] at h3; exact fun H' s => h3 H' (S3.same s)
    | bad => rw [hf'] at h3; exact h3
end
end PD
set_option maxHeartbeats 1000000
namespace PD
open PySem PySem.Spec PyProof.Rows L2
/-! F4q: x.count(e), x.index(e); x.pop(), x.pop(e) as values. -/
def rCountD (K : PySem.W.Frag) : V → List V → Hp → VK → Prop := fun x xs H Q => ∃ (a : Addr) (y : V) (d : PyData) (ds : List PyData), x = V.ref a ∧ xs = [y] ∧ Dp K H (V.ref a) (.list ds) ∧ Dp K H y d ∧
  SeqAt.shaped (.list ds) = true ∧ SeqAt.shaped d = true ∧ Q (.int ((ds.countP fun z => PyData.eqv z d : Nat))) H
section
variable {X : Cx}
theorem countP_map_of {α β : Type} (f : α → β) (p : β → Bool) : ∀ l : List α, l.countP (fun a => p (f a)) = (l.map f).countP p
  | [] => rfl
  | a :: r => by simp only [List.map_cons, List.countP_cons, countP_map_of f p r]
theorem mt_countD (hu : X.A.units + 65 < cLine) : MtR X "list.count" (rCountD X.K) := by
  intro pins s σ H x xs v us Q I rx rxs h
  obtain ⟨a, y, d, ds, rfl, rfl, hl, hy, sl, sd, q⟩ := h
  cases rx
  cases rxs with
  | cons ry rt =>
    rename_i uy ut
    cases rt
    obtain ⟨bs, r1⟩ := Dp.reads I d y uy hy ry
    have hxs : PyData.canLayAll0 ds = true := SeqAt.canLay_of_shaped sl
    have hroom : X.A.units + 1 + min (PyData.depthAll ds) d.depth < cLine := room_in_shaped sd hu
    cases hl with
    | lst hs ha =>
      obtain ⟨its, rv, ⟨⟨cls, dd, data, sls⟩, n, ho, hc, hdn, hdt⟩, hlen⟩ := I.list hs
      simp only at hc hdt
      subst hc hdt
      obtain ⟨as, h4⟩ := Dp.readsAll I ds _ its ha rv
      have hmap : its.map (SeqAt.readOf s.heap) = ds := SeqAt.readsAll_map ds its as hxs h4
      refine call_meets PySem.F.slot_list_count ⟨_, ho, rfl⟩ PySem.F.entry_list_count (PySem.F.args_list_count_2 _ _)
        (SeqAt.list_countAt a its.toArray n dd sls uy (fun u => PyData.eqv (SeqAt.readOf s.heap u) d)) ⟨ho, SeqAt.items_eqAt (vs := its.toArray) (show ReadsAll s.heap its.toArray.toList ds as from h4) r1 hxs (SeqAt.canLay_of_shaped sd) hroom, ?_⟩
      refine ⟨.int ((ds.countP fun z => PyData.eqv z d : Nat)), H, I.tok _, ⟨s.toks, ?_⟩, q⟩
      rw [← hmap, ← countP_map_of]
end
section
variable {K : PySem.W.Frag} {cm : Nat → Value} {av : Addr → Prop} {H : Hp}
/-- a method's promise -/
def rMt (K : PySem.W.Frag) (cm : Nat → Value) (m : Mt) : V → List V → Hp → VK → Prop := fun x xs H Q => ∃ (av : Addr → Prop) (d : D) (ds : List D) (fr : Bool) (r : D), RX K cm H av x d ∧ Rs K cm H av xs ds ∧ mtD m d ds = some (fr, r) ∧ ∀ v H', VN K cm av H fr r v H' → Q v H'
theorem toPDs_get : ∀ {xs : List D} {j : Nat}, (toPDs xs)[j]? = xs[j]?.map toPD
  | [], j => by simp [toPDs]
  | x :: xs, 0 => by simp [toPDs]
  | x :: xs, j + 1 => by simp only [toPDs, List.getElem?_cons_succ]; exact toPDs_get
theorem countD_eq {x : D} {n : Nat} (hx : okN n x = true) : ∀ {ys : List D}, ys.all (okN n) = true → (toPDs ys).countP (fun z => PyData.eqv z (toPD x)) = countD x ys
  | [], _ => rfl
  | y :: ys, h => by
    rw [List.all_cons, Bool.and_eq_true] at h
    simp only [toPDs, List.countP_cons, countD, countD_eq hx h.2, eqv_ok _ _ n h.1 hx]
    omega
theorem indexD_at {x : D} : ∀ {ys : List D} {j : Nat}, indexD x ys = some j → ∃ y, ys[j]? = some y ∧ dEq y x = true ∧ ∀ m y', m < j → ys[m]? = some y' → dEq y' x = false
  | [], j, h => by simp [indexD] at h
  | y :: ys, j, h => by
    simp only [indexD] at h
    split at h
    · rename_i e
      cases h
      exact ⟨y, rfl, e, fun m y' hm => by omega⟩
    · rename_i e
      rw [Option.map_eq_some_iff] at h
      obtain ⟨k, hk, rfl⟩ := h
      obtain ⟨z, h1, h2, h3⟩ := indexD_at hk
      refine ⟨z, by simpa using h1, h2, fun m y' hm hy => ?_⟩
      cases m with
      | zero => simp at hy; subst hy; simpa using e
      | succ m => exact h3 m y' (by omega) (by simpa using hy)
theorem r1_of {xs : List V} {d : D} (h : Rs K cm H av xs [d]) : ∃ x, xs = [x] ∧ R K cm H av x d := by
  cases h with | cons a r => cases r; exact ⟨_, rfl, a⟩
end
section
variable {X : Cx} {cm : Nat → Value} {W : WX} {a b c e : Expr} {pos p : Pos}
theorem rMt_count (hu : X.A.units + 65 < cLine) : MtR X "list.count" (rMt X.K cm .count) := by
  intro pins s σ H x xs v us Q I rx rxs h
  obtain ⟨av, d, ds, fr, r, hx, hs, hf, q⟩ := h
  cases d <;> simp only [mtD, reduceCtorEq] at hf
  rename_i ys
  cases ds with
  | nil => simp [mtD] at hf
  | cons y r1 =>
    cases r1 with
    | cons _ _ => simp [mtD] at hf
    | nil =>
      simp only [mtD] at hf
      split at hf
      · rename_i hok
        cases hf
        rw [Bool.and_eq_true] at hok
        obtain ⟨hok1, hok2⟩ := hok
        obtain ⟨w, rfl, rw'⟩ := r1_of hs
        have dl := dpx_ok hok2 hx
        have dy := dp_ok _ 60 hok1 rw'
        obtain ⟨ad, vs, rfl, _⟩ := hx.lst
        obtain ⟨m, hm, hall⟩ := okN_lst hok2
        have hall60 : ys.all (okN 60) = true := by
          rw [List.all_eq_true] at hall ⊢
          intro z hz
          have h60 : m + 1 = 60 := hm.symm
          have := okN_up (hall z hz)
          rw [h60] at this
          exact this
        have el : toPD (.lst ys) = .list (toPDs ys) := rfl
        rw [el] at dl
        refine mt_countD hu pins s σ H _ _ v us Q I rx rxs ⟨ad, w, toPD y, toPDs ys, rfl, rfl, dl, dy, by rw [← el]; exact shaped_ok hok2, shaped_ok hok1, ?_⟩
        rw [countD_eq hok1 hall60]
        exact q _ _ (.here (.int _))
      · cases hf
theorem rMt_index (hu : X.A.units + 65 < cLine) : MtR X "list.index" (rMt X.K cm .index) := by
  intro pins s σ H x xs v us Q I rx rxs h
  obtain ⟨av, d, ds, fr, r, hx, hs, hf, q⟩ := h
  cases d <;> simp only [mtD, reduceCtorEq] at hf
  rename_i ys
  cases ds with
  | nil => simp [mtD] at hf
  | cons y r1 =>
    cases r1 with
    | cons _ _ => simp [mtD] at hf
    | nil =>
      simp only [mtD] at hf
      split at hf
      · rename_i hok
        split at hf
        case h_2 => cases hf
        rename_i j hj
        cases hf
        rw [Bool.and_eq_true] at hok
        obtain ⟨hok1, hok2⟩ := hok
        obtain ⟨w, rfl, rw'⟩ := r1_of hs
        have dl := dpx_ok hok2 hx
        have dy := dp_ok _ 60 hok1 rw'
        obtain ⟨ad, vs, rfl, _⟩ := hx.lst
        obtain ⟨m, hm, hall⟩ := okN_lst hok2
        have hall60 : ∀ z ∈ ys, okN 60 z = true := fun z hz => by
          have h60 : m + 1 = 60 := hm.symm
          have := okN_up (List.all_eq_true.mp hall z hz)
          rw [h60] at this
          exact this
        have el : toPD (.lst ys) = .list (toPDs ys) := rfl
        rw [el] at dl
        obtain ⟨z, h1, h2, h3⟩ := indexD_at hj
        refine mt_indexD hu pins s σ H _ _ v us Q I rx rxs ⟨ad, w, toPD y, toPDs ys, j, toPD z, rfl, rfl, dl, dy, by rw [← el]; exact shaped_ok hok2, shaped_ok hok1, by rw [toPDs_get, h1]; rfl, ?_, fun m' z' hm' hz' => ?_, q _ _ (.here (.int _))⟩
        · rw [eqv_ok _ _ 60 (hall60 z (List.mem_of_getElem? h1)) hok1]; exact h2
        · rw [toPDs_get, Option.map_eq_some_iff] at hz'
          obtain ⟨z0, e0, rfl⟩ := hz'
          rw [eqv_ok _ _ 60 (hall60 z0 (List.mem_of_getElem? e0)) hok1]
          exact h3 m' z0 hm' e0
      · cases hf
/-- o.m(e), the receiver a list -/
theorem okE_mt1 {m : Mt} {name : Str} {id T : String} {apos cpos : Pos} {fa : List Slot → Res Opd} {fs : List Slot → Res (List D)} (pa : PlainAttrs T) (slot : PySem.Slot T name id) (hty : typeOf (.builtin id) = pure (.type "method_descriptor")) (hm : MtR X id (rMt X.K cm m))
    (hT : ∀ (av : Addr → Prop) (H : Hp) (x : V) (d : D), RX X.K cm H av x d → mtOk m (some d) = true → tyV X.K T x H)
    (hbase : attributeBase a name X.env (eval a X.env) = eval a X.env) (hline : (apos.endLine == cpos.line) = true) (hs : starEach [b] X.env = (false, eval b X.env) :: starEach [] X.env)
    (hfew : ((backTo cpos (starEach [b] X.env)).all (fun x => !x.1) && (backToKw cpos (keywordEach [] X.env)).all (fun x => x.1.isSome) && decide ([b].length + ([] : List Keyword).length + (if ([] : List Keyword).isEmpty then 0 else 1) < 30)) = true)
    (ha : OkO X cm W a fa) (hb : OkA X cm W [b] fs) :
    OkE X cm W (.Call (.Attribute a name apos) [b] [] cpos) (fun st => (fa st).th fun x st => if mtOk m (rs1 st x) then (fs st).th fun ds st => match rs1 st x with
      | some d => outE (mtD m d ds) st
      | _ => .bad else .bad) := by
  intro av H0 st σ H Q S h
  refine semE (pe_bm pa slot hty hm (peS (X := X) (e := a)) (paS (X := X) (es := [b])) hbase hfew hline hs rfl) ?_
  refine ha av H0 st σ H _ S ((Post.th.mp h).imp (fun _ _ x => x) fun x st1 q v H1 ⟨S1, k1, r1⟩ => ?_)
  split at q
  case isFalse => exact q.elim
  rename_i hx
  cases e1 : rs1 st1 x with
  | none => rw [e1] at hx; cases m <;> cases hx
  | some d =>
    rw [e1] at hx
    refine ⟨hT _ _ _ _ (r1.look S1 e1) hx, ?_⟩
    refine hb.bind (avH := VW av st σ) (H := H) S1 k1 q fun ds st2 vs H2 S2 k2 k2' r2 q2 => ?_
    split at q2
    case h_2 => exact q2.elim
    rename_i d2 e2
    obtain ⟨fr, r, hr, hq⟩ := endE S2 k2 q2
    exact ⟨AV av st2 σ, d2, ds, fr, r, (r1.kp k2').look S2 e2, r2, hr, hq⟩
theorem ty_lst {m : Mt} {K : PySem.W.Frag} (av : Addr → Prop) (H : Hp) (x : V) (d : D) (h : RX K cm H av x d) (hm : (match d with | .lst _ => true | _ => false) = true) : tyV K "list" x H := by
  cases d <;> simp only [Bool.false_eq_true] at hm
  obtain ⟨a, vs, rfl, ha, _⟩ := h.lst
  exact .inl ⟨rfl, _, SqL.of ha⟩
/-! ### x.pop(), x.pop(e) -/
theorem okE_pop {i : Nat} {x : Str} {p1 apos cpos : Pos} (hv : PE X (.Name x p1) (tVar i)) (hline : (apos.endLine == cpos.line) = true) :
    OkE X cm W (.Call (.Attribute (.Name x p1) "pop" apos) [] [] cpos) (fun st => popS i st popD) := by
  intro av H0 st σ H Q S h
  dsimp only at h
  have own : ∃ ds, st[i]? = some (.ow (.lst ds)) := by
    unfold popS at h
    split at h
    · rename_i d e
      cases d with
      | lst ds => exact ⟨ds, e⟩
      | _ => exact h.elim
    · exact h.elim
  obtain ⟨ds, e0⟩ := own
  unfold popS at h
  rw [e0] at h
  dsimp only at h
  cases hl : ds.getLast? with
  | none => rw [show popD (.lst ds) = none by simp [popD, hl]] at h; exact h.elim
  | some d =>
    rw [show popD (.lst ds) = some (d, .lst ds.dropLast) by simp [popD, hl]] at h
    obtain ⟨a, vs, q, ha, rs, wr⟩ := modL (ds' := ds.dropLast) S e0
    have hne : ds ≠ [] := fun e => by subst e; cases hl
    have ln : 0 < vs.length := by rw [rs.length]; exact List.length_pos_iff.mpr hne
    have hpe : PE X (.Call (.Attribute (.Name x p1) "pop" apos) [] [] cpos) (tBM0 X.K "list" rPop (tVar i)) := pe_bm0 PySem.F.plainAttrs_list PySem.F.slot_list_pop PySem.F.type_list_pop mt_pop hv rfl hline
    have rd : Rs X.K cm H (AV av st σ) vs.dropLast ds.dropLast := by
      have t := rs.take (vs.length - 1)
      rw [← List.dropLast_eq_take] at t
      rw [show ds.take (vs.length - 1) = ds.dropLast by rw [List.dropLast_eq_take, rs.length]] at t
      exact t
    obtain ⟨S3, k3⟩ := wr vs.dropLast rd
    have el : ds[ds.length - 1]? = some d := by rw [← List.getLast?_eq_getElem?]; exact hl
    obtain ⟨v, hv', rv⟩ := rs.get el
    rw [← rs.length] at hv'
    refine semE hpe ⟨_, q, .inl ⟨rfl, _, SqL.of ha⟩, a, vs, v, rfl, rfl, ha, hv', ?_⟩
    exact h _ _ (.sh S3 k3 (rv.kp k3))
theorem okE_popAt {i : Nat} {x : Str} {p1 apos cpos : Pos} {f : List Slot → RE} (hv : PE X (.Name x p1) (tVar i)) (hline : (apos.endLine == cpos.line) = true) (hs : starEach [e] X.env = (false, eval e X.env) :: starEach [] X.env)
    (hfew : ((backTo cpos (starEach [e] X.env)).all (fun x => !x.1) && (backToKw cpos (keywordEach [] X.env)).all (fun x => x.1.isSome) && decide ([e].length + ([] : List Keyword).length + (if ([] : List Keyword).isEmpty then 0 else 1) < 30)) = true)
    (ha : OkE X cm W e f) : OkE X cm W (.Call (.Attribute (.Name x p1) "pop" apos) [e] [] cpos) (fun st => if ownedL i st then (f st).th fun k st => popS i st (popAtL k.2) else .bad) := by
  intro av H0 st σ H Q S h
  dsimp only at h
  split at h
  case isFalse => exact h.elim
  rename_i ho
  obtain ⟨ds0, e0⟩ := ownedL_iff ho
  obtain ⟨a0, vs0, q0, ha0, _⟩ := modL (ds' := ds0) S e0
  have hpe : PE X (.Call (.Attribute (.Name x p1) "pop" apos) [e] [] cpos) (tBM X.K "list" rPopAt (tVar i) (tCons (SemE X e) tNil)) :=
    pe_bm PySem.F.plainAttrs_list PySem.F.slot_list_pop PySem.F.type_list_pop mt_popAt hv (pa_cons peS pa_nil hs) rfl hfew hline hs rfl
  refine semE hpe ⟨_, q0, .inl ⟨rfl, _, SqL.of ha0⟩, ?_⟩
  refine ha av H0 st σ H _ S ((Post.th.mp h).imp (fun _ _ x => x) fun y st2 h2 v H2 o => ?_)
  obtain ⟨S2, k2, r2⟩ := o.val S.avd
  unfold popS at h2
  split at h2
  case h_2 => exact h2.elim
  rename_i d e2
  split at h2
  case h_2 => exact h2.elim
  rename_i r d' e3
  cases d with
  | lst ds =>
    cases ey : y.2 with
    | int n =>
      rw [ey] at e3 r2
      simp only [popAtL, popAtD] at e3
      split at e3
      case isFalse => cases e3
      rename_i hz0
      obtain ⟨j, hj, e4⟩ := Option.bind_eq_some_iff.mp e3
      rw [Option.map_eq_some_iff] at e4
      obtain ⟨z, hz, e5⟩ := e4
      cases e5
      obtain ⟨a, vs, qa, ha', rs, wr⟩ := modL (ds' := ds.eraseIdx j) S2 e2
      rw [q0] at qa; cases qa
      obtain ⟨S3, k3⟩ := wr (vs.eraseIdx j) (rs.eraseIdx j)
      obtain ⟨w, hw, rw'⟩ := rs.get hz
      have hj' := hj
      rw [ixAt_eq, ← rs.length] at hj'
      obtain ⟨s1, s2, s3, s4⟩ := ixN_seq hj'
      have ls : vs.length ≤ 1000000 := by rw [rs.length]; exact hz0
      refine ⟨a0, vs, n, j, w, rfl, by rw [RX.int (.inl r2)], ha', by omega, by omega, s1, hw, ?_⟩
      exact h2 _ _ (.sh S3 (k2.trans k3) (rw'.kp k3))
    | _ => rw [ey] at e3; simp [popAtL, popAtD] at e3
  | _ => simp [popAtL, popAtD] at e3
end
end PD
set_option maxHeartbeats 1000000
namespace PD
open PySem PySem.Spec PyProof.Rows L2
/-! F4r: Python's order of whole numbers, texts, tuples of such; sorted. -/
theorem lex_asym {x y : List Nat} (h : x < y) : ¬ y < x := List.lt_asymm h
theorem ltQs_cons {x y : D} {xs ys : List D} : ltQs (x :: xs) (y :: ys) = (ltQ x y || (!ltQ y x && ltQs xs ys)) := by simp only [ltQs]
mutual
theorem ltQ_asym : ∀ x y : D, ltQ x y = true → ltQ y x = false
  | x, y, h => by
    cases x <;> cases y <;> simp only [ltQ] at h ⊢
    all_goals first
      | exact ltQs_asym _ _ h
      | (have h := of_decide_eq_true h; refine decide_eq_false ?_; first | exact lex_asym h | (simp only [rk] at h ⊢; omega) | omega)
theorem ltQs_asym : ∀ xs ys : List D, ltQs xs ys = true → ltQs ys xs = false
  | [], [], h => by simp [ltQs] at h
  | [], _ :: _, h => by simp [ltQs]
  | _ :: _, [], h => by simp [ltQs] at h
  | x :: xs, y :: ys, h => by
    rw [ltQs_cons] at h ⊢
    cases h1 : ltQ x y with
    | true => rw [ltQ_asym x y h1]; rfl
    | false =>
      rw [h1] at h
      cases h2 : ltQ y x with
      | true => rw [h2] at h; simp at h
      | false =>
        rw [h2] at h
        simp only [Bool.not_false, Bool.true_and, Bool.false_or] at h ⊢
        exact ltQs_asym xs ys h
end
theorem lex_tr {x y z : List Nat} (h1 : ¬ y < x) (h2 : ¬ z < y) : ¬ z < x := by
  have h1 : x ≤ y := h1
  have h2 : y ≤ z := h2
  exact (List.le_trans h1 h2 : x ≤ z)
mutual
theorem ltQ_tr : ∀ x y z : D, ltQ y x = false → ltQ z y = false → ltQ z x = false
  | x, y, z, h1, h2 => by
    cases x <;> cases y <;> cases z <;> simp only [ltQ] at h1 h2 ⊢
    all_goals first
      | exact ltQs_tr _ _ _ h1 h2
      | exact decide_eq_false (by simp only [rk]; omega)
      | exact absurd (of_decide_eq_false h1) (by simp only [rk]; omega)
      | exact absurd (of_decide_eq_false h2) (by simp only [rk]; omega)
      | (have h1 := of_decide_eq_false h1; have h2 := of_decide_eq_false h2; refine decide_eq_false ?_; first | exact lex_tr h1 h2 | (simp only [rk] at h1 h2 ⊢; omega) | omega)
  termination_by x y z => sizeOf x + sizeOf y + sizeOf z
theorem ltQs_tr : ∀ xs ys zs : List D, ltQs ys xs = false → ltQs zs ys = false → ltQs zs xs = false
  | [], ys, [], _, _ => by simp [ltQs]
  | [], [], _ :: _, _, _ => by simp [ltQs]
  | [], _ :: _, _ :: _, _, _ => by simp [ltQs]
  | _ :: _, [], _, h, _ => by simp [ltQs] at h
  | _ :: _, _ :: _, [], _, h => by simp [ltQs] at h
  | x :: xs, y :: ys, z :: zs, h1, h2 => by
    rw [ltQs_cons] at h1 h2 ⊢
    simp only [Bool.or_eq_false_iff, Bool.and_eq_false_iff, Bool.not_eq_false'] at h1 h2 ⊢
    obtain ⟨a1, a2⟩ := h1
    obtain ⟨b1, b2⟩ := h2
    refine ⟨ltQ_tr x y z a1 b1, ?_⟩
    cases hxz : ltQ x z with
    | true => exact .inl rfl
    | false =>
      right
      rcases a2 with a2 | a2
      · have := ltQ_tr y z x b1 hxz
        rw [this] at a2; cases a2
      · rcases b2 with b2 | b2
        · have := ltQ_tr z x y hxz a1
          rw [this] at b2; cases b2
        · exact ltQs_tr xs ys zs a2 b2
  termination_by xs ys zs => sizeOf xs + sizeOf ys + sizeOf zs
end
theorem swoQ : SrtO.Swo ltQ := ⟨ltQ_asym, ltQ_tr⟩
theorem str_cps {x y : Str} (h : x.cps.toList = y.cps.toList) : x = y := by
  have hc : x.cps = y.cps := Array.toList_inj.mp h
  cases x; cases y
  simp only [Str.mk.injEq]
  exact hc
theorem okO_tup {n : Nat} {xs : List D} (h : okO n (.tup xs) = true) : ∃ m, n = m + 1 ∧ xs.all (okO m) = true := by
  cases n with
  | zero => simp [okO] at h
  | succ m => exact ⟨m, rfl, by simpa [okO] using h⟩
theorem okO_okN : ∀ (n : Nat) (d : D), okO n d = true → okN n d = true
  | n, .int _, _ => by cases n <;> rfl
  | n, .str x, h => by cases n <;> simpa [okO, okN] using h
  | n, .tup xs, h => by
    obtain ⟨m, rfl, h'⟩ := okO_tup h
    show xs.all (okN m) = true
    rw [List.all_eq_true] at h' ⊢
    exact fun x hx => okO_okN m x (h' x hx)
  | n, .non, h => by cases n <;> simp [okO] at h
  | n, .bl _, h => by cases n <;> simp [okO] at h
  | n, .lst _, h => by cases n <;> simp [okO] at h
  | n, .dic _ _, h => by cases n <;> simp [okO] at h
  | n, .exc _, h => by cases n <;> simp [okO] at h
  | n, .scr _, h => by cases n <;> simp [okO] at h
mutual
theorem dEq_lt : ∀ (n : Nat) (x y : D), okO n x = true → okO n y = true → sameK x y = true → dEq x y = (!ltQ x y && !ltQ y x)
  | n, .int a, .int b, _, _, _ => by
    simp only [dEq, ltQ]
    by_cases h : a = b
    · subst h; simp
    · rw [beq_false_of_ne h]; symm; simp; omega
  | n, .str x, .str y, _, _, _ => by
    simp only [dEq, ltQ]
    by_cases h : x = y
    · subst h; simp
    · rw [beq_false_of_ne h]; symm
      simp only [Bool.and_eq_false_iff, Bool.not_eq_false', decide_eq_true_eq]
      by_cases h1 : x.cps.toList < y.cps.toList
      · exact .inl h1
      · right
        have h1 : y.cps.toList ≤ x.cps.toList := h1
        rcases List.le_iff_lt_or_eq.mp h1 with h2 | h2
        · exact h2
        · exact absurd (str_cps h2.symm) h
  | n, .tup xs, .tup ys, h1, h2, h3 => by
    obtain ⟨m, rfl, h1⟩ := okO_tup h1
    obtain ⟨m', e, h2⟩ := okO_tup h2
    cases e
    simp only [dEq, ltQ]
    exact dEqs_lt m xs ys h1 h2 (by simpa [sameK] using h3)
  | n, .int _, .str _, _, _, h => by simp [sameK] at h
  | n, .int _, .tup _, _, _, h => by simp [sameK] at h
  | n, .str _, .int _, _, _, h => by simp [sameK] at h
  | n, .str _, .tup _, _, _, h => by simp [sameK] at h
  | n, .tup _, .int _, _, _, h => by simp [sameK] at h
  | n, .tup _, .str _, _, _, h => by simp [sameK] at h
  | n, .non, y, h, _, _ => by cases n <;> simp [okO] at h
  | n, .bl _, y, h, _, _ => by cases n <;> simp [okO] at h
  | n, .lst _, y, h, _, _ => by cases n <;> simp [okO] at h
  | n, .dic _ _, y, h, _, _ => by cases n <;> simp [okO] at h
  | n, .exc _, y, h, _, _ => by cases n <;> simp [okO] at h
  | n, .scr _, y, h, _, _ => by cases n <;> simp [okO] at h
  | n, x, .non, _, h, _ => by cases n <;> simp [okO] at h
  | n, x, .bl _, _, h, _ => by cases n <;> simp [okO] at h
  | n, x, .lst _, _, h, _ => by cases n <;> simp [okO] at h
  | n, x, .dic _ _, _, h, _ => by cases n <;> simp [okO] at h
  | n, x, .exc _, _, h, _ => by cases n <;> simp [okO] at h
  | n, x, .scr _, _, h, _ => by cases n <;> simp [okO] at h
theorem dEqs_lt : ∀ (n : Nat) (xs ys : List D), xs.all (okO n) = true → ys.all (okO n) = true → sameKs xs ys = true → dEqs xs ys = (!ltQs xs ys && !ltQs ys xs)
  | n, [], [], _, _, _ => by simp [dEqs, ltQs]
  | n, [], _ :: _, _, _, _ => by simp [dEqs, ltQs]
  | n, _ :: _, [], _, _, _ => by simp [dEqs, ltQs]
  | n, x :: xs, y :: ys, h1, h2, h3 => by
    simp only [List.all_cons, Bool.and_eq_true] at h1 h2
    simp only [sameKs, Bool.and_eq_true] at h3
    rw [ltQs_cons, ltQs_cons]
    simp only [dEqs]
    rw [dEq_lt n x y h1.1 h2.1 h3.1, dEqs_lt n xs ys h1.2 h2.2 h3.2]
    have := ltQ_asym x y
    revert this
    cases ltQ x y <;> cases ltQ y x <;> cases ltQs xs ys <;> cases ltQs ys xs <;> simp
end
/-! ### the model's comparison -/
theorem readsAll_get {h : Heap} : ∀ {ds : List D} {vs : List Value} {as : List Addr}, ReadsAll h vs (toPDs ds) as → vs.length = ds.length ∧ ∀ (j : Nat) (v : Value) (d : D), vs[j]? = some v → ds[j]? = some d → ∃ bs, Reads h v (toPD d) bs
  | [], vs, as, r => by
    simp only [toPDs] at r
    cases r
    exact ⟨rfl, fun j v d h => by simp at h⟩
  | d :: ds, vs, as, r => by
    simp only [toPDs] at r
    cases r with
    | cons r1 r2 =>
      obtain ⟨i1, i2⟩ := readsAll_get r2
      refine ⟨by simp [i1], fun j v d' h1 h2 => ?_⟩
      cases j with
      | zero => simp at h1 h2; subst h1 h2; exact ⟨_, r1⟩
      | succ j => exact i2 j v d' (by simpa using h1) (by simpa using h2)
theorem eqv_dEq {d e : D} {n : Nat} (h1 : okO n d = true) (h2 : okO n e = true) : PyData.eqv (toPD d) (toPD e) = dEq d e := eqv_ok d e n (okO_okN n d h1) (okO_okN n e h2)
theorem lexAt_ltQs (n : Nat) : ∀ (xs ys : List D) (f : D → D → Bool) (i k : Nat) (zs ws : List D), xs.all (okO n) = true → ys.all (okO n) = true → sameKs xs ys = true → zs.drop i = xs → ws.drop i = ys → k = min xs.length ys.length →
    Ob.lexAt (fun j => dEq (zs.getD j .non) (ws.getD j .non)) (fun j => ltQ (zs.getD j .non) (ws.getD j .non)) (decide (xs.length < ys.length)) i k = ltQs xs ys
  | [], [], f, i, k, zs, ws, _, _, _, _, _, hk => by subst hk; simp [Ob.lexAt, ltQs]
  | [], _ :: _, f, i, k, zs, ws, _, _, _, _, _, hk => by subst hk; simp [Ob.lexAt, ltQs]
  | _ :: _, [], f, i, k, zs, ws, _, _, _, _, _, hk => by subst hk; simp [Ob.lexAt, ltQs]
  | x :: xs, y :: ys, f, i, k, zs, ws, h1, h2, h3, hz, hw, hk => by
    have hk' : k = min xs.length ys.length + 1 := by rw [hk]; simp only [List.length_cons]; omega
    subst hk'
    simp only [List.all_cons, Bool.and_eq_true] at h1 h2
    simp only [sameKs, Bool.and_eq_true] at h3
    have ez : zs.getD i .non = x := by
      have : zs[i]? = some x := by rw [← Nat.add_zero i, ← List.getElem?_drop, hz]; rfl
      rw [List.getD_eq_getElem?_getD, this]; rfl
    have ew : ws.getD i .non = y := by
      have : ws[i]? = some y := by rw [← Nat.add_zero i, ← List.getElem?_drop, hw]; rfl
      rw [List.getD_eq_getElem?_getD, this]; rfl
    have ih := lexAt_ltQs n xs ys f (i + 1) (min xs.length ys.length) zs ws h1.2 h2.2 h3.2 (by rw [← List.drop_drop, hz]; rfl) (by rw [← List.drop_drop, hw]; rfl) rfl
    rw [Ob.lexAt_succ]
    simp only [ez, ew, List.length_cons, Nat.add_lt_add_iff_right]
    rw [ltQs_cons, dEq_lt n x y h1.1 h2.1 h3.1]
    have := ltQ_asym x y
    revert this
    cases hxy : ltQ x y with
    | true =>
      intro h; rw [h rfl]; rfl
    | false =>
      intro _
      cases ltQ y x with
      | true => rfl
      | false =>
        simp only [Bool.not_false, Bool.and_self, if_pos, Bool.true_and, Bool.false_or]
        exact ih
/-- d < e, as the model has it -/
theorem rc_lt {s : Shared} : ∀ (n : Nat) (d e : D) (A : Around) (u v : Value) (as bs : List Addr), okO n d = true → okO n e = true → sameK d e = true → Reads s.heap u (toPD d) as → Reads s.heap v (toPD e) bs → A.units + n + 1 < cLine → Ob.RcOp .Lt A s u v (ltQ d e) := by
  intro n
  induction n with
  | zero =>
    intro d e A u v as bs h1 h2 h3 r1 r2 hu
    cases d <;> cases e <;> simp only [sameK, Bool.false_eq_true] at h3
    · cases r1; cases r2; simp only [ltQ]; exact Ob.RcOp.lt_int _ _ _ _
    · cases r1; cases r2; simp only [ltQ]; exact fun prog w E Q h => PySem.P.lt_str h
    · simp [okO] at h1
  | succ n ih =>
    intro d e A u v as bs h1 h2 h3 r1 r2 hu
    cases d <;> cases e <;> simp only [sameK, Bool.false_eq_true] at h3
    · cases r1; cases r2; simp only [ltQ]; exact Ob.RcOp.lt_int _ _ _ _
    · cases r1; cases r2; simp only [ltQ]; exact fun prog w E Q h => PySem.P.lt_str h
    · rename_i xs ys
      have h1 : xs.all (okO n) = true := by simpa [okO] using h1
      have h2 : ys.all (okO n) = true := by simpa [okO] using h2
      have e1 : toPD (.tup xs) = .tuple (toPDs xs) := rfl
      have e2 : toPD (.tup ys) = .tuple (toPDs ys) := rfl
      rw [e1] at r1
      rw [e2] at r2
      cases r1 with
      | @tuple a o vs k _ _ ho hc hd ra =>
        cases r2 with
        | @tuple a' o' vs' k' _ _ ho' hc' hd' ra' =>
          obtain ⟨l1, g1⟩ := readsAll_get ra
          obtain ⟨l2, g2⟩ := readsAll_get ra'
          rw [Array.length_toList] at l1 l2
          have sK : ∀ (xs ys : List D), sameKs xs ys = true → ∀ (j : Nat) (x y : D), xs[j]? = some x → ys[j]? = some y → sameK x y = true := by
            intro xs
            induction xs with
            | nil => intro ys _ j x y h; simp at h
            | cons a xs ih' =>
              intro ys hk j x y hx hy
              cases ys with
              | nil => simp at hy
              | cons b ys =>
                simp only [sameKs, Bool.and_eq_true] at hk
                cases j with
                | zero => simp at hx hy; subst hx hy; exact hk.1
                | succ j => exact ih' ys hk.2 j x y (by simpa using hx) (by simpa using hy)
          have T := Ob.RcOp.tuples_lt (A := A) (s := s) (l := a) (b := a') (items := vs) (items2 := vs') (e := fun j => dEq (xs.getD j .non) (ys.getD j .non)) (r := fun j => ltQ (xs.getD j .non) (ys.getD j .non)) ⟨o, ho, hc, k, hd⟩ ⟨o', ho', hc', k', hd'⟩ (by omega)
            (fun j j1 j2 => ?_) (fun j j1 j2 _ => ?_)
          · rw [l1, l2] at T
            have := lexAt_ltQs n xs ys (fun _ _ => true) 0 (min xs.length ys.length) xs ys h1 h2 h3 rfl rfl rfl
            rw [this] at T
            simp only [ltQ]
            exact T
          · have x1 : j < xs.length := by omega
            have y1 : j < ys.length := by omega
            have ex : xs.getD j .non = xs[j] := by rw [List.getD_eq_getElem?_getD, List.getElem?_eq_getElem x1]; rfl
            have ey : ys.getD j .non = ys[j] := by rw [List.getD_eq_getElem?_getD, List.getElem?_eq_getElem y1]; rfl
            rw [ex, ey]
            obtain ⟨b1, q1⟩ := g1 j vs[j] xs[j] (by rw [Array.getElem?_toList, Array.getElem?_eq_getElem j1]) (List.getElem?_eq_getElem x1)
            obtain ⟨b2, q2⟩ := g2 j vs'[j] ys[j] (by rw [Array.getElem?_toList, Array.getElem?_eq_getElem j2]) (List.getElem?_eq_getElem y1)
            have ox := List.all_eq_true.mp h1 xs[j] (List.getElem_mem x1)
            have oy := List.all_eq_true.mp h2 ys[j] (List.getElem_mem y1)
            obtain ⟨c1, d1⟩ := lay_ok xs[j] n (okO_okN n _ ox)
            obtain ⟨c2, d2⟩ := lay_ok ys[j] n (okO_okN n _ oy)
            rw [← eqv_dEq ox oy]
            exact SeqAt.eqAt_reads _ _ A.in1 s _ _ _ _ q1 q2 c1 c2 (by show A.units + 1 + _ < _; omega)
          · have x1 : j < xs.length := by omega
            have y1 : j < ys.length := by omega
            have ex : xs.getD j .non = xs[j] := by rw [List.getD_eq_getElem?_getD, List.getElem?_eq_getElem x1]; rfl
            have ey : ys.getD j .non = ys[j] := by rw [List.getD_eq_getElem?_getD, List.getElem?_eq_getElem y1]; rfl
            rw [ex, ey]
            obtain ⟨b1, q1⟩ := g1 j vs[j] xs[j] (by rw [Array.getElem?_toList, Array.getElem?_eq_getElem j1]) (List.getElem?_eq_getElem x1)
            obtain ⟨b2, q2⟩ := g2 j vs'[j] ys[j] (by rw [Array.getElem?_toList, Array.getElem?_eq_getElem j2]) (List.getElem?_eq_getElem y1)
            have ox := List.all_eq_true.mp h1 xs[j] (List.getElem_mem x1)
            have oy := List.all_eq_true.mp h2 ys[j] (List.getElem_mem y1)
            exact ih xs[j] ys[j] A.in1 vs[j] vs'[j] b1 b2 ox oy (sK xs ys h3 j _ _ (List.getElem?_eq_getElem x1) (List.getElem?_eq_getElem y1)) q1 q2 (by show A.units + 1 + n + 1 < _; omega)
end PD
set_option maxHeartbeats 1000000
namespace PD
open PySem PySem.Spec PyProof.Rows L2
/-! F4s: sorted of tuples, of texts. -/
open PySem.W in
theorem katLex_of {prog : Program} {w : World} {A : Around} {s : Shared} {n : Nat} {b fin : Bool} {Q : Bool → Shared → Prop} (hu : A.units + n + 2 < cLine) : ∀ (ds es : List D) (ps qs : List Value) (i : Nat) (as bs : List Addr), ds.all (okO n) = true → es.all (okO n) = true → sameKs ds es = true →
    ReadsAll s.heap ps (toPDs ds) as → ReadsAll s.heap qs (toPDs es) bs → (b = true → i = 0 → ∀ d, ds.head? = some d → ∀ xs, d ≠ .tup xs) → fin = decide (ps.length < qs.length) → Q (ltQs ds es) s → KatLex prog w A b fin Q (ps.zip qs) i s
  | [], [], ps, qs, i, as, bs, _, _, _, r1, r2, _, hf, h => by
    simp only [toPDs] at r1 r2
    cases r1; cases r2
    subst hf
    simp only [ltQs] at h
    exact kat_nil h
  | [], e :: es, ps, qs, i, as, bs, _, _, _, r1, r2, _, hf, h => by
    simp only [toPDs] at r1 r2
    cases r1; cases r2
    subst hf
    simp only [ltQs] at h
    refine kat_nil ?_
    simpa using h
  | d :: ds, [], ps, qs, i, as, bs, _, _, _, r1, r2, _, hf, h => by
    simp only [toPDs] at r1 r2
    cases r1; cases r2
    subst hf
    simp only [ltQs] at h
    refine kat_nil ?_
    simpa using h
  | d :: ds, e :: es, ps, qs, i, as, bs, h1, h2, h3, r1, r2, hb, hf, h => by
    simp only [toPDs] at r1 r2
    simp only [List.all_cons, Bool.and_eq_true] at h1 h2
    simp only [sameKs, Bool.and_eq_true] at h3
    cases r1 with
    | @cons u us _ _ a1 a2 ra rs =>
      cases r2 with
      | @cons v vs _ _ b1 b2 rb rs' =>
        obtain ⟨c1, d1⟩ := lay_ok d n (okO_okN n _ h1.1)
        obtain ⟨c2, d2⟩ := lay_ok e n (okO_okN n _ h2.1)
        have E := SeqAt.eqAt_reads _ _ A s u v _ _ ra rb c1 c2 (by omega)
        rw [eqv_dEq h1.1 h2.1] at E
        refine kat_cons (E prog w _ _ ?_)
        refine kat_go (fun q => kat_yes ?_) fun q => kat_no ?_
        · refine katLex_of hu ds es us vs (i + 1) _ _ h1.2 h2.2 h3.2 rs rs' (fun _ z => by omega) (by rw [hf]; simp) ?_
          rw [dEq_lt n d e h1.1 h2.1 h3.1, Bool.and_eq_true, Bool.not_eq_true', Bool.not_eq_true'] at q
          rw [ltQs_cons, q.1, q.2] at h
          exact h
        · have hlt : Q (ltQ d e) s := by
            rw [dEq_lt n d e h1.1 h2.1 h3.1] at q
            rw [ltQs_cons] at h
            have := ltQ_asym d e
            revert this q h
            cases ltQ d e <;> cases ltQ e d <;> simp
          cases hbi : (b && i == 0) with
          | false =>
            refine kat_one u v ?_
            exact rc_lt n d e A u v _ _ h1.1 h2.1 h3.1 ra rb (by omega) prog w _ _ hlt
          | true =>
            simp only [Bool.and_eq_true, beq_iff_eq] at hbi
            have hd := hb hbi.1 hbi.2 d rfl
            cases d with
            | int x =>
              cases e with
              | int y => cases ra; cases rb; simp only [ltQ] at hlt; exact oneLt_any_int hlt
              | _ => simp [sameK] at h3
            | str x =>
              cases e with
              | str y => cases ra; cases rb; simp only [ltQ] at hlt; exact oneLt_any_str hlt
              | _ => simp [sameK] at h3
            | tup xs => exact absurd rfl (hd xs)
            | _ => simp [sameK] at h3
/-- what a value is, told by the heap -/
noncomputable def datOf (h : Heap) (u : Value) : D :=
  open Classical in if hx : ∃ d as, okO 20 d = true ∧ Reads h u (toPD d) as then hx.choose else .non
theorem toPD_inj : ∀ (n : Nat) (d e : D), okO n d = true → okO n e = true → toPD d = toPD e → d = e := by
  intro n
  induction n with
  | zero =>
    intro d e h1 h2 h
    cases d <;> cases e <;> simp [okO, toPD] at h1 h2 h ⊢ <;> exact h
  | succ n ih =>
    intro d e h1 h2 h
    cases d <;> cases e <;> simp [okO, toPD] at h1 h2 h ⊢ <;> try exact h
    rename_i xs ys
    have aux : ∀ (xs ys : List D), (∀ x ∈ xs, okO n x = true) → (∀ x ∈ ys, okO n x = true) → toPDs xs = toPDs ys → xs = ys := by
      intro xs
      induction xs with
      | nil => intro ys _ _ h; cases ys <;> simp [toPDs] at h ⊢
      | cons x xs ih' =>
        intro ys a1 a2 h
        cases ys with
        | nil => simp [toPDs] at h
        | cons y ys =>
          simp only [toPDs, List.cons.injEq] at h
          rw [ih x y (a1 x List.mem_cons_self) (a2 y List.mem_cons_self) h.1, ih' ys (fun z hz => a1 z (List.mem_cons_of_mem _ hz)) (fun z hz => a2 z (List.mem_cons_of_mem _ hz)) h.2]
    exact aux xs ys h1 h2 h
theorem okO_lay {n : Nat} {d : D} (h : okO n d = true) : (toPD d).canLay0 = true := (lay_ok d n (okO_okN n d h)).1
theorem datOf_eq {h : Heap} {u : Value} {d : D} {as : List Addr} (hd : okO 20 d = true) (r : Reads h u (toPD d) as) : datOf h u = d := by
  have hx : ∃ d as, okO 20 d = true ∧ Reads h u (toPD d) as := ⟨d, as, hd, r⟩
  unfold datOf
  rw [dif_pos hx]
  obtain ⟨as', h1, r'⟩ := hx.choose_spec
  exact (toPD_inj 20 _ _ hd h1 (SeqAt.Reads.unique _ _ _ _ _ (okO_lay hd) r r')).symm
theorem reads_keep {h h' : Heap} (k : ∀ b o, h.get? b = some o → o.cls = .type "tuple" → h'.get? b = some o) : ∀ (n : Nat) (d : D) (u : Value) (as : List Addr), okO n d = true → Reads h u (toPD d) as → Reads h' u (toPD d) as := by
  intro n
  induction n with
  | zero =>
    intro d u as h1 r
    cases d <;> simp [okO] at h1
    · cases r; exact .int _ _
    · cases r; exact .str _ _
  | succ n ih =>
    intro d u as h1 r
    cases d <;> simp [okO] at h1
    · cases r; exact .int _ _
    · cases r; exact .str _ _
    · rename_i xs
      have e1 : toPD (.tup xs) = .tuple (toPDs xs) := rfl
      rw [e1] at r ⊢
      cases r with
      | tuple ho hc hd ra =>
        refine .tuple (k _ _ ho hc) hc hd ?_
        have aux : ∀ (xs : List D) (vs : List Value) (as : List Addr), (∀ x ∈ xs, okO n x = true) → ReadsAll h vs (toPDs xs) as → ReadsAll h' vs (toPDs xs) as := by
          intro xs
          induction xs with
          | nil => intro vs as _ r; simp only [toPDs] at r ⊢; cases r; exact .nil
          | cons x xs ih' =>
            intro vs as a r
            simp only [toPDs] at r ⊢
            cases r with
            | cons r1 r2 => exact .cons (ih x _ _ (a x List.mem_cons_self) r1) (ih' _ _ (fun z hz => a z (List.mem_cons_of_mem _ hz)) r2)
        exact aux xs _ _ h1 ra
theorem dEq_eq : ∀ (n : Nat) (d e : D), okO n d = true → okO n e = true → dEq d e = true → d = e := by
  intro n
  induction n with
  | zero =>
    intro d e h1 h2 h
    cases d <;> cases e <;> simp [okO, dEq] at h1 h2 h ⊢ <;> exact h
  | succ n ih =>
    intro d e h1 h2 h
    cases d <;> cases e <;> simp [okO, dEq] at h1 h2 h ⊢ <;> try exact h
    rename_i xs ys
    have aux : ∀ (xs ys : List D), (∀ x ∈ xs, okO n x = true) → (∀ x ∈ ys, okO n x = true) → dEqs xs ys = true → xs = ys := by
      intro xs
      induction xs with
      | nil => intro ys _ _ h; cases ys <;> simp [dEqs] at h ⊢
      | cons x xs ih' =>
        intro ys a1 a2 h
        cases ys with
        | nil => simp [dEqs] at h
        | cons y ys =>
          simp only [dEqs, Bool.and_eq_true] at h
          rw [ih x y (a1 x List.mem_cons_self) (a2 y List.mem_cons_self) h.1, ih' ys (fun z hz => a1 z (List.mem_cons_of_mem _ hz)) (fun z hz => a2 z (List.mem_cons_of_mem _ hz)) h.2]
    exact aux xs ys h1 h2 h
theorem leQ_trans (a b c : D) (h : leQ a b = true) (h' : leQ b c = true) : leQ a c = true := by
  unfold leQ at *
  rw [Bool.not_eq_true'] at *
  exact ltQ_tr a b c h h'
theorem leQ_total (a b : D) : (leQ a b || leQ b a) = true := by
  unfold leQ
  cases h : ltQ b a with
  | false => rfl
  | true => rw [ltQ_asym b a h]; rfl
/-- sorted with these members: that one -/
theorem sortQ_uniq {l m : List D} (p : l.Perm m) (hk : ∀ x ∈ m, okO 20 x = true ∧ ∀ y ∈ m, sameK x y = true) (h : l.Pairwise fun a b => ltQ b a = false) : l = m.mergeSort leQ := by
  refine List.Perm.eq_of_pairwise (le := fun a b => ltQ b a = false) (fun a b ha hb h1 h2 => ?_) h ?_ (p.trans (List.mergeSort_perm _ _).symm)
  · have ma : a ∈ m := p.mem_iff.mp ha
    have mb : b ∈ m := (List.mergeSort_perm m leQ).mem_iff.mp hb
    refine dEq_eq 20 a b (hk a ma).1 (hk b mb).1 ?_
    rw [dEq_lt 20 a b (hk a ma).1 (hk b mb).1 ((hk a ma).2 b mb), h1, h2]; rfl
  · exact (List.pairwise_mergeSort leQ_trans leQ_total m).imp fun {a b} h => by unfold leQ at h; simpa using h
/-- a tuple's first item -/
theorem reads_first {h : Heap} {u : Value} {d : D} {ds : List D} {as : List Addr} (r : Reads h u (toPD (.tup (d :: ds))) as) : ∃ a o xs n f bs, u = .ref a ∧ h.get? a = some o ∧ o.cls = .type "tuple" ∧ o.data = .seq xs n ∧ xs[0]? = some f ∧ Reads h f (toPD d) bs := by
  have e1 : toPD (.tup (d :: ds)) = .tuple (toPD d :: toPDs ds) := rfl
  rw [e1] at r
  cases r with
  | @tuple a o vs k _ _ ho hc hd ra =>
    obtain ⟨l⟩ := vs
    cases ra with
    | @cons v _ _ _ _ _ r1 r2 => exact ⟨a, o, _, k, v, _, rfl, ho, hc, hd, rfl, r1⟩
/-- what stands in a list that can be sorted -/
def ItemsQ (h : Heap) (vs : List Value) (ds : List D) : Prop := ∀ v ∈ vs, ∃ d ∈ ds, ∃ as, Reads h v (toPD d) as
theorem okSort_at {ds : List D} (h : okSort ds = true) : (∀ x ∈ ds, okO 20 x = true ∧ ∀ y ∈ ds, sameK x y = true) ∧ ∀ x ∈ ds, ∃ d r, x = .tup (d :: r) := by
  unfold okSort at h
  simp only [Bool.and_eq_true, List.all_eq_true] at h
  obtain ⟨⟨h1, h2⟩, h3⟩ := h
  refine ⟨fun x hx => ⟨h1 x hx, fun y hy => h2 x hx y hy⟩, fun x hx => ?_⟩
  have := h3 x hx
  cases x with
  | tup xs => cases xs with
    | nil => cases this
    | cons d r => exact ⟨d, r, rfl⟩
  | _ => cases this
def tyQ : D → Value
  | .int _ => .type "int" | .str _ => .type "str" | _ => .type "tuple"
open PySem.W in
theorem katTups_q {h : Heap} {ds : List D} (hs : okSort ds = true) : ∀ {vs : List Value}, ItemsQ h vs ds → ∃ fs : List Value, KatTups h vs fs ∧ fs.length = vs.length ∧ ∀ f ∈ fs, ∃ d r, D.tup (d :: r) ∈ ds ∧ ∃ as, Reads h f (toPD d) as
  | [], _ => ⟨[], trivial, rfl, fun f hf => by cases hf⟩
  | v :: vs, hi => by
    obtain ⟨fs, h1, h2, h3⟩ := katTups_q hs (vs := vs) fun u hu => hi u (List.mem_cons_of_mem _ hu)
    obtain ⟨d, hd, as, r⟩ := hi v List.mem_cons_self
    obtain ⟨d0, r0, rfl⟩ := (okSort_at hs).2 d hd
    obtain ⟨a, o, xs, n, f, bs, rfl, ho, hc, hdt, hf, rf⟩ := reads_first r
    refine ⟨f :: fs, ⟨⟨a, o, xs, n, rfl, ho, hc, hdt, hf⟩, h1⟩, by simp [h2], fun g hg => ?_⟩
    rcases List.mem_cons.mp hg with rfl | hg
    · exact ⟨d0, r0, hd, bs, rf⟩
    · exact h3 g hg
theorem looks_q {M : Model} {h : Heap} {f : Value} {d : D} {as : List Addr} (ho : okO 20 d = true) (r : Reads h f (toPD d) as) : PySem.W.Looks M h (typeOf f) (tyQ d) := by
  cases d with
  | int i => cases r; exact PySem.W.Looks.now
  | str x => cases r; exact PySem.W.Looks.now
  | tup xs =>
    have e1 : toPD (.tup xs) = .tuple (toPDs xs) := rfl
    rw [e1] at r
    cases r with
    | tuple ho' hc hd ra => exact fun A Q E s k q => wpAny_typeOf_ref (k _ _ ho') (by rw [hc]; exact q)
  | _ => simp [okO] at ho
theorem tyQ_same {d e : D} (h : sameK d e = true) : tyQ d = tyQ e := by
  cases d <;> cases e <;> first | rfl | simp [sameK] at h
theorem sameKs_head {d e : D} {r s : List D} (h : sameK (.tup (d :: r)) (.tup (e :: s)) = true) : sameK d e = true := by
  simp only [sameK, sameKs, Bool.and_eq_true] at h
  exact h.1
open PySem.W in
theorem sortableQ {prog : Program} {w : World} {A : Around} {s : Shared} {a : Addr} {vs : List Value} {ds : List D} {h0 : Heap} (hu : A.units + 30 < cLine) (hs : okSort ds = true) (h2 : 2 ≤ vs.length) (hi : ItemsQ h0 vs ds) (keep0 : ∀ b o, h0.get? b = some o → b ≠ a ∧ s.heap.get? b = some o) :
    SrtO.SortableO prog w A s a vs fun v u => ltQ (datOf h0 v) (datOf h0 u) := by
  intro h' keep
  obtain ⟨ok1, ok2⟩ := okSort_at hs
  have kp : ∀ b o, h0.get? b = some o → o.cls = .type "tuple" → h'.get? b = some o := fun b o e _ => keep b o (keep0 b o e).1 (keep0 b o e).2
  have hi' : ItemsQ h' vs ds := fun v hv => by
    obtain ⟨d, hd, as, r⟩ := hi v hv
    exact ⟨d, hd, as, reads_keep kp 20 d v as (ok1 d hd).1 r⟩
  obtain ⟨fs, t1, t2, t3⟩ := katTups_q hs hi'
  obtain ⟨v0, hv0⟩ : ∃ v0, v0 ∈ vs := by
    cases vs with
    | nil => simp at h2
    | cons v vs => exact ⟨v, List.mem_cons_self⟩
  obtain ⟨d00, hd00, _⟩ := hi v0 hv0
  obtain ⟨d0, r0, rfl⟩ := ok2 d00 hd00
  refine ⟨tuples' (tyQ d0 != Value.type "tuple"), fun Q E hq => ?_, fun p q hp hq => ?_⟩
  · refine kat_kind (T := tyQ d0) t1 (by omega) (fun f hf => ?_) (by cases d0 <;> rfl) hq
    obtain ⟨d, r, hd, as, rf⟩ := t3 f hf
    have o1 := (okO_tup (ok1 _ hd).1)
    obtain ⟨m, e, hall⟩ := o1
    have hd20 : okO 20 d = true := by
      have hm : m = 19 := by omega
      subst hm
      have := List.all_eq_true.mp hall d List.mem_cons_self
      have up : ∀ (n : Nat) (d : D), okO n d = true → okO (n + 1) d = true := by
        intro n
        induction n with
        | zero => intro d h; cases d <;> simp [okO] at h ⊢ <;> exact h
        | succ n ih =>
          intro d h
          cases d <;> simp [okO] at h ⊢ <;> try exact h
          intro x hx
          have := ih x (h x hx)
          simpa [okO] using this
      exact up 19 d this
    have := looks_q (M := model prog w) hd20 rf
    rw [tyQ_same (sameKs_head ((ok1 _ hd00).2 _ hd))]
    exact this
  · obtain ⟨d, hd, as, rd⟩ := hi' p.1 hp
    obtain ⟨e, he, bs, re⟩ := hi' q.1 hq
    obtain ⟨d', hd', as', rd'⟩ := hi p.1 hp
    obtain ⟨e', he', bs', re'⟩ := hi q.1 hq
    have ed : datOf h0 p.1 = d' := datOf_eq (ok1 d' hd').1 rd'
    have ee : datOf h0 q.1 = e' := datOf_eq (ok1 e' he').1 re'
    have ed2 : d' = d := toPD_inj 20 _ _ (ok1 d' hd').1 (ok1 d hd).1 (SeqAt.Reads.unique _ _ _ _ _ (okO_lay (ok1 d' hd').1) (reads_keep kp 20 d' _ _ (ok1 d' hd').1 rd') rd)
    have ee2 : e' = e := toPD_inj 20 _ _ (ok1 e' he').1 (ok1 e he).1 (SeqAt.Reads.unique _ _ _ _ _ (okO_lay (ok1 e' he').1) (reads_keep kp 20 e' _ _ (ok1 e' he').1 re') re)
    obtain ⟨x0, xr, rfl⟩ := ok2 d hd
    obtain ⟨y0, yr, rfl⟩ := ok2 e he
    show wpAny (model prog w) A (keyLt' (tuples' (tyQ d0 != Value.type "tuple")) p.1 q.1) (fun r s' => s' = { s with heap := h' } ∧ r = ltQ (datOf h0 p.1) (datOf h0 q.1)) (fun _ _ => False) { s with heap := h' }
    rw [ed, ee, ed2, ee2]
    have kd := (ok1 _ hd).2 _ he
    have o1 := (ok1 _ hd).1
    have o2 := (ok1 _ he).1
    have hk0 : tyQ d0 = tyQ x0 := tyQ_same (sameKs_head ((ok1 _ hd00).2 _ hd))
    have e1 : toPD (.tup (x0 :: xr)) = .tuple (toPDs (x0 :: xr)) := rfl
    have e2 : toPD (.tup (y0 :: yr)) = .tuple (toPDs (y0 :: yr)) := rfl
    rw [e1] at rd
    rw [e2] at re
    generalize hpp : p.1 = pv at rd
    generalize hqq : q.1 = qv at re
    cases rd with
    | @tuple a1 ob1 xs1 n1 _ _ g1 g2 g3 g4 =>
      cases re with
      | @tuple a2 ob2 xs2 n2 _ _ k1 k2 k3 k4 =>
        refine kat_lt g1 g3 k1 k3 ?_
        obtain ⟨m, em, h1⟩ := okO_tup o1
        obtain ⟨m', em', h2'⟩ := okO_tup o2
        have em : m = 19 := by omega
        have em' : m' = 19 := by omega
        subst em em'
        refine katLex_of (n := 19) (by omega) (x0 :: xr) (y0 :: yr) _ _ 0 _ _ h1 h2' (by simpa only [sameK] using kd) g4 k4 (fun hb _ d' hd' xs' => ?_) (by rw [Array.length_toList, Array.length_toList]) ⟨rfl, by simp only [ltQ]⟩
        cases hd'
        rw [hk0] at hb
        rintro rfl
        exact absurd hb (by show ¬ (Value.type "tuple" != Value.type "tuple") = true; decide)
section
variable {X : Cx} {cm : Nat → Value} {av : Addr → Prop}
theorem rs_refs {K : PySem.W.Frag} {H : Hp} : ∀ {ds : List D} {vs : List V}, Rs K cm H av vs ds → (∀ d ∈ ds, ∃ e r, d = .tup (e :: r)) → ∀ v ∈ vs, ∃ a, v = V.ref a
  | [], _, .nil, _, v, hv => by cases hv
  | d :: ds, _, .cons r rs, h, v, hv => by
    rcases List.mem_cons.mp hv with rfl | hv
    · obtain ⟨e, s, rfl⟩ := h d List.mem_cons_self
      cases r with | tup _ _ => exact ⟨_, rfl⟩
    · exact rs_refs rs (fun x hx => h x (List.mem_cons_of_mem _ hx)) v hv
/-- each value with its datum, told by the heap -/
theorem rs_items {pins : List (Addr × Obj)} {σ : L2.St} {H : Hp} {s : Shared} (I : L2.Inv X pins σ H s) : ∀ {ds : List D} {vs : List V} {us : List Value}, Rs X.K cm H av vs ds → Vals vs us → ds.all (okO 20) = true →
    us.map (datOf s.heap) = ds ∧ ItemsQ s.heap us ds ∧ ∀ (v : V) (u : Value), v ∈ vs → RelV v u → (∀ a, v = V.ref a → u = Value.ref a) → R X.K cm H av v (datOf s.heap u)
  | [], _, _, .nil, .nil, _ => ⟨rfl, fun v hv => (by cases hv), fun v u hv => (by cases hv)⟩
  | d :: ds, _, _, .cons (v := v) r rs, .cons q qs, h => by
    rename_i us u
    simp only [List.all_cons, Bool.and_eq_true] at h
    obtain ⟨i1, i2, i3⟩ := rs_items I rs qs h.2
    have rd : ∀ u', RelV v u' → ∃ as, Reads s.heap u' (toPD d) as := fun u' q' => Dp.reads I (toPD d) v u' (dp_ok d 20 (okO_okN 20 d h.1) r) q'
    obtain ⟨as, r0⟩ := rd _ q
    have e := datOf_eq h.1 r0
    refine ⟨by rw [List.map_cons, e, i1], fun w hw => ?_, fun w u' hw q' hr => ?_⟩
    · rcases List.mem_cons.mp hw with rfl | hw
      · exact ⟨d, List.mem_cons_self, as, r0⟩
      · obtain ⟨d', hd', z⟩ := i2 w hw
        exact ⟨d', List.mem_cons_of_mem _ hd', z⟩
    · rcases List.mem_cons.mp hw with rfl | hw
      · obtain ⟨as', r'⟩ := rd _ q'
        rw [datOf_eq h.1 r']
        exact r
      · exact i3 w u' hw q' hr
theorem strs_rs {K : PySem.W.Frag} {H : Hp} : ∀ {ds : List D} {vs : List V} {xs : List Str}, Rs K cm H av vs ds → strsD ds = some xs → vs = xs.map V.str ∧ ds = xs.map D.str
  | [], _, xs, .nil, e => by simp only [strsD, Option.some.injEq] at e; subst e; exact ⟨rfl, rfl⟩
  | d :: ds, _, xs, .cons r rs, e => by
    cases d <;> simp only [strsD, reduceCtorEq] at e
    rw [Option.map_eq_some_iff] at e
    obtain ⟨ys, e, rfl⟩ := e
    obtain ⟨h1, h2⟩ := strs_rs rs e
    cases r
    exact ⟨by rw [h1]; rfl, by rw [h2]; rfl⟩
theorem rs_strs {K : PySem.W.Frag} {H : Hp} : ∀ xs : List Str, Rs K cm H av (xs.map V.str) (xs.map D.str)
  | [] => .nil
  | x :: xs => .cons (.str x) (rs_strs xs)
theorem risingS_le : ∀ (xs : List Str) (p : Str), PyProof.Rows.risingS p xs = true → ∀ x ∈ xs, ltQ (.str x) (.str p) = false
  | [], _, _, x, hx => by cases hx
  | y :: r, p, h, x, hx => by
    simp only [PyProof.Rows.risingS, Bool.and_eq_true, Bool.not_eq_true'] at h
    rw [PyProof.Rows.ltCps_eq] at h
    have h1 : ltQ (.str y) (.str p) = false := by simp only [ltQ]; exact h.1
    rcases List.mem_cons.mp hx with rfl | hx
    · exact h1
    · exact ltQ_tr _ _ _ h1 (risingS_le r y h.2 x hx)
theorem sortedS_le : ∀ {ys : List Str}, sortedS ys = true → (ys.map D.str).Pairwise fun a b => ltQ b a = false
  | [], _ => .nil
  | y :: r, h => by
    have h : PyProof.Rows.risingS y r = true := h
    refine .cons (fun d hd => ?_) (sortedS_le ?_)
    · obtain ⟨x, hx, rfl⟩ := List.mem_map.mp hd
      exact risingS_le r y h x hx
    · cases r with
      | nil => rfl
      | cons x r =>
        simp only [PyProof.Rows.risingS, Bool.and_eq_true] at h
        exact h.2
theorem sortStr_uniq {l m : List Str} (p : l.Perm m) (h : (l.map D.str).Pairwise fun a b => ltQ b a = false) : l.map D.str = (m.map D.str).mergeSort leQ := by
  refine List.Perm.eq_of_pairwise (le := fun a b => ltQ b a = false) (fun a b ha hb h1 h2 => ?_) h ?_ ((p.map _).trans (List.mergeSort_perm _ _).symm)
  · obtain ⟨x, hx, rfl⟩ := List.mem_map.mp ha
    obtain ⟨y, hy, rfl⟩ := List.mem_map.mp ((List.mergeSort_perm _ leQ).mem_iff.mp hb)
    simp only [ltQ] at h1 h2
    have h1 := of_decide_eq_false h1
    have h2 := of_decide_eq_false h2
    have h2 : y.cps.toList ≤ x.cps.toList := h2
    rcases List.le_iff_lt_or_eq.mp h2 with h3 | h3
    · exact absurd h3 h1
    · rw [str_cps h3]
  · exact (List.pairwise_mergeSort leQ_trans leQ_total (m.map D.str)).imp fun {a b} h => by unfold leQ at h; simpa using h
theorem rBi_sorted (hu : X.A.units + 65 < cLine) : CallR X (.builtin "sorted") (rBi X.K cm sortedB av) := by
  intro pins s σ H xs us Q I r h
  obtain ⟨ds, fr, d, rx, hf, q⟩ := h
  unfold sortedB at hf
  split at hf
  case h_2 => cases hf
  rename_i xs0
  rw [Option.map_eq_some_iff] at hf
  obtain ⟨ys, e, hf⟩ := hf
  cases hf
  unfold sortD at e
  split at e
  · rename_i ys' e2
    cases e
    exact rBi_sorted2 pins s σ H xs us Q I r ⟨_, _, _, rx, by simp only [sortedB2, e2]; rfl, q⟩
  · split at e
    case isFalse => cases e
    rename_i hc
    cases e
    simp only [Bool.and_eq_true, decide_eq_true_eq, Bool.or_eq_true] at hc
    obtain ⟨hl, hc⟩ := hc
    obtain ⟨x, rfl, hx⟩ := rx1 rx
    obtain ⟨a, vs, ea, ha, rs⟩ := hx.lst
    rcases hc with hc | hc
    · obtain ⟨zs, ez⟩ := Option.isSome_iff_exists.mp hc
      obtain ⟨h1, h2⟩ := strs_rs rs ez
      subst h1 h2
      refine cr_sortedS pins s σ H _ us Q I r ⟨a, zs, by rw [ea], SqL.of ha, by rw [List.length_map] at hl; omega, fun ys p pm hs hp => q _ _ (.lst hp ?_)⟩
      rw [← sortStr_uniq pm (sortedS_le hs)]
      exact rs_strs ys
    · obtain ⟨ok1, ok2⟩ := okSort_at hc
      obtain ⟨its, rv, hls, hz⟩ := I.list (SqL.of ha)
      obtain ⟨u, rfl, ru⟩ := vals1 r
      rw [ea] at ru
      obtain rfl : u = Value.ref a := ru
      obtain ⟨e1, e2⟩ := refs_back rv (rs_refs rs ok2)
      have hall : xs0.all (okO 20) = true := List.all_eq_true.mpr fun x hx => (ok1 x hx).1
      obtain ⟨d1, d2, d3⟩ := rs_items I rs rv hall
      refine SrtO.sorted_ord (ltv := fun v u => ltQ (datOf s.heap v) (datOf s.heap u)) ⟨fun x y h => swoQ.asym _ _ h, fun x y z h h' => swoQ.tr _ _ _ h h'⟩ hls.isList (by rw [← rv.length]; exact hz) (fun h2 h₁ a' ha' kk => ?_) fun out hs hb => ?_
      · exact sortableQ (by show X.A.units + 1 + 1 + 30 < _; omega) hc h2 d2 kk
      · have h3 : ∀ u ∈ out, ∃ a, u = Value.ref a := fun u hu => e2 u (hb.perm.mem_iff.mp hu)
        have pm : (out.map (datOf s.heap)).Perm xs0 := by rw [← d1]; exact hb.perm.map _
        have eo : out.map (datOf s.heap) = xs0.mergeSort leQ := sortQ_uniq pm ok1 (List.pairwise_map.mpr hs)
        have old : ∀ b o, s.heap.get? b = some o → (sortedAll s.heap its out.toArray).get? b = some o := fun b o e => sortedAll_old e
        obtain ⟨n, hn⟩ := sortedAll_at s.heap its out.toArray
        refine ⟨.ref _, upd H (s.heap.objs.size + 1) (.lst (out.map backV)), I.laid (t' := s.toks) old (Nat.le_succ _) ⟨?_, out, n, vals_back h3, hn⟩, rfl, q _ _ (.lst (I.hok.fresh (Nat.le_succ _)) ?_)⟩
        · rw [List.length_map, hb.perm.length_eq, ← rv.length]; exact hz
        · rw [← eo]
          have aux : ∀ l : List Value, (∀ u ∈ l, u ∈ out) → Rs X.K cm H av (l.map backV) (l.map (datOf s.heap)) := by
            intro l
            induction l with
            | nil => intro _; exact .nil
            | cons u l ih =>
              intro hm
              obtain ⟨t, rfl⟩ := h3 u (hm u List.mem_cons_self)
              refine .cons (d3 _ _ ?_ rfl fun a e => by cases e; rfl) (ih fun w hw => hm w (List.mem_cons_of_mem _ hw))
              rw [e1]
              exact List.mem_map.mpr ⟨_, hb.perm.mem_iff.mp (hm _ List.mem_cons_self), rfl⟩
          exact aux out fun u hu => hu
end
end PD
set_option maxHeartbeats 4000000
set_option maxRecDepth 10000
namespace PD
open PySem PySem.Spec PyProof.Rows L2
/-! F4t: list(range(..)), tuple(range(..)). -/
theorem rgC_pos {a b c : Int} (ha : -10000 ≤ a ∧ a ≤ 10000) (hb : -10000 ≤ b ∧ b ≤ 10000) (hc : 1 ≤ c ∧ c ≤ 1000000) : RgC a b c (stepN a b c) ∧ stepN a b c ≤ 2 ^ 24 := by
  have cp : 0 < c := by omega
  have hs : Builtin.Range.rangeSize a b c = (stepN a b c : Nat) := by
    unfold Builtin.Range.rangeSize stepN
    rw [if_pos cp]
    split
    · have : 0 ≤ (b - a - 1) / c := Int.ediv_nonneg (by omega) (by omega)
      omega
    · rfl
  have hl : stepN a b c ≤ 20000 := by
    unfold stepN
    split
    · have : (b - a - 1) / c ≤ b - a - 1 := Int.ediv_le_self _ (by omega)
      omega
    · omega
  have hm : (b - a - 1) / c * c ≤ b - a - 1 := Int.ediv_mul_le _ (by omega)
  refine ⟨⟨by omega, by omega, ?_, hs⟩, by omega⟩
  unfold Builtin.Range.small
  rw [hs]
  simp only [Builtin.Range.rangeFitsLong, Bool.and_eq_true, Bool.or_eq_true, decide_eq_true_eq, beq_iff_eq, cp, if_true]
  omega
theorem rgC_one {a b : Int} (ha : -10000 ≤ a ∧ a ≤ 10000) (hb : -10000 ≤ b ∧ b ≤ 10000) : RgC a b 1 (b - a).toNat ∧ (b - a).toNat ≤ 2 ^ 24 :=
  ⟨⟨by decide, by decide, small_one (by omega) (by omega) (by omega) (by omega), rangeSize_nat a b⟩, by omega⟩
/-- the numbers a, a + c, .. -/
def rgCV (a c : Int) (n : Nat) : List V := (List.range n).map fun i => V.int (a + (i : Nat) * c)
theorem vals_rgC {a c : Int} {n : Nat} {acc : Array Value} (h : ItemsOf (fun i v => ∃ t, v = .int (a + i * c) t) acc n) : Vals (rgCV a c n) acc.toList := by
  have e : acc.toList.length = n := by rw [Array.length_toList]; exact h.1
  unfold rgCV
  rw [← e]
  refine vals_of_get acc.toList _ fun j u hj => ?_
  obtain ⟨t, rfl⟩ := h.2 j u (by rw [← hj, Array.getElem?_toList])
  exact ⟨t, rfl⟩
section
variable {X : Cx} {cm : Nat → Value} {av : Addr → Prop} {es : List Expr}
theorem rs_rgC {K : PySem.W.Frag} {H : Hp} (a c : Int) (n : Nat) : Rs K cm H av (rgCV a c n) (rangeC a c n) := by
  unfold rgCV rangeC
  generalize List.range n = l
  induction l with
  | nil => exact .nil
  | cons i r ih => exact .cons (.int _) ih
theorem rangeL_C (a : Int) (n : Nat) : rangeL a n = rangeC a 1 n := by
  unfold rangeL rangeC
  apply List.map_congr_left
  intro k _
  rw [Int.mul_one]
/-- the range made of such data -/
theorem rng_made {pins : List (Addr × Obj)} {s : Shared} {σ : L2.St} {H : Hp} {vs : List V} {us : List Value} {ds xs : List D} {Q : Value → Shared → Prop} (I : L2.Inv X pins σ H s) (r : Vals vs us) (rx : RXs X.K cm H av vs ds) (e : rngD ds = some xs)
    (h : ∀ (a b c : Int) (n : Nat) (t u v : Tok) (p : Addr) (s' : Shared), xs = rangeC a c n → RgC a b c n → n ≤ 2 ^ 24 → IsRange s'.heap p a b c t u v → L2.Inv X pins σ H s' → Q (.ref p) s') :
    wpAny (model X.prog X.w) X.A (call (.type "range") us) Q X.xe s := by
  unfold rngD at e
  split at e
  · split at e
    · rename_i n hn
      cases e
      obtain ⟨x, rfl, hx⟩ := rx1 rx
      rw [hx.int] at r
      obtain ⟨u, rfl, ru⟩ := vals1 r
      obtain ⟨t, rfl⟩ := ru
      have g := rgC_one (a := 0) (b := n) (by decide) hn
      rw [Int.sub_zero] at g
      exact call_range_1 (h 0 n 1 n.toNat _ _ _ _ _ (rangeL_C _ _) g.1 g.2 (IsRange.new _ _ _ _ _ _ _) (I.kept fun b u e => Heap.get?_push_of_some _ e))
    · cases e
  · split at e
    · rename_i a b hn
      cases e
      obtain ⟨x, y, rfl, hx, hy⟩ := rx2 rx
      rw [hx.int, hy.int] at r
      obtain ⟨u1, u2, rfl, r1, r2⟩ := vals2 r
      obtain ⟨t, rfl⟩ := r1
      obtain ⟨t', rfl⟩ := r2
      have g := rgC_one hn.1 hn.2
      exact call_range_2 (h a b 1 _ _ _ _ _ _ (rangeL_C _ _) g.1 g.2 (IsRange.new _ _ _ _ _ _ _) (I.kept fun b u e => Heap.get?_push_of_some _ e))
    · cases e
  · split at e
    · rename_i a b c hn
      cases e
      cases rx with
      | cons hx rx =>
        obtain ⟨y, z, rfl, hy, hz⟩ := rx2 rx
        rw [hx.int, hy.int, hz.int] at r
        cases r with
        | cons r1 r =>
          obtain ⟨u2, u3, rfl, r2, r3⟩ := vals2 r
          obtain ⟨t, rfl⟩ := r1
          obtain ⟨t', rfl⟩ := r2
          obtain ⟨t'', rfl⟩ := r3
          have g := rgC_pos hn.1.1 hn.1.2 hn.2
          exact call_range_3 g.1.1 (h a b c _ _ _ _ _ _ rfl g.1 g.2 (IsRange.new ..) (I.kept (t' := s.toks) fun b o e => Heap.get?_push_of_some _ e)) (.inl (PyProof.noPylong_small g.1.2.1))
    · cases e
  · cases e
variable {e : Expr} {p p2 q pos : Pos}
theorem pe_rngArg {pins : List (Addr × Obj)} {s : Shared} {σ : L2.St} {H : Hp} {Q : Value → Shared → Prop} {R : List V → Hp → Prop} (hg2 : Gl X "range") (hm2 : X.mg "range" = none) (ne : ∃ e0 r, es = e0 :: r ∧ starEach es X.env = (false, eval e0 X.env) :: starEach r X.env ∧ (backTo q (starEach r X.env)).any (·.1) = false)
    (I : L2.Inv X pins σ H s) (h : SemA X es σ H R) (hR : ∀ vs H1 us s1, L2.Inv X pins σ H1 s1 → Vals vs us → R vs H1 → wpAny (model X.prog X.w) X.A (call (.type "range") us) Q X.xe s1) :
    wpAny (model X.prog X.w) X.A (eval (.Call (.Name "range" p2) es [] q) X.env) Q X.xe s := by
  obtain ⟨e0, r, rfl, hs, hpl⟩ := ne
  refine Call_ (ld_blt I hg2 hm2 boot_range (PyProof.Rows.callWith_type1 (thn (h q pins s I) fun us s1 ⟨vs, H1, I1, r1, q1⟩ => ?_) hs hpl))
  exact hR vs H1 us s1 I1 r1 q1
theorem pe_lstRng (hc : X.calm = true) (hg : Gl X "list") (hm : X.mg "list" = none) (hg2 : Gl X "range") (hm2 : X.mg "range" = none) (ne : ∃ e0 r, es = e0 :: r ∧ starEach es X.env = (false, eval e0 X.env) :: starEach r X.env ∧ (backTo q (starEach r X.env)).any (·.1) = false) :
    PE X (.Call (.Name "list" p) [.Call (.Name "range" p2) es [] q] [] pos) (fun σ H Q => SemA X es σ H fun vs H1 => rBi X.K cm lstRngB av vs H1 Q) := by
  refine ⟨fun pins s σ H Q I h => ?_⟩
  refine Call_ (ld_blt I hg hm boot_list (PyProof.Rows.callWith_type1 (args_cons (pe_rngArg hg2 hm2 ne I h fun vs H1 us s1 I1 r1 ⟨ds, fr, d, rx, e1, q1⟩ => ?_) rfl) rfl))
  unfold lstRngB at e1
  rw [Option.map_eq_some_iff] at e1
  obtain ⟨xs, ex, e1⟩ := e1
  cases e1
  refine rng_made I1 r1 rx ex fun a b c n t u v r s2 e2 g gl hr I2 => args_nil ?_
  subst e2
  refine call_list_range (n := n) (I2.ok.hd hc) hr g.2.2.1 g.2.2.2 gl fun h' tk acc c' hk e' hi => ?_
  refine ⟨.ref s2.heap.objs.size, upd H1 s2.heap.objs.size (.lst (rgCV a c n)), I2.laid hk (Nat.le_refl _) (show ObjOk X.prog X.w _ _ _ (.lst (rgCV a c n)) from ⟨?_, acc.toList, c', vals_rgC hi, ?_⟩), rfl, q1 _ _ (.lst (I2.hok.fresh (Nat.le_refl _)) (rs_rgC a c n))⟩
  · unfold rgCV
    rw [List.length_map, List.length_range, sizeLine_eq]; omega
  · rw [Array.toArray_toList]; exact e'
theorem pe_tupRng (hc : X.calm = true) (hg : Gl X "tuple") (hm : X.mg "tuple" = none) (hg2 : Gl X "range") (hm2 : X.mg "range" = none) (ne : ∃ e0 r, es = e0 :: r ∧ starEach es X.env = (false, eval e0 X.env) :: starEach r X.env ∧ (backTo q (starEach r X.env)).any (·.1) = false) :
    PE X (.Call (.Name "tuple" p) [.Call (.Name "range" p2) es [] q] [] pos) (fun σ H Q => SemA X es σ H fun vs H1 => rBi X.K cm tupRngB av vs H1 Q) := by
  refine ⟨fun pins s σ H Q I h => ?_⟩
  refine Call_ (ld_blt I hg hm boot_tuple (PyProof.Rows.callWith_type1 (args_cons (pe_rngArg hg2 hm2 ne I h fun vs H1 us s1 I1 r1 ⟨ds, fr, d, rx, e1, q1⟩ => ?_) rfl) rfl))
  unfold tupRngB at e1
  rw [Option.map_eq_some_iff] at e1
  obtain ⟨xs, ex, e1⟩ := e1
  cases e1
  refine rng_made I1 r1 rx ex fun a b c n t u v r s2 e2 g gl hr I2 => args_nil ?_
  subst e2
  refine call_tuple_range (n := n) (I2.ok.hd hc) hr g.2.2.1 g.2.2.2 gl fun h' tk acc hk hi => ?_
  have I3 : L2.Inv X pins σ H1 { s2 with heap := h', toks := tk } := I2.kept hk
  refine ⟨.ref h'.objs.size, upd H1 h'.objs.size (.tup (rgCV a c n)), I3.laid (t' := tk) (fun c o e => Heap.get?_push_of_some _ e) (Nat.le_refl _) (show ObjOk X.prog X.w _ _ _ (.tup (rgCV a c n)) from ⟨?_, acc.toList, vals_rgC hi, ?_⟩), rfl, q1 _ _ (.tup (I3.hok.fresh (Nat.le_refl _)) (rs_rgC a c n))⟩
  · unfold rgCV
    rw [List.length_map, List.length_range, sizeLine_eq]; omega
  · rw [Array.toArray_toList]; exact IsTup.new _ _
end
end PD
set_option maxHeartbeats 1000000
namespace PD
open PySem PySem.Spec PyProof.Rows L2
/-! F4u: xs[::2] of tuples. -/
section
variable {X : Cx} {cm : Nat → Value} {W : WX} {av : Addr → Prop} {H0 H : Hp} {σ : L2.St} {st : List Slot} {e a b c : Expr} {pos p : Pos}
theorem evens_len {α : Type} : ∀ l : List α, (evens l).length ≤ l.length
  | [] => Nat.le_refl _
  | [a] => Nat.le_refl _
  | a :: b :: r => by
    have := evens_len r
    simp only [evens, List.length_cons]; omega
theorem evens_get {α : Type} : ∀ (l : List α) (m : Nat), (evens l)[m]? = l[2 * m]?
  | [], m => by simp [evens]
  | [a], m => by
    cases m with
    | zero => rfl
    | succ m => simp [evens]
  | a :: b :: r, m => by
    cases m with
    | zero => rfl
    | succ m =>
      have := evens_get r m
      rw [show 2 * (m + 1) = 2 * m + 2 by omega]
      simpa [evens] using this
theorem vals_ev : ∀ {vs : List V} {us : List Value}, Vals vs us → Vals (evens vs) (evens us)
  | _, _, .nil => .nil
  | _, _, .cons a .nil => .cons a .nil
  | _, _, .cons a (.cons _ r) => .cons a (vals_ev r)
theorem rs_ev {K : PySem.W.Frag} {H : Hp} : ∀ {vs : List V} {ds : List D}, Rs K cm H av vs ds → Rs K cm H av (evens vs) (evens ds)
  | _, _, .nil => .nil
  | _, _, .cons a .nil => .cons a .nil
  | _, _, .cons a (.cons _ r) => .cons a (rs_ev r)
theorem adj_ev (n : Nat) : Builtin.Slice.sliceAdjust none none 2 (n : Int) = (0, (n : Int)) := rfl
theorem filterMap_pre {α : Type} (f : Nat → Option α) : ∀ (n : Nat) (l : List α), (∀ m, m < n → f m = l[m]?) → l.length = n → (List.range n).filterMap f = l
  | 0, l, _, h => by rw [List.length_eq_zero_iff.mp h]; rfl
  | n + 1, l, hf, hl => by
    cases l with
    | nil => simp at hl
    | cons a r =>
      rw [List.range_succ_eq_map, List.filterMap_cons, hf 0 (by omega), List.filterMap_map]
      simp only [List.getElem?_cons_zero]
      rw [filterMap_pre (f ∘ Nat.succ) n r (fun m hm => by rw [Function.comp, hf (m + 1) (by omega)]; rfl) (by simpa using hl)]
theorem places_ev {α : Type} : ∀ l : List α, (evens l).length = (l.length + 1) / 2
  | [] => by simp [evens]
  | [a] => by simp [evens]
  | a :: b :: r => by
    have := places_ev r
    simp only [evens, List.length_cons]; omega
theorem pick_ev (xs : Array Value) : ((List.range (Builtin.Slice.slicePlaces 0 (xs.size : Int) 2)).filterMap fun (m : Nat) => xs[((0 : Int) + (m : Int) * 2).toNat]?).toArray = (evens xs.toList).toArray := by
  congr 1
  have hp : Builtin.Slice.slicePlaces 0 (xs.size : Int) 2 = (evens xs.toList).length := by
    rw [places_ev, Array.length_toList]
    unfold Builtin.Slice.slicePlaces
    rw [if_pos (by decide)]
    split <;> omega
  rw [hp]
  refine filterMap_pre _ _ _ (fun m _ => ?_) rfl
  rw [evens_get, Array.getElem?_toList]
  congr 1
  omega
section
variable {prog : Program} {w : World} {A : Around} {E : Value → Shared → Prop} {s : Shared}
theorem getItem_tuple_ev {t sl : Addr} {items : Array Value} {vs : Value} {Q : Value → Shared → Prop} (ht : IsTup s.heap t items) (hs : s.heap.IsSliceOf sl .none .none vs) (ps : IsPart vs (some 2))
    (h : Q (.ref s.heap.objs.size) { s with heap := s.heap.push { cls := .type "tuple", data := .seq (evens items.toList).toArray } })
    (hsz : items.size ≤ sizeLine) : wpAny (model prog w) A (getItem (.ref t) (.ref sl)) Q E s := by
  have htake : sizeOk (.seq (evens items.toList).toArray) := by
    show (evens items.toList).toArray.size ≤ sizeLine
    rw [List.size_toArray]
    exact Nat.le_trans (evens_len _) (by rw [Array.length_toList]; exact hsz)
  obtain ⟨os, hos, hcs, hds⟩ := id hs
  have hTs : s.TypeIs (.ref sl) "slice" := ⟨os, hos, hcs⟩
  unfold getItem
  try with_reducible refine wpAny_holding ?_
  first | refine wpAny_bind (wpAny_pure ?_) | skip
  refine wpAny_bind (wpAny_sequenceKey ht.typeIs (by decide) ?_)
  refine wpAny_bind (wpAny_callSpecial?_slot (name := Str.ofString "__getitem__") ht.typeIs PyProof.Rows.slot_tuple_getitem
    (wpAny_call_entry PyProof.Rows.slot_tuple_getitem ht.typeIs entry_tuple_getitem ?_ (args_tuple_getitem _ _)))
  show wpAny _ _ (Builtin.Tuple.tupleItemsOf (.ref t) >>= _) _ _ s
  refine wpAny_bind (tupleItemsOf_ ht ?_)
  refine wpAny_bind (wpAny_typeOf hTs ?_)
  rw [if_pos (by decide)]
  refine wpAny_bind (m := Builtin.Slice.sliceApplied (.ref sl) (pure (items.size : Int))) ?_
  unfold Builtin.Slice.sliceApplied Builtin.Slice.sliceFields
  refine wpAny_bind (wpAny_bind (wpAny_field hos hds (x := .none) rfl (wpAny_bind (wpAny_field hos hds (x := .none) rfl (wpAny_bind (wpAny_field hos hds (x := vs) rfl (wpAny_pure ?_)))))))
  refine wpAny_bind (HT.slicePart_ ps ?_)
  show wpAny _ _ (if ((2 : Int) == 0) = true then _ else _) _ _ s
  rw [if_neg (by decide)]
  refine wpAny_bind (HT.slicePart_ .none (wpAny_bind (HT.slicePart_ .none (wpAny_bind (wpAny_pure ?_)))))
  show wpAny _ _ (match Builtin.Slice.sliceAdjust none none 2 (items.size : Int) with | (lo, hi) => pure (lo, (2 : Int), Builtin.Slice.slicePlaces lo hi 2)) _ _ s
  rw [adj_ev]
  show wpAny _ _ (pure ((0 : Int), (2 : Int), Builtin.Slice.slicePlaces 0 (items.size : Int) 2)) _ _ s
  refine wpAny_pure ?_
  have hno : ¬ (((0 : Int) == 0 && (2 : Int) == 1 && Builtin.Slice.slicePlaces 0 (items.size : Int) 2 == items.size) = true) := by
    rw [show ((2 : Int) == 1) = false by decide, Bool.and_false, Bool.false_and]
    exact Bool.false_ne_true
  show wpAny _ _ (if ((0 : Int) == 0 && (2 : Int) == 1 && Builtin.Slice.slicePlaces 0 (items.size : Int) 2 == items.size) = true then _ else _) _ _ s
  rw [if_neg hno, pick_ev]
  first
    | exact wpAny_bind (m := Builtin.Tuple.tupleExact _) (wpAny_newObj_type (wpAny_pure ⟨_, rfl, wpAny_pure h⟩) htake)
    | exact wpAny_bind (m := Builtin.Tuple.tupleExact _) (wpAny_newObj_type (wpAny_bind (wpAny_pure (wpAny_pure ⟨_, rfl, wpAny_pure h⟩))) htake)
end
def tEvT (K : PySem.W.Frag) (te : TE) : TE := fun σ H Q => te σ H fun x H1 => ∃ a xs, x = .ref a ∧ SqT K H1 a xs ∧ ∀ p, H1 p = none → Q (.ref p) (upd H1 p (.tup (evens xs)))
theorem pe_evT {e : Expr} {te : TE} {k : Nat} {p1 p3 pos : Pos} (he : PE X e te) : PE X (.Subscript e (.Slice none none (some (.Constant (.int 2) k p1)) p3) pos) (tEvT X.K te) := by
  refine ⟨fun pins s σ H Q I h => ?_⟩
  refine Subscript_ (thn (he.run pins s σ H _ I h) fun v s1 ⟨x, H1, I1, r1, q1⟩ => ?_)
  obtain ⟨a, xs, ex, hx, q⟩ := q1
  subst ex
  cases r1
  have hst : PO X (some (.Constant (.int 2) k p1)) (tPart (tC (.int 2))) := po_some pe_int
  refine wpAny_Slice (thn (po_none.run pins s1 σ H1 (fun o H2 => o = none ∧ H2 = H1) I1 ⟨rfl, rfl⟩) fun vl s2 ⟨l, H2, I2, pl, el, e2⟩ => ?_)
  subst el e2
  cases pl
  refine thn (po_none.run pins s2 σ H2 (fun o H3 => o = none ∧ H3 = H2) I2 ⟨rfl, rfl⟩) fun vu s3 ⟨u, H3, I3, pu, eu, e3⟩ => ?_
  subst eu e3
  cases pu
  refine thn (hst.run pins s3 σ H3 (fun o H4 => o = some 2 ∧ H4 = H3) I3 ⟨2, rfl, rfl, rfl⟩) fun vs s4 ⟨o, H4, I4, ps, eo, e4⟩ => ?_
  subst eo e4
  have I5 : Inv X pins σ H4 { s4 with heap := s4.heap.push { cls := .type "slice", data := .fields #[.none, .none, vs] } } := I4.kept (t' := s4.toks) fun b ob q => Heap.get?_push_of_some _ q
  obtain ⟨its, r, ht, hz⟩ := I5.tuple hx
  have hlen := r.length
  show wpAny (model X.prog X.w) X.A (subscriptTail e (.Slice none none (some (.Constant (.int 2) k p1)) p3) (.ref a) (.ref s4.heap.objs.size)) (EP X pins σ Q) X.xe { s4 with heap := s4.heap.push { cls := .type "slice", data := .fields #[.none, .none, vs] } }
  refine tail_any (ops := [.ref a, .ref s4.heap.objs.size]) ht.typeIs (PyProof.Rows.slot_tuple_getitem.lookup) ?_ (by with_unfolding_all rfl)
  refine getItem_tuple_ev ht (Heap.IsSliceOf.new _ .none .none vs) ps ?_ (by rw [List.size_toArray]; omega)
  refine ⟨.ref _, _, I5.laid (t' := s4.toks) (o := .tup (evens xs)) (fun b ob q => Heap.get?_push_of_some _ q) (Nat.le_refl _) ?_, rfl, q _ (I5.hok.fresh (Nat.le_refl _))⟩
  exact ⟨Nat.le_trans (evens_len _) hz, _, vals_ev r, IsTup.new _ _⟩
def ruEv (K : PySem.W.Frag) : Unit → (Addr → Prop) → V → Hp → VK → Prop
  | _, _, v, H, Q => ∃ a xs, v = .ref a ∧ SqT K H a xs ∧ ∀ p, H p = none → Q (.ref p) (upd H p (.tup (evens xs)))
theorem okE_ev {k : Nat} {p1 p3 : Pos} {fa : List Slot → Res Opd} (ha : OkO X cm W a fa) : OkE X cm W (.Subscript a (.Slice none none (some (.Constant (.int 2) k p1)) p3) pos) (fun st => (fa st).th fun x st => match rs1 st x with
      | some (.tup xs) => .ok (false, .tup (evens xs)) st
      | _ => .bad) := by
  refine okE_o1 (rule := ruEv X.K) (sel := fun _ _ => ()) (fun i av => pe_evT peS) ha fun av H0 st σ avH H H2 Q x v S k r h => ?_
  cases e1 : rs1 st x with
  | none => rw [e1] at h; exact h.elim
  | some d =>
    rw [e1] at h
    have lx := r.look S e1
    cases d with
    | tup xs =>
      obtain ⟨a, vs, ea, ha, rs⟩ := lx.tup
      exact ⟨a, vs, ea, SqT.of ha, fun p hp => h _ _ (.of_vn (av0 := av) S k (.tup hp (rs_ev rs)))⟩
    | _ => exact h.elim
end
end PD
set_option maxHeartbeats 2000000
/-! F5: the static look: a text of the program against the small syntax; its soundness. -/
namespace PD
open PySem PySem.Spec PyProof.Rows L2
/-- names by slot, the scope that runs, the written scope of a block, the defs' names -/
structure Ctx where
  N : List Str
  sc : Scope
  raw : Option Scope
  fn : Nat → Option Str
  ex : Nat → Option Str
  gl : Str → Option Int
  ei : Bool
def blts : List Str := ["range", "len", "abs", "min", "max", "sum", "any", "all", "sorted", "tuple", "list", "dict", "int", "str", "set", "zip", "enumerate", "isinstance", "bool", "ValueError"]
def visB (sc : Scope) (x : Str) : Bool := match sc.names.lookup x with | some .local => true | some .cell => true | some .free => true | _ => false
def glB (sc : Scope) (x : Str) : Bool := match sc.names.lookup x with | some .globalImplicit => true | _ => false
def dunder (x : Str) : Bool := decide (x = "__debug__") || decide (x = "__classdict__") || decide (x = "__name__")
def notSt : Expr → Bool | .Starred _ _ => false | _ => true
def notSl : Expr → Bool | .Slice _ _ _ _ => false | _ => true
def notSet : Expr → Bool | .Set _ _ _ => false | _ => true
def notLc : Expr → Bool | .ListComp _ _ _ _ => false | .SetComp _ _ _ _ => false | .DictComp _ _ _ _ _ => false | _ => true
/-- as a test it is its value's truth -/
def plainT : Expr → Bool | .UnaryOp .Not _ _ => false | .BoolOp _ _ _ => false | .IfExp _ _ _ _ => false | .Compare _ _ _ _ => false | _ => true
def Es.len : Es → Nat | .nil => 0 | .cons _ r => r.len + 1
def cstB : Cst → Const → Bool
  | .non, .none => true | .bl b, .bool c => b == c | .int i, .int j => i == j | .str x, .str y => decide (x = y) | _, _ => false
/-- a block's scope as it runs -/
def blkS (scope sc : Scope) : Scope := relS scope sc
mutual
def chkTg (cx : Ctx) : Tg → Expr → Bool
  | .nm i, .Name x _ => decide (cx.N[i]? = some x) && (match cx.sc.names.lookup x with | some .local => true | some .cell => (match cx.raw with | none => true | some r => decide (r.names.lookup x = some .cell)) | _ => false)
  | .tup ts, .Tuple es _ _ => chkTgs cx ts es
  | _, _ => false
def chkTgs (cx : Ctx) : Tgs → List Expr → Bool
  | .nil, [] => true
  | .cons t ts, e :: es => chkTg cx t e && notSt e && chkTgs cx ts es
  | _, _ => false
end
def bltN : Bi → Option Str
  | .len => some "len" | .abs => some "abs" | .min => some "min" | .max => some "max" | .sum => some "sum" | .any => some "any" | .all => some "all"
  | .tuple => some "tuple" | .list => some "list" | .int => some "int" | .sorted => some "sorted" | _ => none
def isTup : Expr → Bool | .Tuple _ _ _ => true | _ => false
def ifx : Expr → Bool | .IfExp _ _ _ _ => false | _ => true
/-- the parts of an expression that the look takes apart -/
def pName : Expr → Option Str | .Name x _ => some x | _ => none
def pTup : Expr → Option (List Expr) | .Tuple xs _ _ => some xs | _ => none
def pLst : Expr → Option (List Expr) | .List xs _ => some xs | _ => none
def pBin : Expr → Option (Operator × Expr × Expr) | .BinOp x o y _ => some (o, x, y) | _ => none
def pUn : Expr → Option (UnaryOp × Expr) | .UnaryOp o x _ => some (o, x) | _ => none
/-- the rest of a chain of and, or as one expression -/
def pBool : Expr → Option (BoolOp × Expr × Expr)
  | .BoolOp o (x :: y :: []) _ => some (o, x, y)
  | .BoolOp o (x :: y :: z :: r) p => some (o, x, .BoolOp o (y :: z :: r) p)
  | _ => none
def pCmp : Expr → Option (CmpOp × Expr × Expr) | .Compare x [o] [y] _ => some (o, x, y) | _ => none
def pIte : Expr → Option (Expr × Expr × Expr) | .IfExp c x y _ => some (c, x, y) | _ => none
def pCall : Expr → Option (Str × List Expr) | .Call (.Name x _) xs [] _ => some (x, xs) | _ => none
def pSub : Expr → Option (Expr × Expr) | .Subscript x y _ => if notSl y then some (x, y) else none | _ => none
def pSlF : Expr → Option (Expr × Expr) | .Subscript x (.Slice (some y) none none _) _ => some (x, y) | _ => none
def pSlT : Expr → Option (Expr × Expr) | .Subscript x (.Slice none (some y) none _) _ => some (x, y) | _ => none
def pLc : Expr → Option (Expr × Expr × Expr × List Expr × Scope) | .ListComp e [⟨t, i, c, 0⟩] s _ => some (e, t, i, c, s) | _ => none
def pCh : Expr → Option (Expr × CmpOp × CmpOp × Expr × Expr) | .Compare x [o, o'] [y, z] _ => some (x, o, o', y, z) | _ => none
def pRev : Expr → Option Expr | .Subscript x (.Slice none none (some (.UnaryOp .USub (.Constant (.int 1) _ _) _)) _) _ => some x | _ => none
def pEv : Expr → Option Expr | .Subscript x (.Slice none none (some (.Constant (.int 2) _ _)) _) _ => some x | _ => none
def pIsi : Expr → Option (Expr × Str) | .Call (.Name f _) [x, .Name T _] [] _ => if f = "isinstance" then some (x, T) else none | _ => none
def pLs : Expr → Option Expr | .Call (.Name f _) [.Call (.Name g _) [x] [] _] [] _ => if f = "len" ∧ g = "set" then some x else none | _ => none
def pSl : Expr → Option (Expr × Expr × Expr) | .Subscript x (.Slice (some y) (some z) none _) _ => some (x, y, z) | _ => none
def pSs : Expr → Option Expr | .Call (.Name f _) [.Call (.Name g _) [x] [] _] [] _ => if f = "sorted" ∧ g = "set" then some x else none | _ => none
def isSS : Bi → Bool | .sortedSet => true | _ => false
def pRg : Expr → Option (Str × List Expr) | .Call (.Name f _) [.Call (.Name g _) xs [] _] [] _ => if g = "range" then some (f, xs) else none | _ => none
def isLR : Bi → Bool | .lstRng => true | _ => false
def isTR : Bi → Bool | .tupRng => true | _ => false
def isLS : Bi → Bool | .lenSet => true | _ => false
def pDic : Expr → Option (List (Option Expr) × List Expr) | .Dict k v _ => some (k, v) | _ => none
def pGet : Expr → Option (Expr × Expr × Expr) | .Call (.Attribute o m ap) [b, c] [] cp => if m = "get" ∧ ap.endLine = cp.line then some (o, b, c) else none | _ => none
def isV : E → Bool | .v _ => true | _ => false
def pCix : Expr → Option (List Expr × Expr × List Expr) | .Call (.Subscript (.List ns _) i _) xs [] _ => if notSl i then some (ns, i, xs) else none | _ => none
def pM1 : Expr → Option (Expr × Str × Expr) | .Call (.Attribute o m ap) [b] [] cp => if ap.endLine = cp.line then some (o, m, b) else none | _ => none
def pM0 : Expr → Option (Expr × Str) | .Call (.Attribute o m ap) [] [] cp => if ap.endLine = cp.line then some (o, m) else none | _ => none
def namesB (cx : Ctx) : List Nat → List Expr → Bool
  | [], [] => true
  | f :: fs, .Name x _ :: es => decide (cx.fn f = some x) && glB cx.sc x && !dunder x && namesB cx fs es
  | _, _ => false
def mtN : Mt → Option Str
  | .count => some "count" | .index => some "index" | _ => none
def isXp : Bi → Option (Nat × Nat) | .isExc c n => some (c, n) | _ => none
def exAll (cx : Ctx) (n : Nat) : Bool := (List.range n).all fun k => (cx.ex k).isSome
def isGet : Mt → Bool | .get => true | _ => false
def pCst : Expr → Option Const | .Constant v _ _ => some v | _ => none
mutual
def chkE (cx : Ctx) : E → Expr → Bool
  | .c k, e => match pCst e with | some v => cstB k v | _ => false
  | .v i, e => match pName e with | some x => decide (cx.N[i]? = some x) && visB cx.sc x && !dunder x | _ => false
  | .tup es, e => match pTup e with | some xs => chkEs cx es xs && decide (es.len ≤ 1000) | _ => false
  | .lst es, e => match pLst e with | some xs => chkEs cx es xs && decide (es.len ≤ 1000) | _ => false
  | .bin o a b, e => match pBin e with | some (op, x, y) => decide (op = bopO o) && chkE cx a x && chkE cx b y | _ => false
  | .neg a, e => match pUn e with | some (op, x) => decide (op = .USub) && chkE cx a x | _ => false
  | .not a, e => match pUn e with | some (op, x) => decide (op = .Not) && chkE cx a x && ifx x | _ => false
  | .and a b, e => match pBool e with | some (op, x, y) => decide (op = .And) && chkE cx a x && ifx x && chkE cx b y && ifx y | _ => false
  | .or a b, e => match pBool e with | some (op, x, y) => decide (op = .Or) && chkE cx a x && ifx x && chkE cx b y && ifx y | _ => false
  | .cmp o a b, e => match pCmp e with | some (op, x, y) => decide (op = copO o) && copOk o && !behindInMarks op y && chkE cx a x && chkE cx b y | _ => false
  | .ite c a b, e => match pIte e with | some (z, x, y) => chkE cx c z && ifx z && chkE cx a x && chkE cx b y | _ => false
  | .call f es, e => match pCall e with | some (x, xs) => decide (cx.fn f = some x) && glB cx.sc x && !dunder x && chkEs cx es xs | _ => false
  | .chain o o' a b c, e => match pCh e with | some (x, op, op', y, z) => decide (op = copO o) && decide (op' = copO o') && copOk o && copOk o' && !lastMarks [op, op'] [y, z] && chkE cx a x && chkE cx b y && chkE cx c z | _ => false
  | .g q n, e => match pName e with | some x => (match q with | .int i => decide (x = n) && decide (cx.gl x = some i) && glB cx.sc x && !dunder x | _ => false) | _ => false
  | .dic t ks vs, e => !t && (match pDic e with | some (keys, values) => (match cPairs ks vs keys values with | some l => decide (1 ≤ l.length) && decide (l.length ≤ 15) | none => false) | _ => false)
  | .mt m a es, e => if isGet m then isV a && (match pGet e with | some (o, x, y) => chkE cx a o && chkEs cx es [x, y] | _ => false)
    else match pM1 e with | some (o, y, b) => decide (mtN m = some y) && isV a && chkE cx a o && chkEs cx es [b] | _ => false
  | .callIx fs i es, e => match pCix e with | some (ns, ie, xs) => namesB cx fs ns && chkE cx i ie && chkEs cx es xs && decide (1 ≤ es.len) && decide (fs.length ≤ 1000) | _ => false
  | .pop i, e => match pM0 e with | some (.Name x _, m) => decide (m = "pop") && decide (cx.N[i]? = some x) && visB cx.sc x && !dunder x | _ => false
  | .popAt i a, e => match pM1 e with | some (.Name x _, m, b) => decide (m = "pop") && decide (cx.N[i]? = some x) && visB cx.sc x && !dunder x && chkE cx a b && notSt b | _ => false
  | .even a, e => match pEv e with | some x => chkE cx a x | _ => false
  | .rev a, e => match pRev e with | some x => chkE cx a x | _ => false
  | .bi n es, e => match tyN n with
    | some T => (match pIsi e with | some (x, T') => decide (T' = Str.ofString T) && glB cx.sc "isinstance" && glB cx.sc T' && chkEs cx es [x] | _ => false)
    | none => match isXp n with
    | some (c, lim) => (match pIsi e with | some (x, T') => cx.ei && exAll cx lim && glB cx.sc "isinstance" && glB cx.sc T' && !dunder T' && (if c = 100 then decide (T' = "ValueError") else decide (cx.ex c = some T')) && chkEs cx es [x] | _ => false)
    | none => if isLR n then (match pRg e with | some (f, xs) => decide (f = "list") && glB cx.sc "list" && glB cx.sc "range" && decide (1 ≤ es.len) && chkEs cx es xs | _ => false) else if isTR n then (match pRg e with | some (f, xs) => decide (f = "tuple") && glB cx.sc "tuple" && glB cx.sc "range" && decide (1 ≤ es.len) && chkEs cx es xs | _ => false) else if isLS n then (match pLs e with | some x => glB cx.sc "len" && glB cx.sc "set" && chkEs cx es [x] | _ => false) else if isSS n then (match pSs e with | some x => glB cx.sc "sorted" && glB cx.sc "set" && chkEs cx es [x] | _ => false) else match pCall e with | some (x, xs) => decide (bltN n = some x) && glB cx.sc x && decide (1 ≤ es.len) && chkEs cx es xs | _ => false
  | .ix a b, e => match pSub e with | some (x, y) => chkE cx a x && chkE cx b y | _ => false
  | .slF a b, e => match pSlF e with | some (x, y) => chkE cx a x && chkE cx b y | _ => false
  | .slT a b, e => match pSlT e with | some (x, y) => chkE cx a x && chkE cx b y | _ => false
  | .sl a b c, e => match pSl e with | some (x, y, z) => chkE cx a x && chkE cx b y && chkE cx c z | _ => false
  | .lc elt tg k es cond own, e => match pLc e with
    | some (elt', tg', it, ifs, scope) =>
      blkC cx.N cx.sc scope (own.map fun i => (cx.N.getD i "", i)) && tg.slots.all (fun j => own.contains j) && notSet it &&
      chkTg { cx with sc := blkS scope cx.sc, raw := some scope } tg tg' && chkE { cx with sc := blkS scope cx.sc, raw := some scope } elt elt' &&
      (match ifs with
        | [] => cond.len == 0
        | [z] => cond.len == 1 && chkEs { cx with sc := blkS scope cx.sc, raw := some scope } cond [z] && ifx z
        | _ => false) &&
      (match k with
        | .seq => es.len == 1 && chkEs cx es [it]
        | .range => (match pCall it with | some (f, xs) => decide (f = "range") && glB cx.sc f && decide (1 ≤ es.len) && decide (es.len ≤ 3) && chkEs cx es xs | _ => false)
        | .zip => (match pCall it with | some (f, xs) => decide (f = "zip") && glB cx.sc f && decide (es.len = 2) && chkEs cx es xs && isTup tg' | _ => false)
        | .enum => (match pCall it with | some (f, xs) => decide (f = "enumerate") && glB cx.sc f && decide (es.len = 1) && chkEs cx es xs && isTup tg' | _ => false))
    | _ => false
def chkEs (cx : Ctx) : Es → List Expr → Bool
  | .nil, xs => xs.isEmpty
  | .cons e es, xs => match xs with | x :: xs => chkE cx e x && notSt x && chkEs cx es xs | [] => false
end
/-- the context is as the look takes it -/
structure Good (PT : Nat → Option FD) (k : Nat) (cm : Nat → Value) (cx : Ctx) (X : Cx) : Prop where
  N : X.N = cx.N
  sc : X.env.scope = cx.sc
  nd : X.N.Nodup
  calm : X.calm = true
  room : Room k X.A
  fnc : ∀ x : Str, cx.sc.names.lookup x = some .cell → (match cx.raw with | none => true | some r => decide (r.names.lookup x = some .cell)) = true → X.fn x = true
  fn : ∀ f x, cx.fn f = some x → ∃ np, FnAt X cm k (runL PT k f) np x
  blt : ∀ x ∈ blts, X.mg x = none
  glo : ∀ (x : Str) (i : Int), cx.gl x = some i → ∃ t, X.mg x = some (.int i t)
  exi : cx.ei = true → ∀ k x, cx.ex k = some x → ExI X.K cm cx.ex k
  exn : ∀ c x, cx.ex c = some x → ∃ (C : Addr) (bmB : List Value) (B newId initId : String), cm c = .ref C ∧ ExcBaseFacts B newId initId bmB ∧ PySem.W.excIn X.K C bmB newId = true ∧ X.mg x = some (.ref C) ∧ PySem.W.keepIn X.K (.ref C) = true ∧ Raises X (.ref C)
theorem Good.hu {PT : Nat → Option FD} {k : Nat} {cm : Nat → Value} {cx : Ctx} {X : Cx} (G : Good PT k cm cx X) : X.A.units + 65 < cLine := by have := G.room.un; omega
/-- in a block -/
theorem Good.blk {PT : Nat → Option FD} {k : Nat} {cm : Nat → Value} {cx : Ctx} {X : Cx} (G : Good PT k cm cx X) (scope : Scope) (hk : X.env.scope.kind = .function) (s : Shared) (H : Hp) (C : Addr) (cl : List (Str × Addr)) (fp : List Addr) :
    Good PT k cm { cx with sc := blkS scope cx.sc, raw := some scope } (X.blk s H scope (compEnvC scope cl C X.env) fp) where
  N := G.N
  sc := by
    have e := G.sc
    show relabel scope X.env = blkS scope cx.sc
    rw [← e]
    rfl
  nd := G.nd
  calm := G.calm
  room := G.room
  fnc := fun x _ h => by
    have h' : scope.names.lookup x = some .cell := of_decide_eq_true h
    show (scope.names.lookup x == some .cell) = true
    rw [h']; rfl
  fn := fun f x e => by
    obtain ⟨np, F⟩ := G.fn f x e
    exact ⟨np, ⟨F.ex, F.len⟩⟩
  blt := G.blt
  glo := G.glo
  exi := G.exi
  exn := fun c x e => by
    obtain ⟨C, bmB, B, n1, n2, h1, h2, h3, h4, h5, h6⟩ := G.exn c x e
    exact ⟨C, bmB, B, n1, n2, h1, h2, h3, h4, h5, fun M h => h6 M h⟩
/-- in a try's body -/
theorem Good.tr {PT : Nat → Option FD} {k : Nat} {cm : Nat → Value} {cx : Ctx} {X : Cx} (G : Good PT k cm cx X) (pn : List (Addr × Obj)) (xe : Value → Shared → Prop) : Good PT k cm cx (X.tr pn xe) where
  N := G.N
  sc := G.sc
  nd := G.nd
  calm := G.calm
  room := G.room
  fnc := G.fnc
  fn := fun f x e => by
    obtain ⟨np, F⟩ := G.fn f x e
    exact ⟨np, ⟨F.ex, F.len⟩⟩
  blt := G.blt
  glo := G.glo
  exi := G.exi
  exn := fun c x e => by
    obtain ⟨C, bmB, B, n1, n2, h1, h2, h3, h4, h5, h6⟩ := G.exn c x e
    exact ⟨C, bmB, B, n1, n2, h1, h2, h3, h4, h5, fun M h => h6 M h⟩
/-- a def's own frame runs -/
structure TopX (X : Cx) : Prop where
  st : X.stack = X.env :: X.outer
  fr : X.env.frame = some X.env.locals
  ex : X.ex = []
theorem TopX.tr {X : Cx} (h : TopX X) (pn : List (Addr × Obj)) (xe : Value → Shared → Prop) : TopX (X.tr pn xe) := ⟨h.st, h.fr, h.ex⟩
section
variable {PT : Nat → Option FD} {k : Nat} {cm : Nat → Value} {cx : Ctx} {X : Cx} {W : WX}
theorem takesBlk {s : Shared} {H : Hp} {C : Addr} {cl : List (Str × Addr)} {fp : List Addr} {scope : Scope} : Takes (X.blk s H scope (compEnvC scope cl C X.env) fp) W0 := fun u s' h => by
  obtain ⟨_, _, _, _, _, _, _, _, _, _, _, _, _, _, _, _, z⟩ := h
  exact z.elim
theorem star_of {x : Expr} {r : List Expr} (h : notSt x = true) : starEach (x :: r) X.env = (false, eval x X.env) :: starEach r X.env := by
  cases x <;> first | rfl | cases h
theorem assign_of {x : Expr} {r : List Expr} (h : notSt x = true) : assignEach (x :: r) X.env = (false, assign x X.env) :: assignEach r X.env := by
  cases x <;> first | rfl | cases h
theorem vis_of (G : Good PT k cm cx X) {x : Str} (h : visB cx.sc x = true) : Vis X.env.scope x := by
  rw [G.sc]
  unfold visB at h
  unfold Vis
  split at h
  · exact .inl (by assumption)
  · exact .inr (.inl (by assumption))
  · exact .inr (.inr (by assumption))
  · cases h
theorem gl_of (G : Good PT k cm cx X) {x : Str} (h : glB cx.sc x = true) : Gl X x := by
  unfold Gl Env.kindOf
  rw [G.sc]
  unfold glB at h
  split at h
  · assumption
  · cases h
theorem dun_of {x : Str} (h : (!dunder x) = true) : (x == ("__debug__" : Str)) = false ∧ (x == ("__classdict__" : Str)) = false ∧ x ≠ "__name__" := by
  unfold dunder at h
  simp only [Bool.not_or, Bool.and_eq_true, Bool.not_eq_true', decide_eq_false_iff_not] at h
  exact ⟨beq_eq_false_iff_ne.mpr h.1.1, beq_eq_false_iff_ne.mpr h.1.2, h.2⟩
theorem pv_of (G : Good PT k cm cx X) {i : Nat} {x : Str} {p : Pos} (h : chkE cx (.v i) (.Name x p) = true) : PE X (.Name x p) (tVar i) := by
  simp only [chkE, pName, Bool.and_eq_true, decide_eq_true_eq] at h
  obtain ⟨d1, d2, _⟩ := dun_of h.2
  exact pe_var (by rw [G.N]; exact h.1.1) (vis_of G h.1.2) d1 d2
theorem plain_isTrue {e : Expr} (h : plainT e = true) : ∀ whole, isTrue e X.env whole = (do let v ← whole; standAt e.pos; holding [v] (truthy v)) := by
  intro whole
  cases e with
  | UnaryOp op _ _ => cases op <;> first | rfl | cases h
  | _ => first | rfl | cases h
end
end PD
set_option maxHeartbeats 2000000
namespace PD
open PySem PySem.Spec PyProof.Rows L2
/-! ### taking apart -/
theorem pName_e {e : Expr} {x : Str} (h : pName e = some x) : ∃ p, e = .Name x p := by
  cases e <;> simp only [pName, reduceCtorEq, Option.some.injEq] at h; subst h; exact ⟨_, rfl⟩
theorem pCst_e {e : Expr} {v : Const} (h : pCst e = some v) : ∃ j p, e = .Constant v j p := by
  cases e <;> simp only [pCst, reduceCtorEq, Option.some.injEq] at h; subst h; exact ⟨_, _, rfl⟩
theorem pTup_e {e : Expr} {xs : List Expr} (h : pTup e = some xs) : ∃ j p, e = .Tuple xs j p := by
  cases e <;> simp only [pTup, reduceCtorEq, Option.some.injEq] at h; subst h; exact ⟨_, _, rfl⟩
theorem pLst_e {e : Expr} {xs : List Expr} (h : pLst e = some xs) : ∃ p, e = .List xs p := by
  cases e <;> simp only [pLst, reduceCtorEq, Option.some.injEq] at h; subst h; exact ⟨_, rfl⟩
theorem pBin_e {e : Expr} {o : Operator} {x y : Expr} (h : pBin e = some (o, x, y)) : ∃ p, e = .BinOp x o y p := by
  cases e <;> simp only [pBin, reduceCtorEq, Option.some.injEq, Prod.mk.injEq] at h; obtain ⟨rfl, rfl, rfl⟩ := h; exact ⟨_, rfl⟩
theorem pUn_e {e : Expr} {o : UnaryOp} {x : Expr} (h : pUn e = some (o, x)) : ∃ p, e = .UnaryOp o x p := by
  cases e <;> simp only [pUn, reduceCtorEq, Option.some.injEq, Prod.mk.injEq] at h; obtain ⟨rfl, rfl⟩ := h; exact ⟨_, rfl⟩
theorem pBool_e {e : Expr} {o : BoolOp} {x y : Expr} (h : pBool e = some (o, x, y)) : ∃ z r p, e = .BoolOp o (x :: z :: r) p ∧ ((r = [] ∧ y = z) ∨ y = .BoolOp o (z :: r) p) := by
  unfold pBool at h
  split at h
  · simp only [Option.some.injEq, Prod.mk.injEq] at h; obtain ⟨rfl, rfl, rfl⟩ := h; exact ⟨_, _, _, rfl, .inl ⟨rfl, rfl⟩⟩
  · simp only [Option.some.injEq, Prod.mk.injEq] at h; obtain ⟨rfl, rfl, rfl⟩ := h; exact ⟨_, _, _, rfl, .inr rfl⟩
  · cases h
theorem pCmp_e {e : Expr} {o : CmpOp} {x y : Expr} (h : pCmp e = some (o, x, y)) : ∃ p, e = .Compare x [o] [y] p := by
  unfold pCmp at h
  split at h
  · simp only [Option.some.injEq, Prod.mk.injEq] at h; obtain ⟨rfl, rfl, rfl⟩ := h; exact ⟨_, rfl⟩
  · cases h
theorem pIte_e {e z x y : Expr} (h : pIte e = some (z, x, y)) : ∃ p, e = .IfExp z x y p := by
  cases e <;> simp only [pIte, reduceCtorEq, Option.some.injEq, Prod.mk.injEq] at h; obtain ⟨rfl, rfl, rfl⟩ := h; exact ⟨_, rfl⟩
theorem pCall_e {e : Expr} {x : Str} {xs : List Expr} (h : pCall e = some (x, xs)) : ∃ p q, e = .Call (.Name x p) xs [] q := by
  unfold pCall at h
  split at h
  · simp only [Option.some.injEq, Prod.mk.injEq] at h; obtain ⟨rfl, rfl⟩ := h; exact ⟨_, _, rfl⟩
  · cases h
theorem pSub_e {e x y : Expr} (h : pSub e = some (x, y)) : (∃ p, e = .Subscript x y p) ∧ notSl y = true := by
  unfold pSub at h
  split at h
  · split at h
    · simp only [Option.some.injEq, Prod.mk.injEq] at h; obtain ⟨rfl, rfl⟩ := h; exact ⟨⟨_, rfl⟩, by assumption⟩
    · cases h
  · cases h
theorem pSlF_e {e x y : Expr} (h : pSlF e = some (x, y)) : ∃ p q, e = .Subscript x (.Slice (some y) none none p) q := by
  unfold pSlF at h
  split at h
  · simp only [Option.some.injEq, Prod.mk.injEq] at h; obtain ⟨rfl, rfl⟩ := h; exact ⟨_, _, rfl⟩
  · cases h
theorem pSlT_e {e x y : Expr} (h : pSlT e = some (x, y)) : ∃ p q, e = .Subscript x (.Slice none (some y) none p) q := by
  unfold pSlT at h
  split at h
  · simp only [Option.some.injEq, Prod.mk.injEq] at h; obtain ⟨rfl, rfl⟩ := h; exact ⟨_, _, rfl⟩
  · cases h
theorem pLc_e {e el t i : Expr} {c : List Expr} {s : Scope} (h : pLc e = some (el, t, i, c, s)) : ∃ p, e = .ListComp el [⟨t, i, c, 0⟩] s p := by
  unfold pLc at h
  split at h
  · simp only [Option.some.injEq, Prod.mk.injEq] at h; obtain ⟨rfl, rfl, rfl, rfl, rfl⟩ := h; exact ⟨_, rfl⟩
  · cases h
theorem pCh_e {e x y z : Expr} {o o' : CmpOp} (h : pCh e = some (x, o, o', y, z)) : ∃ p, e = .Compare x [o, o'] [y, z] p := by
  unfold pCh at h
  split at h
  · simp only [Option.some.injEq, Prod.mk.injEq] at h; obtain ⟨rfl, rfl, rfl, rfl, rfl⟩ := h; exact ⟨_, rfl⟩
  · cases h
theorem pEv_e {e x : Expr} (h : pEv e = some x) : ∃ k p1 p3 p4, e = .Subscript x (.Slice none none (some (.Constant (.int 2) k p1)) p3) p4 := by
  unfold pEv at h
  split at h
  · simp only [Option.some.injEq] at h; subst h; exact ⟨_, _, _, _, rfl⟩
  · cases h
theorem pRev_e {e x : Expr} (h : pRev e = some x) : ∃ k p1 p2 p3 p4, e = .Subscript x (.Slice none none (some (.UnaryOp .USub (.Constant (.int 1) k p1) p2)) p3) p4 := by
  unfold pRev at h
  split at h
  · simp only [Option.some.injEq] at h; subst h; exact ⟨_, _, _, _, _, rfl⟩
  · cases h
theorem pIsi_e {e x : Expr} {T : Str} (h : pIsi e = some (x, T)) : ∃ p p2 q, e = .Call (.Name "isinstance" p) [x, .Name T p2] [] q := by
  unfold pIsi at h
  split at h
  · split at h
    · rename_i hf
      subst hf
      simp only [Option.some.injEq, Prod.mk.injEq] at h; obtain ⟨rfl, rfl⟩ := h; exact ⟨_, _, _, rfl⟩
    · cases h
  · cases h
theorem pSl_e {e x y z : Expr} (h : pSl e = some (x, y, z)) : ∃ p q, e = .Subscript x (.Slice (some y) (some z) none p) q := by
  unfold pSl at h
  split at h
  · simp only [Option.some.injEq, Prod.mk.injEq] at h; obtain ⟨rfl, rfl, rfl⟩ := h; exact ⟨_, _, rfl⟩
  · cases h
theorem pRg_e {e : Expr} {f : Str} {xs : List Expr} (h : pRg e = some (f, xs)) : ∃ p p2 q r, e = .Call (.Name f p) [.Call (.Name "range" p2) xs [] q] [] r := by
  unfold pRg at h
  split at h
  · split at h
    · rename_i hf
      subst hf
      simp only [Option.some.injEq, Prod.mk.injEq] at h; obtain ⟨rfl, rfl⟩ := h; exact ⟨_, _, _, _, rfl⟩
    · cases h
  · cases h
theorem pSs_e {e x : Expr} (h : pSs e = some x) : ∃ p p2 q r, e = .Call (.Name "sorted" p) [.Call (.Name "set" p2) [x] [] q] [] r := by
  unfold pSs at h
  split at h
  · split at h
    · rename_i hf
      obtain ⟨rfl, rfl⟩ := hf
      simp only [Option.some.injEq] at h; subst h; exact ⟨_, _, _, _, rfl⟩
    · cases h
  · cases h
theorem pLs_e {e x : Expr} (h : pLs e = some x) : ∃ p p2 q r, e = .Call (.Name "len" p) [.Call (.Name "set" p2) [x] [] q] [] r := by
  unfold pLs at h
  split at h
  · split at h
    · rename_i hf
      obtain ⟨rfl, rfl⟩ := hf
      simp only [Option.some.injEq] at h; subst h; exact ⟨_, _, _, _, rfl⟩
    · cases h
  · cases h
theorem pDic_e {e : Expr} {k : List (Option Expr)} {v : List Expr} (h : pDic e = some (k, v)) : ∃ p, e = .Dict k v p := by
  unfold pDic at h
  split at h
  · simp only [Option.some.injEq, Prod.mk.injEq] at h; obtain ⟨rfl, rfl⟩ := h; exact ⟨_, rfl⟩
  · cases h
theorem pGet_e {e o b c : Expr} (h : pGet e = some (o, b, c)) : ∃ ap cp, e = .Call (.Attribute o "get" ap) [b, c] [] cp ∧ ap.endLine = cp.line := by
  unfold pGet at h
  split at h
  · split at h
    · rename_i hf
      obtain ⟨rfl, hl⟩ := hf
      simp only [Option.some.injEq, Prod.mk.injEq] at h; obtain ⟨rfl, rfl, rfl⟩ := h; exact ⟨_, _, rfl, hl⟩
    · cases h
  · cases h
theorem pCix_e {e i : Expr} {ns xs : List Expr} (h : pCix e = some (ns, i, xs)) : (∃ p q r, e = .Call (.Subscript (.List ns p) i q) xs [] r) ∧ notSl i = true := by
  unfold pCix at h
  split at h
  · split at h
    · rename_i hf
      simp only [Option.some.injEq, Prod.mk.injEq] at h; obtain ⟨rfl, rfl, rfl⟩ := h; exact ⟨⟨_, _, _, rfl⟩, hf⟩
    · cases h
  · cases h
theorem pM1_e {e o b : Expr} {m : Str} (h : pM1 e = some (o, m, b)) : ∃ ap cp, e = .Call (.Attribute o m ap) [b] [] cp ∧ ap.endLine = cp.line := by
  unfold pM1 at h
  split at h
  · split at h
    · rename_i hl
      simp only [Option.some.injEq, Prod.mk.injEq] at h; obtain ⟨rfl, rfl, rfl⟩ := h; exact ⟨_, _, rfl, hl⟩
    · cases h
  · cases h
theorem pM0_e {e o : Expr} {m : Str} (h : pM0 e = some (o, m)) : ∃ ap cp, e = .Call (.Attribute o m ap) [] [] cp ∧ ap.endLine = cp.line := by
  unfold pM0 at h
  split at h
  · split at h
    · rename_i hl
      simp only [Option.some.injEq, Prod.mk.injEq] at h; obtain ⟨rfl, rfl⟩ := h; exact ⟨_, _, rfl, hl⟩
    · cases h
  · cases h
theorem isXp_e {n : Bi} {c l : Nat} (h : isXp n = some (c, l)) : n = .isExc c l := by
  cases n <;> simp only [isXp, Option.some.injEq, Prod.mk.injEq, reduceCtorEq] at h
  obtain ⟨rfl, rfl⟩ := h; rfl
theorem tyN_boot {n : Bi} {T : String} (h : tyN n = some T) : bootBuiltins (Str.ofString T) = some (.type T) ∧ Str.ofString T ≠ "__name__" ∧ (Str.ofString T == ("__debug__" : Str)) = false ∧ Str.ofString T ∈ blts := by
  cases n <;> simp only [tyN, Option.some.injEq, reduceCtorEq] at h <;> subst h
  · exact ⟨by decide +kernel, by decide +kernel, by decide +kernel, by decide +kernel⟩
  · exact ⟨by decide +kernel, by decide +kernel, by decide +kernel, by decide +kernel⟩
  · exact ⟨by decide +kernel, by decide +kernel, by decide +kernel, by decide +kernel⟩
  · exact ⟨by decide +kernel, by decide +kernel, by decide +kernel, by decide +kernel⟩
  · exact ⟨by decide +kernel, by decide +kernel, by decide +kernel, by decide +kernel⟩
/-! ### targets -/
mutual
def gOf (K : PySem.W.Frag) : Tg → TG
  | .nm i => gName i
  | .tup ts => fun v σ H Q => gTup K ts.len (gsOf K ts) v σ H Q ∨ gUnl K ts.len (gsOf K ts) v σ H Q
def gsOf (K : PySem.W.Frag) : Tgs → TGs
  | .nil => gNil
  | .cons t ts => gCons (gOf K t) (gsOf K ts)
end
mutual
theorem gb_of {K : PySem.W.Frag} {cm : Nat → Value} : ∀ m : Tg, GB K cm (gOf K m) m
  | .nm i => by unfold gOf; exact gb_nm
  | .tup ts => by unfold gOf; exact gb_tup (gbs_of ts)
theorem gbs_of {K : PySem.W.Frag} {cm : Nat → Value} : ∀ m : Tgs, GBs K cm (gsOf K m) m
  | .nil => by unfold gsOf; exact gb_nil
  | .cons t ts => by unfold gsOf; exact gb_cons (gb_of t) (gbs_of ts)
end
section
variable {PT : Nat → Option FD} {k : Nat} {cm : Nat → Value}
mutual
theorem soundTg : ∀ (m : Tg) (cx : Ctx) (X : Cx) (e : Expr), Good PT k cm cx X → chkTg cx m e = true → OkG X cm e (gOf X.K m) m
  | .nm i, cx, X, e, G, h => by
    cases e <;> simp only [chkTg, reduceCtorEq, Bool.false_eq_true] at h
    rename_i x p
    rw [Bool.and_eq_true, decide_eq_true_eq] at h
    obtain ⟨h1, h2⟩ := h
    rw [← G.N] at h1
    unfold gOf
    split at h2
    · rename_i e1
      rw [← G.sc] at e1
      exact okG_nm G.nd h1 (.inl e1) (.inr e1)
    · rename_i e1
      refine okG_nm G.nd h1 (.inr (by rw [G.sc]; exact e1)) (.inl (G.fnc x e1 ?_))
      exact h2
    · cases h2
  | .tup ts, cx, X, e, G, h => by
    cases e <;> simp only [chkTg, reduceCtorEq, Bool.false_eq_true] at h
    rename_i es j p
    obtain ⟨h1, h2, h3⟩ := soundTgs ts cx X es G h
    unfold gOf
    exact okG_tup G.calm h1 h2 h3
theorem soundTgs : ∀ (m : Tgs) (cx : Ctx) (X : Cx) (es : List Expr), Good PT k cm cx X → chkTgs cx m es = true → OkGs X cm es (gsOf X.K m) m ∧ (assignEach es X.env).length = m.len ∧ (assignEach es X.env).findIdx? (·.1) = none
  | .nil, cx, X, es, G, h => by
    cases es with
    | nil => exact ⟨by unfold gsOf; exact okGs_nil, rfl, rfl⟩
    | cons _ _ => simp [chkTgs] at h
  | .cons t ts, cx, X, es, G, h => by
    cases es with
    | nil => simp [chkTgs] at h
    | cons e es =>
      simp only [chkTgs, Bool.and_eq_true] at h
      obtain ⟨⟨h1, h2⟩, h3⟩ := h
      obtain ⟨i1, i2, i3⟩ := soundTgs ts cx X es G h3
      have ha := assign_of (X := X) (r := es) h2
      refine ⟨by unfold gsOf; exact okGs_cons (soundTg t cx X e G h1) i1 (by rw [ha]; rfl), by rw [ha]; simp [Tgs.len, i2], by rw [ha]; simp [List.findIdx?_cons, i3]⟩
end
/-! ### lengths -/
theorem th_okE {α β : Type} {r : Res α} {f : α → List Slot → Res β} {b : β} {st : List Slot} (h : r.th f = .ok b st) : ∃ a st1, r = .ok a st1 ∧ f a st1 = .ok b st := by
  cases r with
  | ok a st1 => exact ⟨a, st1, rfl, h⟩
  | exc c st => cases h
  | bad => cases h
theorem evA_len {FT : Nat → List D → FR} : ∀ {es : Es} {st st' : List Slot} {ds : List D}, evA FT es st = .ok ds st' → ds.length = es.len
  | .nil, _, _, _, h => by simp only [evA, Res.ok.injEq] at h; rw [← h.1]; rfl
  | .cons e es, st, st', ds, h => by
    simp only [evA] at h
    obtain ⟨a, st1, _, h⟩ := th_okE h
    obtain ⟨b, st2, h2, h⟩ := th_okE h
    simp only [Res.ok.injEq] at h
    rw [← h.1, List.length_cons, evA_len h2]; rfl
theorem evO_len {FT : Nat → List D → FR} : ∀ {es : Es} {st st' : List Slot} {ds : List Opd}, evO FT es st = .ok ds st' → ds.length = es.len
  | .nil, _, _, _, h => by simp only [evO, Res.ok.injEq] at h; rw [← h.1]; rfl
  | .cons e es, st, st', ds, h => by
    simp only [evO] at h
    obtain ⟨a, st1, _, h⟩ := th_okE h
    obtain ⟨b, st2, h2, h⟩ := th_okE h
    simp only [Res.ok.injEq] at h
    rw [← h.1, List.length_cons, evO_len h2]; rfl
theorem rsAll_len {st : List Slot} : ∀ {os : List Opd} {ds : List D}, rsAll st os = some ds → ds.length = os.length
  | [], _, h => by simp only [rsAll, Option.some.injEq] at h; subst h; rfl
  | o :: os, ds, h => by
    simp only [rsAll] at h
    split at h
    · rename_i d ds' _ e2
      cases h
      simp [rsAll_len e2]
    · cases h
theorem chkEs_len {cx : Ctx} : ∀ {es : Es} {xs : List Expr}, chkEs cx es xs = true → xs.length = es.len
  | .nil, xs, h => by simp only [chkEs, List.isEmpty_iff] at h; subst h; rfl
  | .cons e es, xs, h => by
    cases xs with
    | nil => simp [chkEs] at h
    | cons x xs => simp only [chkEs, Bool.and_eq_true] at h; simp [chkEs_len h.2, Es.len]
theorem backTo_any {X : Cx} {pos : Pos} {cx : Ctx} : ∀ {es : Es} {xs : List Expr}, chkEs cx es xs = true → (backTo pos (starEach xs X.env)).any (·.1) = false
  | .nil, xs, h => by simp only [chkEs, List.isEmpty_iff] at h; subst h; rfl
  | .cons e es, xs, h => by
    cases xs with
    | nil => simp [chkEs] at h
    | cons x xs =>
      simp only [chkEs, Bool.and_eq_true] at h
      rw [star_of h.1.2]
      show (false || (backTo pos (starEach xs X.env)).any (·.1)) = false
      rw [backTo_any h.2]; rfl
/-! ### built-ins by name -/
theorem bi_pe {X : Cx} {cx : Ctx} {n : Bi} {x : Str} {z : Expr} {xs : List Expr} {p q : Pos} {av : Addr → Prop} (G : Good PT k cm cx X) (hn : bltN n = some x) (hg : Gl X x) (hs : starEach (z :: xs) X.env = (false, eval z X.env) :: starEach xs X.env) (hpl : (backTo q (starEach xs X.env)).any (·.1) = false) :
    PE X (.Call (.Name x p) (z :: xs) [] q) (fun σ H Q => SemA X (z :: xs) σ H (fun vs H1 => rBi X.K cm (biD n) av vs H1 Q)) := by
  cases n <;> simp only [bltN, Option.some.injEq, reduceCtorEq] at hn <;> subst hn
  · exact pe_callB rBi_len hg (G.blt _ (by decide +kernel)) (by decide +kernel) paS (by decide +kernel) (by decide +kernel) hs hpl
  · exact pe_callB rBi_abs hg (G.blt _ (by decide +kernel)) (by decide +kernel) paS (by decide +kernel) (by decide +kernel) hs hpl
  · exact pe_callB (rBi_min G.calm) hg (G.blt _ (by decide +kernel)) (by decide +kernel) paS (by decide +kernel) (by decide +kernel) hs hpl
  · exact pe_callB (rBi_max G.calm) hg (G.blt _ (by decide +kernel)) (by decide +kernel) paS (by decide +kernel) (by decide +kernel) hs hpl
  · exact pe_callB (rBi_sum G.calm) hg (G.blt _ (by decide +kernel)) (by decide +kernel) paS (by decide +kernel) (by decide +kernel) hs hpl
  · exact pe_callB (rBi_any G.calm) hg (G.blt _ (by decide +kernel)) (by decide +kernel) paS (by decide +kernel) (by decide +kernel) hs hpl
  · exact pe_callB (rBi_all G.calm) hg (G.blt _ (by decide +kernel)) (by decide +kernel) paS (by decide +kernel) (by decide +kernel) hs hpl
  · exact pe_callB (rBi_sorted G.hu) hg (G.blt _ (by decide +kernel)) (by decide +kernel) paS (by decide +kernel) (by decide +kernel) hs hpl
  · exact pe_callTy rBi_tuple hg (G.blt _ (by decide +kernel)) (by decide +kernel) paS (by decide +kernel) (by decide +kernel) hs hpl
  · exact pe_callTy (rBi_list G.calm) hg (G.blt _ (by decide +kernel)) (by decide +kernel) paS (by decide +kernel) (by decide +kernel) hs hpl
  · exact pe_callTy rBi_int hg (G.blt _ (by decide +kernel)) (by decide +kernel) paS (by decide +kernel) (by decide +kernel) hs hpl
end
end PD
set_option maxHeartbeats 4000000
namespace PD
open PySem PySem.Spec PyProof.Rows L2
section
variable {PT : Nat → Option FD} {k : Nat} {cm : Nat → Value}
def isBoolOp : Expr → Bool | .BoolOp _ _ _ => true | _ => false
/-- what the evaluator tells of an expression, of a test -/
structure OkX (X : Cx) (cm : Nat → Value) (W : WX) (x : Expr) (f : List Slot → RE) : Prop where
  e : OkE X cm W x f
  t : ifx x = true → OkT X cm W x f
  w : isBoolOp x = true → OkW X cm W x f
  s : notLc x = false → ∀ (i : Nat) (y : Str) (py spos : Pos), X.N[i]? = some y → X.env.scope.names.lookup y = some .local → swapsWith x (some (.Name y py)) spos.line X.env = pure true →
    ∃ te, PS X (.Assign [.Name y py] x spos) (tAsg te (gName i)) ∧ OkRead X cm W te f
section
variable {X : Cx} {W : WX} {e : Expr} {f : List Slot → RE}
/-- by its value -/
theorem OkX.val (h : OkE X cm W e f) (hp : plainT e = true) (hl : notLc e = true) : OkX X cm W e f := ⟨h, fun _ => okT_val h (plain_isTrue hp), fun hb => by
  cases e with
  | BoolOp _ _ _ => exact absurd hp (by simp [plainT])
  | _ => exact absurd hb (by simp [isBoolOp]), fun z => by rw [hl] at z; cases z⟩
theorem opnd_ok {cx : Ctx} {m : E} (G : Good PT k cm cx X) (h : chkE cx m e = true) (i : OkE X cm W e f) : OkO X cm W e (opnd m f) := by
  refine okO_of (fun j em => ?_) i
  subst em
  have h' := h
  simp only [chkE] at h'
  split at h'
  · rename_i x e1
    obtain ⟨p, rfl⟩ := pName_e e1
    exact pv_of G h
  · cases h'
/-- a chain's rest -/
theorem rest_ok {o : BoolOp} {y z : Expr} {r : List Expr} {p : Pos} (h : (r = [] ∧ y = z) ∨ y = .BoolOp o (z :: r) p) (hy : ifx y = true) (i : OkX X cm W y f) : OkE X cm W (.BoolOp o (z :: r) p) f ∧ OkW X cm W (.BoolOp o (z :: r) p) f := by
  rcases h with ⟨rfl, rfl⟩ | rfl
  · exact ⟨okE_one i.e, okW_one (i.t hy)⟩
  · exact ⟨i.e, i.w rfl⟩
end
theorem names_at {cx : Ctx} {X : Cx} (G : Good PT k cm cx X) : ∀ {fs : List Nat} {ns : List Expr}, namesB cx fs ns = true → ∃ as, NamesAt X cm k (runL PT k) fs ns as
  | [], [], _ => ⟨[], .nil⟩
  | f :: fs, [], h => by simp [namesB] at h
  | [], _ :: _, h => by simp [namesB] at h
  | f :: fs, e :: es, h => by
    cases e with
    | Name x p =>
      simp only [namesB, Bool.and_eq_true, decide_eq_true_eq] at h
      obtain ⟨⟨⟨h1, h2⟩, h3⟩, h4⟩ := h
      obtain ⟨as, N⟩ := names_at G h4
      obtain ⟨np, F⟩ := G.fn f x h1
      obtain ⟨a, fd, ps, g1, g2, g3, g4⟩ := F.ex
      exact ⟨a :: as, .cons (gl_of G h2) (dun_of h3).1 g1 g2 g3 g4 F.len N⟩
    | _ => simp [namesB] at h
theorem plainIx {y : Expr} (h : notSl y = true) : PlainIx y := by
  cases y <;> first | (intro o i; rfl) | cases h
mutual
theorem soundE : ∀ (m : E) (cx : Ctx) (X : Cx) (e : Expr), Good PT k cm cx X → X.env.scope.kind = .function → chkE cx m e = true → ∀ W, Takes X W → OkX X cm W e (evE (runL PT k) m)
  | .c q, cx, X, e, G, hk, h, W, tk => by
    simp only [chkE] at h
    split at h
    · rename_i v e1
      obtain ⟨j, p, rfl⟩ := pCst_e e1
      refine .val ?_ rfl rfl
      show OkE X cm W _ (evE (runL PT k) (.c q))
      rw [show evE (runL PT k) (.c q) = fun st => .ok (false, cst q) st from by funext st; first | (simp only [evE]; done) | (simp only [evE]; rfl)]
      cases q <;> cases v <;> simp only [cstB, Bool.false_eq_true, beq_iff_eq, decide_eq_true_eq] at h
      · exact okE_c pe_non fun _ _ => .non
      · subst h; exact okE_c pe_bl fun _ _ => .bl _
      · subst h; exact okE_c pe_int fun _ _ => .int _
      · subst h; exact okE_c pe_str fun _ _ => .str _
    · cases h
  | .v i, cx, X, e, G, hk, h, W, tk => by
    have h0 := h
    simp only [chkE] at h
    split at h
    · rename_i x e1
      obtain ⟨p, rfl⟩ := pName_e e1
      refine .val ?_ rfl rfl
      rw [show evE (runL PT k) (.v i) = rd i from by funext st; first | (simp only [evE]; done) | (simp only [evE]; rfl)]
      exact rd_okE (pv_of G h0)
    · cases h
  | .tup es, cx, X, e, G, hk, h, W, tk => by
    simp only [chkE] at h
    split at h
    · rename_i xs e1
      obtain ⟨j, p, rfl⟩ := pTup_e e1
      rw [Bool.and_eq_true, decide_eq_true_eq] at h
      obtain ⟨i1, _⟩ := soundEs es cx X xs G hk h.1 W tk
      refine .val ?_ rfl rfl
      rw [show evE (runL PT k) (.tup es) = fun st => (evA (runL PT k) es st).th fun ds st => .ok (false, .tup ds) st from by funext st; first | (simp only [evE]; done) | (simp only [evE]; rfl)]
      exact okE_tup (fun st ds st' q => by rw [evA_len q]; exact Nat.le_trans h.2 (by decide)) i1
    · cases h
  | .lst es, cx, X, e, G, hk, h, W, tk => by
    simp only [chkE] at h
    split at h
    · rename_i xs e1
      obtain ⟨p, rfl⟩ := pLst_e e1
      rw [Bool.and_eq_true, decide_eq_true_eq] at h
      obtain ⟨i1, _⟩ := soundEs es cx X xs G hk h.1 W tk
      refine .val ?_ rfl rfl
      rw [show evE (runL PT k) (.lst es) = fun st => (evA (runL PT k) es st).th fun ds st => .ok (true, .lst ds) st from by funext st; first | (simp only [evE]; done) | (simp only [evE]; rfl)]
      exact okE_lst (fun st ds st' q => by rw [evA_len q]; exact Nat.le_trans h.2 (by decide)) i1
    · cases h
  | .bin o a b, cx, X, e, G, hk, h, W, tk => by
    simp only [chkE] at h
    split at h
    · rename_i op x y e1
      obtain ⟨p, rfl⟩ := pBin_e e1
      simp only [Bool.and_eq_true, decide_eq_true_eq] at h
      obtain ⟨⟨rfl, ha⟩, hb⟩ := h
      have ia := soundE a cx X x G hk ha W tk
      have ib := soundE b cx X y G hk hb W tk
      refine .val ?_ rfl rfl
      rw [show evE (runL PT k) (.bin o a b) = fun st => (opnd a (evE (runL PT k) a) st).th fun x st => (opnd b (evE (runL PT k) b) st).th fun y st => match rs1 st x, rs1 st y with
        | some d, some d' => outE (binD o d d') st
        | _, _ => .bad from by funext st; first | (simp only [evE]; done) | (simp only [evE]; rfl)]
      exact okE_bin (opnd_ok G ha ia.e) (opnd_ok G hb ib.e)
    · cases h
  | .neg a, cx, X, e, G, hk, h, W, tk => by
    simp only [chkE] at h
    split at h
    · rename_i op x e1
      obtain ⟨p, rfl⟩ := pUn_e e1
      simp only [Bool.and_eq_true, decide_eq_true_eq] at h
      obtain ⟨rfl, ha⟩ := h
      refine .val ?_ rfl rfl
      rw [show evE (runL PT k) (.neg a) = fun st => (evE (runL PT k) a st).th fun d st => match d.2 with | .int i => .ok (false, .int (-i)) st | _ => .bad from by funext st; first | (simp only [evE]; done) | (simp only [evE]; rfl)]
      exact okE_neg (soundE a cx X x G hk ha W tk).e
    · cases h
  | .not a, cx, X, e, G, hk, h, W, tk => by
    simp only [chkE] at h
    split at h
    · rename_i op x e1
      obtain ⟨p, rfl⟩ := pUn_e e1
      simp only [Bool.and_eq_true, decide_eq_true_eq] at h
      obtain ⟨⟨rfl, ha⟩, hi⟩ := h
      have ia := soundE a cx X x G hk ha W tk
      rw [show evE (runL PT k) (.not a) = fun st => (evE (runL PT k) a st).th (br (fun st => ret (.bl false) st) (fun st => ret (.bl true) st)) from by funext st; first | (simp only [evE]; done) | (simp only [evE]; rfl)]
      exact ⟨okE_not ia.e, fun _ => okT_not (ia.t hi), fun hb => absurd hb (by simp [isBoolOp]), nofun⟩
    · cases h
  | .and a b, cx, X, e, G, hk, h, W, tk => by
    simp only [chkE] at h
    split at h
    · rename_i op x y e1
      obtain ⟨z, r, p, rfl, hy⟩ := pBool_e e1
      simp only [Bool.and_eq_true, decide_eq_true_eq] at h
      obtain ⟨⟨⟨⟨rfl, ha⟩, hi⟩, hb⟩, hj⟩ := h
      have ia := soundE a cx X x G hk ha W tk
      obtain ⟨ib1, ib2⟩ := rest_ok hy hj (soundE b cx X y G hk hb W tk)
      rw [show evE (runL PT k) (.and a b) = fun st => (evE (runL PT k) a st).th (br (fun st => (evE (runL PT k) b st).th (br (fun st => ret (.bl true) st) (fun st => ret (.bl false) st))) (fun st => ret (.bl false) st)) from by funext st; first | (simp only [evE]; done) | (simp only [evE]; rfl)]
      exact ⟨okE_and ia.e ib1, fun _ => (okW_and (ia.t hi) ib2).t, fun _ => okW_and (ia.t hi) ib2, nofun⟩
    · cases h
  | .or a b, cx, X, e, G, hk, h, W, tk => by
    simp only [chkE] at h
    split at h
    · rename_i op x y e1
      obtain ⟨z, r, p, rfl, hy⟩ := pBool_e e1
      simp only [Bool.and_eq_true, decide_eq_true_eq] at h
      obtain ⟨⟨⟨⟨rfl, ha⟩, hi⟩, hb⟩, hj⟩ := h
      have ia := soundE a cx X x G hk ha W tk
      obtain ⟨ib1, ib2⟩ := rest_ok hy hj (soundE b cx X y G hk hb W tk)
      rw [show evE (runL PT k) (.or a b) = fun st => (evE (runL PT k) a st).th (br (fun st => ret (.bl true) st) (fun st => (evE (runL PT k) b st).th (br (fun st => ret (.bl true) st) (fun st => ret (.bl false) st)))) from by funext st; first | (simp only [evE]; done) | (simp only [evE]; rfl)]
      exact ⟨okE_or ia.e ib1, fun _ => (okW_or (ia.t hi) ib2).t, fun _ => okW_or (ia.t hi) ib2, nofun⟩
    · cases h
  | .cmp o a b, cx, X, e, G, hk, h, W, tk => by
    simp only [chkE] at h
    split at h
    · rename_i op x y e1
      obtain ⟨p, rfl⟩ := pCmp_e e1
      simp only [Bool.and_eq_true, decide_eq_true_eq, Bool.not_eq_true'] at h
      obtain ⟨⟨⟨⟨rfl, ho⟩, hm⟩, ha⟩, hb⟩ := h
      have ia := opnd_ok G ha (soundE a cx X x G hk ha W tk).e
      have ib := opnd_ok G hb (soundE b cx X y G hk hb W tk).e
      rw [show evE (runL PT k) (.cmp o a b) = fun st => (opnd a (evE (runL PT k) a) st).th fun x st => (opnd b (evE (runL PT k) b) st).th fun y st => match rs1 st x, rs1 st y with
        | some d, some d' => outB (cmpD o d d') st
        | _, _ => .bad from by funext st; first | (simp only [evE]; done) | (simp only [evE]; rfl)]
      exact ⟨okE_cmp G.hu ho hm ia ib, fun _ => okT_cmp G.hu ho hm ia ib, fun hb => absurd hb (by simp [isBoolOp]), nofun⟩
    · cases h
  | .ite c a b, cx, X, e, G, hk, h, W, tk => by
    simp only [chkE] at h
    split at h
    · rename_i z x y e1
      obtain ⟨p, rfl⟩ := pIte_e e1
      simp only [Bool.and_eq_true] at h
      obtain ⟨⟨⟨hc, hi⟩, ha⟩, hb⟩ := h
      rw [show evE (runL PT k) (.ite c a b) = fun st => (evE (runL PT k) c st).th (br (fun st => evE (runL PT k) a st) (fun st => evE (runL PT k) b st)) from by funext st; first | (simp only [evE]; done) | (simp only [evE]; rfl)]
      exact ⟨okE_ite ((soundE c cx X z G hk hc W tk).t hi) (soundE a cx X x G hk ha W tk).e (soundE b cx X y G hk hb W tk).e, fun hb => absurd hb (by simp [ifx]), fun hb => absurd hb (by simp [isBoolOp]), nofun⟩
    · cases h
  | .call f es, cx, X, e, G, hk, h, W, tk => by
    simp only [chkE] at h
    split at h
    · rename_i x xs e1
      obtain ⟨p, q, rfl⟩ := pCall_e e1
      simp only [Bool.and_eq_true, decide_eq_true_eq] at h
      obtain ⟨⟨⟨hf, hg⟩, hd⟩, hs⟩ := h
      obtain ⟨np, F⟩ := G.fn f x hf
      obtain ⟨i1, _⟩ := soundEs es cx X xs G hk hs W tk
      refine .val ?_ rfl rfl
      rw [show evE (runL PT k) (.call f es) = fun st => (evA (runL PT k) es st).th fun ds st => outF (runL PT k f ds) st from by funext st; first | (simp only [evE]; done) | (simp only [evE]; rfl)]
      cases xs with
      | nil =>
        have hn : es = .nil := by cases es <;> first | rfl | simp [chkEs] at hs
        subst hn
        rw [show evA (runL PT k) .nil = fun st => .ok [] st from by funext st; simp only [evA]] at i1 ⊢
        exact okE_call0 F G.room (gl_of G hg) tk (dun_of hd).1
      | cons z zs =>
        cases es with
        | nil => simp [chkEs] at hs
        | cons m ms =>
          simp only [chkEs, Bool.and_eq_true] at hs
          exact okE_call F G.room (gl_of G hg) tk i1 (dun_of hd).1 (star_of hs.1.2) (backTo_any hs.2)
    · cases h
  | .chain o o' a b c, cx, X, e, G, hk, h, W, tk => by
    simp only [chkE] at h
    split at h
    · rename_i x op op' y z e1
      obtain ⟨p, rfl⟩ := pCh_e e1
      simp only [Bool.and_eq_true, decide_eq_true_eq, Bool.not_eq_true'] at h
      obtain ⟨⟨⟨⟨⟨⟨⟨rfl, rfl⟩, ho⟩, ho'⟩, hm⟩, ha⟩, hb⟩, hc⟩ := h
      have ia := (soundE a cx X x G hk ha W tk).e
      have ib := (soundE b cx X y G hk hb W tk).e
      have ic := (soundE c cx X z G hk hc W tk).e
      rw [show evE (runL PT k) (.chain o o' a b c) = fun st => (evE (runL PT k) a st).th fun x st => (evE (runL PT k) b st).th fun y st => match cmpD o x.2 y.2 with
        | some true => (evE (runL PT k) c st).th fun z st => outB (cmpD o' y.2 z.2) st
        | some false => ret (.bl false) st
        | none => .bad from by funext st; first | (simp only [evE]; done) | (simp only [evE]; rfl)]
      exact ⟨okE_chain G.hu ho ho' hm ia ib ic, fun _ => okT_chain G.hu ho ho' hm ia ib ic, fun hb => absurd hb (by simp [isBoolOp]), nofun⟩
    · cases h
  | .g q n, cx, X, e, G, hk, h, W, tk => by
    simp only [chkE] at h
    split at h
    · rename_i x e1
      obtain ⟨p, rfl⟩ := pName_e e1
      cases q with
      | int i =>
        simp only [Bool.and_eq_true, decide_eq_true_eq] at h
        obtain ⟨⟨⟨rfl, h1⟩, h2⟩, h3⟩ := h
        obtain ⟨t, hm⟩ := G.glo x i h1
        refine .val ?_ rfl rfl
        rw [show evE (runL PT k) (.g (.int i) x) = fun st => .ok (false, cst (.int i)) st from by funext st; first | (simp only [evE]; done) | (simp only [evE]; rfl)]
        exact okE_c (pe_glob (v := .int i) (gl_of G h2) hm ⟨t, rfl⟩ (dun_of h3).1) fun _ _ => .int _
      | _ => cases h
    · cases h
  | .dic t ks vs, cx, X, e, G, hk, h, W, tk => by
    simp only [chkE, Bool.and_eq_true, Bool.not_eq_true'] at h
    obtain ⟨rfl, h⟩ := h
    split at h
    · rename_i keys values e1
      obtain ⟨p, rfl⟩ := pDic_e e1
      split at h
      · rename_i l e2
        simp only [Bool.and_eq_true, decide_eq_true_eq] at h
        exact .val (okE_dicC e2 h.1 h.2) rfl rfl
      · cases h
    · cases h
  | .mt m a es, cx, X, e, G, hk, h, W, tk => by
    simp only [chkE] at h
    split at h
    case isFalse hng =>
      split at h
      case h_2 => cases h
      rename_i o y b e1
      obtain ⟨ap, cp, rfl, hl⟩ := pM1_e e1
      simp only [Bool.and_eq_true, decide_eq_true_eq] at h
      obtain ⟨⟨⟨hm, hv⟩, ha0⟩, hes0⟩ := h
      have hes := hes0
      have eo : ∃ n q, o = .Name n q := by
        have h1 := ha0
        cases a <;> first | (cases hv; done) | skip
        simp only [chkE] at h1
        split at h1
        · rename_i n e2; obtain ⟨q, rfl⟩ := pName_e e2; exact ⟨n, q, rfl⟩
        · cases h1
      obtain ⟨n, q, rfl⟩ := eo
      cases es with
      | nil => simp [chkEs] at hes
      | cons m1 r1 =>
        simp only [chkEs, Bool.and_eq_true] at hes
        obtain ⟨⟨c1, s1⟩, c3⟩ := hes
        have hn : r1 = .nil := by cases r1 <;> first | rfl | simp [chkEs] at c3
        subst hn
        have st1 := star_of (X := X) (r := []) s1
        have ha := opnd_ok G ha0 (soundE a cx X (.Name n q) G hk ha0 W tk).e
        have hb := (soundEs (.cons m1 .nil) cx X [b] G hk hes0 W tk).1
        have hline : (ap.endLine == cp.line) = true := by rw [hl]; exact beq_self_eq_true _
        have hfew : ((backTo cp (starEach [b] X.env)).all (fun x => !x.1) && (backToKw cp (keywordEach [] X.env)).all (fun x => x.1.isSome) && decide ([b].length + ([] : List Keyword).length + (if ([] : List Keyword).isEmpty then 0 else 1) < 30)) = true := by rw [st1]; rfl
        refine .val ?_ rfl rfl
        rw [show evE (runL PT k) (.mt m a (.cons m1 .nil)) = fun st => (opnd a (evE (runL PT k) a) st).th fun x st => if mtOk m (rs1 st x) then (evA (runL PT k) (.cons m1 .nil) st).th fun ds st => match rs1 st x with
            | some d => outE (mtD m d ds) st
            | _ => .bad else .bad from by funext st; first | (simp only [evE]; done) | (simp only [evE]; rfl)]
        cases m <;> simp only [mtN, Option.some.injEq, reduceCtorEq] at hm
        · subst hm
          exact okE_mt1 PySem.F.plainAttrs_list PySem.F.slot_list_count PySem.F.type_list_count (rMt_count G.hu) (fun av H x d h h' => ty_lst av H x d (m := .count) h (by cases d <;> first | rfl | cases h')) rfl hline st1 hfew ha hb
        · subst hm
          exact okE_mt1 PySem.F.plainAttrs_list PySem.F.slot_list_index PySem.F.type_list_index (rMt_index G.hu) (fun av H x d h h' => ty_lst av H x d (m := .index) h (by cases d <;> first | rfl | cases h')) rfl hline st1 hfew ha hb
    rename_i hm
    rw [Bool.and_eq_true] at h
    obtain ⟨hv, h⟩ := h
    split at h
    case h_2 => cases h
    rename_i o x y e1
    obtain ⟨ap, cp, rfl, hl⟩ := pGet_e e1
    rw [Bool.and_eq_true] at h
    have em : m = .get := by cases m <;> first | rfl | cases hm
    subst em
    have ha := soundE a cx X o G hk h.1 W tk
    cases es with
    | nil => simp [chkEs] at h
    | cons m1 r1 => cases r1 with
      | nil => simp [chkEs] at h
      | cons m2 r2 =>
        have hes := h.2
        simp only [chkEs, Bool.and_eq_true] at hes
        obtain ⟨⟨c1, s1⟩, ⟨c2, s2⟩, c3⟩ := hes
        have hn : r2 = .nil := by cases r2 <;> first | rfl | simp [chkEs] at c3
        subst hn
        have eo : ∃ n q, o = .Name n q := by
          have h1 := h.1
          cases a <;> first | (cases hv; done) | skip
          simp only [chkE] at h1
          split at h1
          · rename_i n e2; obtain ⟨q, rfl⟩ := pName_e e2; exact ⟨n, q, rfl⟩
          · cases h1
        obtain ⟨n, q, rfl⟩ := eo
        have st1 := star_of (X := X) (r := [y]) s1
        have st2 := star_of (X := X) (r := []) s2
        have hu := G.hu
        refine .val ?_ rfl rfl
        rw [show evE (runL PT k) (.mt .get a (.cons m1 (.cons m2 .nil))) = fun st => (opnd a (evE (runL PT k) a) st).th fun x st => if mtOk .get (rs1 st x) then ((evE (runL PT k) m1 st).th fun y st => (evE (runL PT k) m2 st).th fun z st => .ok [y.2, z.2] st).th fun ds st => match rs1 st x with
            | some d => outE (mtD .get d ds) st
            | _ => .bad else .bad from by
          funext st
          simp only [evE, evA]
          congr 1; funext x st1
          split
          · cases evE (runL PT k) m1 st1 with
            | ok y st2 =>
              simp only [Res.th_ok]
              cases evE (runL PT k) m2 st2 <;> rfl
            | exc _ _ => rfl
            | bad => rfl
          · rfl]
        exact okE_get (by omega) ⟨rfl, by rw [st1, st2]; rfl, by rw [hl]; exact beq_self_eq_true _, by rw [st1, st2]; rfl⟩ (opnd_ok G h.1 ha.e) (soundE m1 cx X x G hk c1 W tk).e (soundE m2 cx X y G hk c2 W tk).e
  | .rev a, cx, X, e, G, hk, h, W, tk => by
    simp only [chkE] at h
    split at h
    · rename_i x e1
      obtain ⟨k1, p1, p2, p3, p4, rfl⟩ := pRev_e e1
      refine .val ?_ rfl rfl
      rw [show evE (runL PT k) (.rev a) = fun st => (opnd a (evE (runL PT k) a) st).th fun x st => match rs1 st x with
        | some (.lst xs) => .ok (true, .lst xs.reverse) st
        | some (.tup xs) => .ok (false, .tup xs.reverse) st
        | _ => .bad from by funext st; first | (simp only [evE]; done) | (simp only [evE]; rfl)]
      exact okE_rev (opnd_ok G h (soundE a cx X x G hk h W tk).e)
    · cases h
  | .bi n es, cx, X, e, G, hk, h, W, tk => by
    simp only [chkE] at h
    split at h
    · rename_i T hT
      split at h
      case h_2 => cases h
      rename_i x T' e1
      obtain ⟨p, p2, q, rfl⟩ := pIsi_e e1
      simp only [Bool.and_eq_true, decide_eq_true_eq] at h
      obtain ⟨⟨⟨rfl, hg⟩, hg2⟩, hes⟩ := h
      obtain ⟨b1, b2, b3, b4⟩ := tyN_boot hT
      cases es with
      | nil => simp [chkEs] at hes
      | cons m ms =>
        simp only [chkEs, Bool.and_eq_true] at hes
        have hn : ms = .nil := by cases ms <;> first | rfl | simp [chkEs] at hes
        subst hn
        refine .val ?_ rfl rfl
        rw [show evE (runL PT k) (.bi n (.cons m .nil)) = fun st => (opnd m (evE (runL PT k) m) st).th fun x st => match rs1 st x with | some d => outE (biD n [d]) st | none => .bad from by
          funext st
          simp only [evE, evO]
          cases opnd m (evE (runL PT k) m) st with
          | ok x st1 => simp only [Res.th_ok, rsAll]; cases rs1 st1 x <;> rfl
          | exc _ _ => rfl
          | bad => rfl]
        exact okE_isi hT (gl_of G hg) (G.blt _ (by decide +kernel)) (gl_of G hg2) (G.blt _ b4) b1 b2 b3 (star_of hes.1.2) (opnd_ok G hes.1.1 (soundE m cx X x G hk hes.1.1 W tk).e)
    split at h
    · rename_i c lim hx
      have en := isXp_e hx
      subst en
      split at h
      case h_2 => cases h
      rename_i x T' e1
      obtain ⟨p, p2, q, rfl⟩ := pIsi_e e1
      simp only [Bool.and_eq_true] at h
      obtain ⟨⟨⟨⟨⟨⟨hei, hall⟩, hg⟩, hg2⟩, hd⟩, hT⟩, hes⟩ := h
      cases es with
      | nil => simp [chkEs] at hes
      | cons m ms =>
        simp only [chkEs, Bool.and_eq_true] at hes
        have hn : ms = .nil := by cases ms <;> first | rfl | simp [chkEs] at hes
        subst hn
        refine .val ?_ rfl rfl
        rw [show evE (runL PT k) (.bi (.isExc c lim) (.cons m .nil)) = fun st => (opnd m (evE (runL PT k) m) st).th fun x st => match rs1 st x with | some d => outE (biD (.isExc c lim) [d]) st | none => .bad from by
          funext st
          simp only [evE, evO]
          cases opnd m (evE (runL PT k) m) st with
          | ok x st1 => simp only [Res.th_ok, rsAll]; cases rs1 st1 x <;> rfl
          | exc _ _ => rfl
          | bad => rfl]
        have hall' : ∀ k', k' < lim → ∃ y, cx.ex k' = some y := fun k' hk' => Option.isSome_iff_exists.mp (List.all_eq_true.mp hall k' (List.mem_range.mpr hk'))
        have ho := opnd_ok G hes.1.1 (soundE m cx X x G hk hes.1.1 W tk).e
        by_cases hc : c = 100
        · subst hc
          rw [if_pos rfl, decide_eq_true_eq] at hT
          subst hT
          refine okE_isX (cv := .ty "ValueError") (cw := .type "ValueError") (gl_of G hg) (G.blt _ (by decide +kernel)) (pe_bltn (gl_of G hg2) (G.blt _ (by decide +kernel)) boot_ValueError rfl (by decide) (dun_of hd).1) (fun u r => r) (fun k' hk' => ?_) (star_of hes.1.2) ho
          obtain ⟨y, hy⟩ := hall' k' hk'
          obtain ⟨C, h1, h2, _⟩ := (G.exi hei k' y hy).all
          obtain ⟨C', h1', z⟩ := (G.exi hei k' y hy).kitV
          rw [h1] at h1'; cases h1'
          refine ⟨C, h1, h2, ?_⟩
          rw [z]
          simp [excIs]
        · rw [if_neg hc, decide_eq_true_eq] at hT
          obtain ⟨C, bmB, B, n1, n2, hcm, F, q', g, kp, r'⟩ := G.exn c T' hT
          refine okE_isX (cv := .ref C) (cw := cm c) (gl_of G hg) (G.blt _ (by decide +kernel)) (pe_glob (gl_of G hg2) g rfl (dun_of hd).1) (fun u r => by rw [hcm]; exact r) (fun k' hk' => ?_) (star_of hes.1.2) ho
          obtain ⟨y, hy⟩ := hall' k' hk'
          obtain ⟨C1, h1, h2, _⟩ := (G.exi hei k' y hy).all
          obtain ⟨C2, h1', z, _⟩ := (G.exi hei k' y hy).kit (G.exi hei c T' hT) hT
          rw [h1] at h1'; cases h1'
          exact ⟨C1, h1, h2, z⟩
    split at h
    · rename_i hlr
      split at h
      case h_2 => cases h
      rename_i f xs e1
      obtain ⟨p, p2, q, r, rfl⟩ := pRg_e e1
      simp only [Bool.and_eq_true, decide_eq_true_eq] at h
      obtain ⟨⟨⟨⟨hf, hg⟩, hg2⟩, hl⟩, hs⟩ := h
      subst hf
      have en : n = .lstRng := by cases n <;> first | rfl | cases hlr
      subst en
      obtain ⟨_, i1⟩ := soundEs es cx X xs G hk hs W tk
      refine .val ?_ rfl rfl
      rw [show evE (runL PT k) (.bi .lstRng es) = fun st => (evO (runL PT k) es st).th fun os st => match rsAll st os with | some ds => outE (biD .lstRng ds) st | none => .bad from by funext st; first | (simp only [evE]; done) | (simp only [evE]; rfl)]
      cases es with
      | nil => simp [Es.len] at hl
      | cons m ms =>
        cases xs with
        | nil => simp [chkEs] at hs
        | cons z zs =>
          simp only [chkEs, Bool.and_eq_true] at hs
          exact okE_bi (fun av => pe_lstRng G.calm (gl_of G hg) (G.blt _ (by decide +kernel)) (gl_of G hg2) (G.blt _ (by decide +kernel)) ⟨z, zs, rfl, star_of hs.1.2, backTo_any hs.2⟩) i1
    split at h
    · rename_i hlr
      split at h
      case h_2 => cases h
      rename_i f xs e1
      obtain ⟨p, p2, q, r, rfl⟩ := pRg_e e1
      simp only [Bool.and_eq_true, decide_eq_true_eq] at h
      obtain ⟨⟨⟨⟨hf, hg⟩, hg2⟩, hl⟩, hs⟩ := h
      subst hf
      have en : n = .tupRng := by cases n <;> first | rfl | cases hlr
      subst en
      obtain ⟨_, i1⟩ := soundEs es cx X xs G hk hs W tk
      refine .val ?_ rfl rfl
      rw [show evE (runL PT k) (.bi .tupRng es) = fun st => (evO (runL PT k) es st).th fun os st => match rsAll st os with | some ds => outE (biD .tupRng ds) st | none => .bad from by funext st; first | (simp only [evE]; done) | (simp only [evE]; rfl)]
      cases es with
      | nil => simp [Es.len] at hl
      | cons m ms =>
        cases xs with
        | nil => simp [chkEs] at hs
        | cons z zs =>
          simp only [chkEs, Bool.and_eq_true] at hs
          exact okE_bi (fun av => pe_tupRng G.calm (gl_of G hg) (G.blt _ (by decide +kernel)) (gl_of G hg2) (G.blt _ (by decide +kernel)) ⟨z, zs, rfl, star_of hs.1.2, backTo_any hs.2⟩) i1
    split at h
    · rename_i hls
      split at h
      case h_2 => cases h
      rename_i x e1
      obtain ⟨p, p2, q, r, rfl⟩ := pLs_e e1
      simp only [Bool.and_eq_true] at h
      obtain ⟨⟨hg, hg2⟩, hes⟩ := h
      cases es with
      | nil => simp [chkEs] at hes
      | cons m ms =>
        simp only [chkEs, Bool.and_eq_true] at hes
        have hn : ms = .nil := by cases ms <;> first | rfl | simp [chkEs] at hes
        subst hn
        have en : n = .lenSet := by cases n <;> first | rfl | cases hls
        subst en
        refine .val ?_ rfl rfl
        rw [show evE (runL PT k) (.bi .lenSet (.cons m .nil)) = fun st => (opnd m (evE (runL PT k) m) st).th fun x st => match rs1 st x with | some d => outE (lenSetB [d]) st | none => .bad from by
          funext st
          simp only [evE, evO]
          cases opnd m (evE (runL PT k) m) st with
          | ok x st1 => simp only [Res.th_ok, rsAll]; cases rs1 st1 x <;> rfl
          | exc _ _ => rfl
          | bad => rfl]
        exact okE_lenSet G.calm (by have := G.hu; omega) (gl_of G hg) (G.blt _ (by decide +kernel)) (gl_of G hg2) (G.blt _ (by decide +kernel)) (star_of hes.1.2) (opnd_ok G hes.1.1 (soundE m cx X x G hk hes.1.1 W tk).e)
    split at h
    · rename_i hss
      split at h
      case h_2 => cases h
      rename_i x e1
      obtain ⟨p, p2, q, r, rfl⟩ := pSs_e e1
      simp only [Bool.and_eq_true] at h
      obtain ⟨⟨hg, hg2⟩, hes⟩ := h
      cases es with
      | nil => simp [chkEs] at hes
      | cons m ms =>
        simp only [chkEs, Bool.and_eq_true] at hes
        have hn : ms = .nil := by cases ms <;> first | rfl | simp [chkEs] at hes
        subst hn
        have en : n = .sortedSet := by cases n <;> first | rfl | cases hss
        subst en
        refine .val ?_ rfl rfl
        rw [show evE (runL PT k) (.bi .sortedSet (.cons m .nil)) = fun st => (opnd m (evE (runL PT k) m) st).th fun x st => match rs1 st x with | some d => outE (sortedSetB [d]) st | none => .bad from by
          funext st
          simp only [evE, evO]
          cases opnd m (evE (runL PT k) m) st with
          | ok x st1 => simp only [Res.th_ok, rsAll]; cases rs1 st1 x <;> rfl
          | exc _ _ => rfl
          | bad => rfl]
        exact okE_sortedSet G.calm (by have := G.hu; omega) (gl_of G hg) (G.blt _ (by decide +kernel)) (gl_of G hg2) (G.blt _ (by decide +kernel)) (star_of hes.1.2) (opnd_ok G hes.1.1 (soundE m cx X x G hk hes.1.1 W tk).e)
    split at h
    · rename_i x xs e1
      obtain ⟨p, q, rfl⟩ := pCall_e e1
      simp only [Bool.and_eq_true, decide_eq_true_eq] at h
      obtain ⟨⟨⟨hf, hg⟩, hl⟩, hs⟩ := h
      obtain ⟨_, i1⟩ := soundEs es cx X xs G hk hs W tk
      refine .val ?_ rfl rfl
      rw [show evE (runL PT k) (.bi n es) = fun st => (evO (runL PT k) es st).th fun os st => match rsAll st os with | some ds => outE (biD n ds) st | none => .bad from by funext st; first | (simp only [evE]; done) | (simp only [evE]; rfl)]
      cases es with
      | nil => simp [Es.len] at hl
      | cons m ms =>
        cases xs with
        | nil => simp [chkEs] at hs
        | cons z zs =>
          simp only [chkEs, Bool.and_eq_true] at hs
          exact okE_bi (fun av => bi_pe G hf (gl_of G hg) (star_of hs.1.2) (backTo_any hs.2)) i1
    · cases h
  | .ix a b, cx, X, e, G, hk, h, W, tk => by
    simp only [chkE] at h
    split at h
    · rename_i x y e1
      obtain ⟨⟨p, rfl⟩, hn⟩ := pSub_e e1
      rw [Bool.and_eq_true] at h
      refine .val ?_ rfl rfl
      rw [show evE (runL PT k) (.ix a b) = fun st => (opnd a (evE (runL PT k) a) st).th fun x st => (opnd b (evE (runL PT k) b) st).th fun y st => match rs1 st x, rs1 st y with
        | some d, some i => outD (ixD d i) st
        | _, _ => .bad from by funext st; first | (simp only [evE]; done) | (simp only [evE]; rfl)]
      have hu := G.hu
      exact okE_ix (by omega) (plainIx hn) (opnd_ok G h.1 (soundE a cx X x G hk h.1 W tk).e) (opnd_ok G h.2 (soundE b cx X y G hk h.2 W tk).e)
    · cases h
  | .slF a b, cx, X, e, G, hk, h, W, tk => by
    simp only [chkE] at h
    split at h
    · rename_i x y e1
      obtain ⟨p, q, rfl⟩ := pSlF_e e1
      rw [Bool.and_eq_true] at h
      refine .val ?_ rfl rfl
      rw [show evE (runL PT k) (.slF a b) = fun st => (opnd a (evE (runL PT k) a) st).th fun x st => (opnd b (evE (runL PT k) b) st).th fun l st => match rs1 st x, rs1 st l with
        | some d, some (.int l) => outE (slD d (some l) none) st
        | _, _ => .bad from by funext st; first | (simp only [evE]; done) | (simp only [evE]; rfl)]
      exact okE_slF (opnd_ok G h.1 (soundE a cx X x G hk h.1 W tk).e) (opnd_ok G h.2 (soundE b cx X y G hk h.2 W tk).e)
    · cases h
  | .slT a b, cx, X, e, G, hk, h, W, tk => by
    simp only [chkE] at h
    split at h
    · rename_i x y e1
      obtain ⟨p, q, rfl⟩ := pSlT_e e1
      rw [Bool.and_eq_true] at h
      refine .val ?_ rfl rfl
      rw [show evE (runL PT k) (.slT a b) = fun st => (opnd a (evE (runL PT k) a) st).th fun x st => (opnd b (evE (runL PT k) b) st).th fun l st => match rs1 st x, rs1 st l with
        | some d, some (.int l) => outE (slD d none (some l)) st
        | _, _ => .bad from by funext st; first | (simp only [evE]; done) | (simp only [evE]; rfl)]
      exact okE_slT (opnd_ok G h.1 (soundE a cx X x G hk h.1 W tk).e) (opnd_ok G h.2 (soundE b cx X y G hk h.2 W tk).e)
    · cases h
  | .sl a b c, cx, X, e, G, hk, h, W, tk => by
    simp only [chkE] at h
    split at h
    · rename_i x y z e1
      obtain ⟨p, q, rfl⟩ := pSl_e e1
      simp only [Bool.and_eq_true] at h
      refine .val ?_ rfl rfl
      rw [show evE (runL PT k) (.sl a b c) = fun st => (opnd a (evE (runL PT k) a) st).th fun x st => (evE (runL PT k) b st).th fun l st => match l.2 with
        | .int i => (evE (runL PT k) c st).th fun h st => match rs1 st x, h.2 with | some d, .int j => outE (slD d (some i) (some j)) st | _, _ => .bad
        | _ => .bad from by funext st; first | (simp only [evE]; done) | (simp only [evE]; rfl)]
      exact okE_sl (opnd_ok G h.1.1 (soundE a cx X x G hk h.1.1 W tk).e) (soundE b cx X y G hk h.1.2 W tk).e (soundE c cx X z G hk h.2 W tk).e
    · cases h
  | .lc elt tg kd es cond own, cx, X, e, G, hk, h, W, tk => by
    simp only [chkE] at h
    split at h
    case h_2 => cases h
    rename_i el t it ifs scope e1
    obtain ⟨p, rfl⟩ := pLc_e e1
    simp only [Bool.and_eq_true] at h
    obtain ⟨⟨⟨⟨⟨⟨hblk, hsl⟩, hset⟩, htg⟩, hel⟩, hif⟩, hit⟩ := h
    have eown : (own.map fun i => (cx.N.getD i "", i)).map (·.2) = own := by rw [List.map_map]; exact List.map_id' own
    have ok : BlkOk X.N X.env.scope scope (own.map fun i => (cx.N.getD i "", i)) := by rw [G.N, G.sc]; exact blkOk_by hblk
    have hsl' : ∀ j ∈ tg.slots, j ∈ own := fun j hj => by
      have := List.all_eq_true.mp hsl j hj
      simpa using this
    have Gb := fun s H C cl fp => G.blk scope hk s H C cl fp
    have tgB := fun s H C cl fp => soundTg tg _ _ t (Gb s H C cl fp) htg
    have elB := fun s H C cl fp => (soundE elt _ _ el (Gb s H C cl fp) ok.kind hel W0 takesBlk).e
    have fset : ∀ x, foldedSetIterable it X.env x = pure x := by
      intro x
      cases it <;> first | rfl | cases hset
    -- the iterable
    have hi : OkI X cm W t it kd (evO (runL PT k) es) := by
      cases kd with
      | seq =>
        simp only [Bool.and_eq_true] at hit
        obtain ⟨h1, h2⟩ := hit
        cases es with
        | nil => simp [Es.len] at h1
        | cons m ms =>
          cases ms with
          | cons _ _ => simp [Es.len] at h1
          | nil =>
            simp only [chkEs, Bool.and_eq_true] at h2
            have i1 := okI1 (tg := t) pi_seqK (opnd_ok G h2.1.1 (soundE m cx X it G hk h2.1.1 W tk).e)
            rw [show evO (runL PT k) (.cons m .nil) = fun st => (opnd m (evE (runL PT k) m) st).th fun d st => (Res.ok [] st : Res (List Opd)).th fun ds st => .ok (d :: ds) st from by funext st; simp only [evO]]
            exact i1
      | range =>
        dsimp only at hit
        split at hit
        case h_2 => cases hit
        rename_i f xs e2
        obtain ⟨p1, q1, rfl⟩ := pCall_e e2
        simp only [Bool.and_eq_true, decide_eq_true_eq] at hit
        obtain ⟨⟨⟨⟨rfl, hg⟩, l1⟩, l2⟩, hes⟩ := hit
        have hg' := gl_of G hg
        have hm := G.blt "range" (by decide +kernel)
        obtain ⟨_, i2⟩ := soundEs es cx X xs G hk hes W tk
        refine okI (fun b => b = es.len) es.len rfl (fun st os st' ds q q2 => by show ds.length = _; rw [rsAll_len q2, evO_len q]) (fun b hb => ?_) i2
        subst hb
        cases es with
        | nil => simp [Es.len] at l1
        | cons m1 r1 =>
          cases xs with
          | nil => simp [chkEs] at hes
          | cons x1 ys =>
            have hes0 := hes
            simp only [chkEs, Bool.and_eq_true] at hes
            obtain ⟨⟨c1, s1⟩, hes⟩ := hes
            cases r1 with
            | nil =>
              simp only [chkEs, List.isEmpty_iff] at hes
              subst hes
              exact pi_range1K hg' hm (star_of s1)
            | cons m2 r2 =>
              cases ys with
              | nil => simp [chkEs] at hes
              | cons x2 zs =>
                have hes2 := hes
                simp only [chkEs, Bool.and_eq_true] at hes
                obtain ⟨⟨c2, s2⟩, hes⟩ := hes
                cases r2 with
                | nil =>
                  simp only [chkEs, List.isEmpty_iff] at hes
                  subst hes
                  exact pi_range2K hg' hm (by rw [star_of s1, star_of s2]; rfl) (star_of s2)
                | cons m3 r3 =>
                  cases zs with
                  | nil => simp [chkEs] at hes
                  | cons x3 ws =>
                    simp only [chkEs, Bool.and_eq_true] at hes
                    obtain ⟨⟨c3, s3⟩, hes⟩ := hes
                    cases r3 with
                    | nil =>
                      simp only [chkEs, List.isEmpty_iff] at hes
                      subst hes
                      exact pi_range3K hg' hm (star_of s1) (backTo_any hes2)
                    | cons _ _ => simp [Es.len] at l2
      | zip =>
        dsimp only at hit
        split at hit
        case h_2 => cases hit
        rename_i f xs e2
        obtain ⟨p1, q1, rfl⟩ := pCall_e e2
        simp only [Bool.and_eq_true, decide_eq_true_eq] at hit
        obtain ⟨⟨⟨⟨rfl, hg⟩, l1⟩, hes⟩, ht⟩ := hit
        have hm := G.blt "zip" (by decide +kernel)
        obtain ⟨_, i2⟩ := soundEs es cx X xs G hk hes W tk
        refine okI (fun _ => True) 0 trivial (fun _ _ _ _ _ _ => trivial) (fun b _ => ?_) i2
        cases es with
        | nil => simp [Es.len] at l1
        | cons m1 r1 =>
          cases r1 with
          | nil => simp [Es.len] at l1
          | cons m2 r2 =>
            cases r2 with
            | cons _ _ => simp [Es.len] at l1
            | nil =>
              cases xs with
              | nil => simp [chkEs] at hes
              | cons x1 ys =>
                simp only [chkEs, Bool.and_eq_true] at hes
                obtain ⟨⟨c1, s1⟩, hes⟩ := hes
                cases ys with
                | nil => simp [chkEs] at hes
                | cons x2 zs =>
                  simp only [chkEs, Bool.and_eq_true, List.isEmpty_iff] at hes
                  obtain ⟨⟨c2, s2⟩, rfl⟩ := hes
                  cases t <;> simp only [isTup, Bool.false_eq_true] at ht
                  exact pi_zipK (gl_of G hg) hm (star_of s1) (by rw [star_of s2]; rfl) b
      | enum =>
        dsimp only at hit
        split at hit
        case h_2 => cases hit
        rename_i f xs e2
        obtain ⟨p1, q1, rfl⟩ := pCall_e e2
        simp only [Bool.and_eq_true, decide_eq_true_eq] at hit
        obtain ⟨⟨⟨⟨rfl, hg⟩, l1⟩, hes⟩, ht⟩ := hit
        have hm := G.blt "enumerate" (by decide +kernel)
        obtain ⟨_, i2⟩ := soundEs es cx X xs G hk hes W tk
        refine okI (fun _ => True) 0 trivial (fun _ _ _ _ _ _ => trivial) (fun b _ => ?_) i2
        cases es with
        | nil => simp [Es.len] at l1
        | cons m1 r1 =>
          cases r1 with
          | cons _ _ => simp [Es.len] at l1
          | nil =>
            cases xs with
            | nil => simp [chkEs] at hes
            | cons x1 ys =>
              simp only [chkEs, Bool.and_eq_true, List.isEmpty_iff] at hes
              obtain ⟨⟨c1, s1⟩, rfl⟩ := hes
              cases t <;> simp only [isTup, Bool.false_eq_true] at ht
              exact pi_enumK (gl_of G hg) hm (star_of s1) b
    -- the tests
    have hc : ∃ tt : TT, (InBlk X scope fun X' => PTs X' ifs tt) ∧ ∀ (av : Addr → Prop) (H0 : Hp) (st : List Slot) (σ : L2.St) (H : Hp) (Q : Bool → Hp → Prop), SRel X.K cm av H0 st σ H →
        Post (fun _ _ => False) (fun a st' => ∃ b, a.2 = .bl b ∧ ∀ H', SRel X.K cm av H0 st' σ H' → Kp (VW av st σ) H (VW av st' σ) H' → Q b H') (evC (runL PT k) cond st) → tt σ H Q := by
      cases ifs with
      | nil =>
        have hn : cond = .nil := by cases cond <;> first | rfl | simp [Es.len] at hif
        subst hn
        refine ⟨tYes, fun s H C cl fp => pts_nil, fun av H0 st σ H Q S q => ?_⟩
        have q' : Post (fun _ _ => False) _ (evC (runL PT k) .nil st) := q
        rw [show evC (runL PT k) .nil st = .ok (false, .bl true) st from by simp only [evC]] at q'
        obtain ⟨b, eb, q'⟩ := q'
        cases eb
        exact q' H S kp0
      | cons z r =>
        cases r with
        | cons _ _ => simp at hif
        | nil =>
          simp only [Bool.and_eq_true] at hif
          obtain ⟨⟨l1, hz⟩, hi⟩ := hif
          cases cond with
          | nil => simp [Es.len] at l1
          | cons c cs =>
            cases cs with
            | cons _ _ => simp [Es.len] at l1
            | nil =>
              simp only [chkEs, Bool.and_eq_true] at hz
              have tB := fun s H C cl fp => (soundE c _ _ z (Gb s H C cl fp) ok.kind hz.1.1 W0 takesBlk).t hi
              refine ⟨fun σ H Q => ∀ s H' C cl fp, SemT (X.blk s H' scope (compEnvC scope cl C X.env) fp) z σ H Q, fun s H C cl fp => pts_one ⟨fun pins s' σ H Q I q => q s _ C cl fp pins s' I⟩, fun av H0 st σ H Q S q => ?_⟩
              have q' : Post (fun _ _ => False) _ (evC (runL PT k) (.cons c .nil) st) := q
              rw [show evC (runL PT k) (.cons c .nil) st = evE (runL PT k) c st from by simp only [evC]] at q'
              intro s H' C cl fp
              exact tB s H' C cl fp av H0 st σ H Q S (q'.imp (fun _ _ z => z.elim) fun _ _ x => x)
    obtain ⟨tt, ht, htb⟩ := hc
    have LR := lc_read (elt := el) (X := X) (cm := cm) (W := W) (vs := own) hi (g := gOf X.K tg) (m := tg) (gb_of tg) hsl' htb elB
    have PL := pe_lc (elt := el) (te := tBlk X scope el) (g := gOf X.K tg) (own := own.map fun i => (cx.N.getD i "", i)) (pos := p) G.calm G.nd (piS (tg := t) (iter := it)) ok (fun s H C cl fp => (tgB s H C cl fp).1) ht pe_blk fset
    rw [eown] at PL
    have L1 := LR.e PL
    have L2 := okT_val L1 (plain_isTrue rfl)
    rw [show evE (runL PT k) (.lc elt tg kd es cond own) = fun st => (evO (runL PT k) es st).th fun os st => match rsAll st os with
      | none => .bad
      | some ds => match iterD kd ds with
        | none => .bad
        | some items => if wipeOk (lockAll os st) own && decide (items.length ≤ SZ) then
            (lcGo tg own (evC (runL PT k) cond) (evE (runL PT k) elt) items [] (wipeS (lockAll os st) own)).noExc.th fun d st' => .ok (true, d.2) (unlockAll st os (backS (lockAll os st) st' own))
          else .bad from by funext st; first | (simp only [evE]; done) | (simp only [evE]; rfl)]
    refine ⟨L1, fun _ => L2, fun hb => absurd hb (by simp [isBoolOp]), fun _ i y py spos h1 h2 h3 => ⟨_, ?_, LR⟩⟩
    have P := ps_setLc (elt := el) (te := tBlk X scope el) (g := gOf X.K tg) (own := own.map fun i => (cx.N.getD i "", i)) (pos := p) G.calm G.nd h1 h2 h3 (piS (tg := t) (iter := it)) ok (fun s H C cl fp => (tgB s H C cl fp).1) ht pe_blk fset
    rw [eown] at P
    exact P
  | .callIx fs i es, cx, X, e, G, hk, h, W, tk => by
    simp only [chkE] at h
    split at h
    case h_2 => cases h
    rename_i ns ie xs e1
    obtain ⟨⟨p, q, r, rfl⟩, hsl⟩ := pCix_e e1
    simp only [Bool.and_eq_true, decide_eq_true_eq] at h
    obtain ⟨⟨⟨⟨hn, hi⟩, hes⟩, hl⟩, hl2⟩ := h
    obtain ⟨as, N⟩ := names_at G hn
    have hes0 := hes
    cases es with
    | nil => simp [Es.len] at hl
    | cons m ms =>
      cases xs with
      | nil => simp [chkEs] at hes
      | cons z zs =>
        simp only [chkEs, Bool.and_eq_true] at hes
        refine .val ?_ rfl rfl
        rw [show evE (runL PT k) (.callIx fs i (.cons m ms)) = fun st => (evE (runL PT k) i st).th fun kd st => match kd.2 with
          | .int j => match (ixAt fs.length j).bind fun j => fs[j]? with
            | some f => (evA (runL PT k) (.cons m ms) st).th fun ds st => outF (runL PT k f ds) st
            | none => .bad
          | _ => .bad from by funext st; first | (simp only [evE]; done) | (simp only [evE]; rfl)]
        exact okE_callIx N G.room tk (plainIx hsl) hl2 (soundE i cx X ie G hk hi W tk).e (soundEs (.cons m ms) cx X (z :: zs) G hk hes0 W tk).1 (star_of hes.1.2) (backTo_any hes.2)
  | .even a, cx, X, e, G, hk, h, W, tk => by
    simp only [chkE] at h
    split at h
    · rename_i x e1
      obtain ⟨k1, p1, p3, p4, rfl⟩ := pEv_e e1
      refine .val ?_ rfl rfl
      rw [show evE (runL PT k) (.even a) = fun st => (opnd a (evE (runL PT k) a) st).th fun x st => match rs1 st x with
        | some (.tup xs) => .ok (false, .tup (evens xs)) st
        | _ => .bad from by funext st; first | (simp only [evE]; done) | (simp only [evE]; rfl)]
      exact okE_ev (opnd_ok G h (soundE a cx X x G hk h W tk).e)
    · cases h
  | .pop i, cx, X, e, G, hk, h, W, tk => by
    simp only [chkE] at h
    split at h
    case h_2 => cases h
    rename_i x xp m e1
    obtain ⟨ap, cp, rfl, hl⟩ := pM0_e e1
    simp only [Bool.and_eq_true, decide_eq_true_eq] at h
    obtain ⟨⟨⟨rfl, h1⟩, h2⟩, h3⟩ := h
    obtain ⟨d1, d2, _⟩ := dun_of h3
    refine .val ?_ rfl rfl
    rw [show evE (runL PT k) (.pop i) = fun st => popS i st popD from by funext st; simp only [evE]]
    exact okE_pop (pe_var (by rw [G.N]; exact h1) (vis_of G h2) d1 d2) (by rw [hl]; exact beq_self_eq_true _)
  | .popAt i a, cx, X, e, G, hk, h, W, tk => by
    simp only [chkE] at h
    split at h
    case h_2 => cases h
    rename_i x xp m b e1
    obtain ⟨ap, cp, rfl, hl⟩ := pM1_e e1
    simp only [Bool.and_eq_true, decide_eq_true_eq] at h
    obtain ⟨⟨⟨⟨⟨rfl, h1⟩, h2⟩, h3⟩, h4⟩, h5⟩ := h
    obtain ⟨d1, d2, _⟩ := dun_of h3
    have st1 := star_of (X := X) (r := []) h5
    refine .val ?_ rfl rfl
    rw [show evE (runL PT k) (.popAt i a) = fun st => if ownedL i st then (evE (runL PT k) a st).th fun kd st => popS i st (popAtL kd.2) else .bad from by funext st; simp only [evE]]
    exact okE_popAt (pe_var (by rw [G.N]; exact h1) (vis_of G h2) d1 d2) (by rw [hl]; exact beq_self_eq_true _) st1 (by rw [st1]; rfl) (soundE a cx X b G hk h4 W tk).e
theorem soundEs : ∀ (ms : Es) (cx : Ctx) (X : Cx) (xs : List Expr), Good PT k cm cx X → X.env.scope.kind = .function → chkEs cx ms xs = true → ∀ W, Takes X W → OkA X cm W xs (evA (runL PT k) ms) ∧ OkOs X cm W xs (evO (runL PT k) ms)
  | .nil, cx, X, xs, G, hk, h, W, tk => by
    simp only [chkEs, List.isEmpty_iff] at h
    subst h
    exact ⟨by rw [show evA (runL PT k) .nil = fun st => .ok [] st from by funext st; simp only [evA]]; exact okA_nil, by rw [show evO (runL PT k) .nil = fun st => .ok [] st from by funext st; simp only [evO]]; exact okOs_nil⟩
  | .cons m ms, cx, X, xs, G, hk, h, W, tk => by
    cases xs with
    | nil => simp [chkEs] at h
    | cons x xs =>
      simp only [chkEs, Bool.and_eq_true] at h
      obtain ⟨⟨h1, h2⟩, h3⟩ := h
      have i1 := soundE m cx X x G hk h1 W tk
      obtain ⟨i2, i3⟩ := soundEs ms cx X xs G hk h3 W tk
      refine ⟨?_, ?_⟩
      · rw [show evA (runL PT k) (.cons m ms) = fun st => (evE (runL PT k) m st).th fun d st => (evA (runL PT k) ms st).th fun ds st => .ok (d.2 :: ds) st from by funext st; simp only [evA]]
        exact okA_cons i1.e i2 (star_of h2)
      · rw [show evO (runL PT k) (.cons m ms) = fun st => (opnd m (evE (runL PT k) m) st).th fun d st => (evO (runL PT k) ms st).th fun ds st => .ok (d :: ds) st from by funext st; simp only [evO]]
        exact okOs_cons (opnd_ok G h1 i1.e) i3 (star_of h2)
end
end
end PD
set_option maxHeartbeats 4000000
namespace PD
open PySem PySem.Spec PyProof.Rows L2
/-! F6: statements. -/
def pExcCall : Expr → Option Str | .Call (.Name x _) [.Constant (.str _) _ _] [] _ => some x | _ => none
def pName2 : Expr → Option (Str × Pos) | .Name x p => some (x, p) | _ => none
def isDoc : Stmt → Bool | .Expr (.Constant (.str _) _ _) _ => true | _ => false
/-- the tuple's names, if all are plain locals on one line -/
def swN (sc : Scope) (ts : List Expr) : List Str := ts.filterMap fun e => match e with
  | .Name id pos => if sc.names.lookup id == some .local && pos.line == (ts.head?.map (·.pos.line)).getD 0 then some id else none
  | _ => none
/-- the stores are not exchanged -/
def noSw (sc : Scope) : Expr → Expr → Bool
  | .Tuple ts _ _, .Tuple vs _ _ => !(ts.length == 2 || ts.length == 3) || vs.length != ts.length || ((swN sc ts).length != ts.length) || vs.all (foldedForSure 8)
  | .List _ _, _ => false
  | _, _ => true
/-- .. are -/
def isSw (sc : Scope) (ts vs : List Expr) : Bool := (swN sc ts).length == ts.length && (swN sc ts).eraseDups.length == (swN sc ts).length && !vs.all (foldedForSure 8) && !vs.all (constantsAlone 8)
def isTgTup : Tg → Bool | .tup _ => true | _ => false
/-- name = [..] on one line, the name a plain local that the block does not have -/
def lcSwB (sc : Scope) (x : Expr) (tg : Expr) : Bool := match x, tg with
  | .ListComp _ _ s p, .Name t pos => sc.names.lookup t == some .local && pos.line == p.line && !(s.names.any fun (n, k) => n == t && (k == .local || k == .cell))
  | _, _ => false
/-- .. or the name is none such -/
def lcNoB (sc : Scope) (x : Expr) (tg : Expr) : Bool := match x, tg with
  | .ListComp _ _ s p, .Name t pos => !(sc.names.lookup t == some .local && pos.line == p.line && !(s.names.any fun (n, k) => n == t && (k == .local || k == .cell)))
  | _, _ => false
def pAsg : Stmt → Option (Expr × Expr) | .Assign [t] x _ => some (t, x) | _ => none
def pPar2 : Stmt → Option (Str × Str × Expr × Expr × List Expr) | .Assign [.Tuple [.Name x p, .Name y q] a b] (.Tuple [e1, e2] _ _) _ => some (x, y, e1, e2, [.Name x p, .Name y q]) | _ => none
def pPar3 : Stmt → Option (Str × Str × Str × Expr × Expr × Expr × List Expr) | .Assign [.Tuple [.Name x p, .Name y q, .Name z r] a b] (.Tuple [e1, e2, e3] _ _) _ => some (x, y, z, e1, e2, e3, [.Name x p, .Name y q, .Name z r]) | _ => none
def pMeth (m : Str) : Stmt → Option (Str × Expr) | .Expr (.Call (.Attribute (.Name x p) n ap) [e] [] cp) _ => if n = m ∧ ap.endLine = cp.line then some (x, e) else none | _ => none
def pPop : Stmt → Option Str | .Expr (.Call (.Attribute (.Name x p) n ap) [] [] cp) _ => if n = "pop" ∧ ap.endLine = cp.line then some x else none | _ => none
def pSetIx : Stmt → Option (Str × Expr × Expr) | .Assign [.Subscript (.Name x _) ke _] ve _ => some (x, ke, ve) | _ => none
def pExpr : Stmt → Option Expr | .Expr x _ => some x | _ => none
def pIf : Stmt → Option (Expr × List Stmt × List Stmt) | .If c a b _ => some (c, a, b) | _ => none
def pWhile : Stmt → Option (Expr × List Stmt) | .While c b [] _ => some (c, b) | _ => none
def pFor : Stmt → Option (Expr × Expr × List Stmt) | .For t i b [] _ => some (t, i, b) | _ => none
def pRet : Stmt → Option Expr | .Return (some e) _ => some e | _ => none
def isRetN : Stmt → Bool | .Return none _ => true | _ => false
def pTryK : Stmt → Option (List Stmt × Str × Str × Str) | .Try body [.ExceptHandler (some (.Name x _)) (some n) [.Assign [.Name m _] (.Name n' _) _] _] [] [] _ => if n' = n then some (body, x, n, m) else none | _ => none
def pRaise : Stmt → Option Str | .Raise (some e) none _ => pExcCall e | _ => none
def nmOf : Tg → Option Nat | .nm i => some i | _ => none
mutual
def chkS (cx : Ctx) : S → Stmt → Bool
  | .ex e, s => (match e with | .pop i => (match pPop s with | some x => decide (cx.N[i]? = some x) && visB cx.sc x && !dunder x | _ => false) | _ => false) || isDoc s && (match e with | .c .non => true | _ => false) || (match pExpr s with | some x => chkE cx e x && notLc x | _ => false)
  | .asg t e, s => match pAsg s with
    | some (tg, x) => chkTg cx t tg && chkE cx e x && noSw cx.sc tg x && ((notLc x || lcNoB cx.sc x tg) || (match t with | .nm _ => lcSwB cx.sc x tg | .tup _ => true))
    | _ => false
  | .par ts es, s => (match pPar2 s with
      | some (x, y, a, b, l) => (match ts with
        | .cons (.nm i) (.cons (.nm j) .nil) => decide (i ≠ j) && decide (cx.N[i]? = some x) && decide (cx.N[j]? = some y) && decide (cx.sc.names.lookup x = some .local) && decide (cx.sc.names.lookup y = some .local) && chkEs cx es [a, b] && isSw cx.sc l [a, b]
        | _ => false)
      | _ => false) || (match pPar3 s with
      | some (x, y, z, a, b, c, l) => (match ts with
        | .cons (.nm i) (.cons (.nm j) (.cons (.nm k) .nil)) => decide (i ≠ j) && decide (i ≠ k) && decide (j ≠ k) && decide (cx.N[i]? = some x) && decide (cx.N[j]? = some y) && decide (cx.N[k]? = some z) && decide (cx.sc.names.lookup x = some .local) && decide (cx.sc.names.lookup y = some .local) && decide (cx.sc.names.lookup z = some .local) && chkEs cx es [a, b, c] && isSw cx.sc l [a, b, c]
        | _ => false)
      | _ => false)
  | .app i e, s => match pMeth "append" s with | some (x, y) => decide (cx.N[i]? = some x) && visB cx.sc x && !dunder x && chkE cx e y && notSt y | _ => false
  | .ext i e, s => match pMeth "extend" s with | some (x, y) => decide (cx.N[i]? = some x) && visB cx.sc x && !dunder x && chkE cx e y && notSt y | _ => false
  | .setIx i k e, s => match pSetIx s with | some (x, ke, ve) => decide (cx.N[i]? = some x) && visB cx.sc x && !dunder x && chkE cx k ke && notSl ke && chkE cx e ve && notLc ve | _ => false
  | .iff c a b, s => match pIf s with | some (z, x, y) => chkE cx c z && ifx z && chkSs cx a x && chkSs cx b y | _ => false
  | .whl c b, s => match pWhile s with | some (z, x) => chkE cx c z && ifx z && chkSs cx b x | _ => false
  | .for_ t k es b, s => match pFor s with
    | some (tg, it, x) => chkTg cx t tg && notSet it && chkSs cx b x &&
      (match k with
        | .seq => es.len == 1 && chkEs cx es [it]
        | .range => (match pCall it with | some (f, xs) => decide (f = "range") && glB cx.sc f && decide (1 ≤ es.len) && decide (es.len ≤ 3) && chkEs cx es xs | _ => false)
        | .zip => (match pCall it with | some (f, xs) => decide (f = "zip") && glB cx.sc f && decide (es.len = 2) && chkEs cx es xs && isTup tg | _ => false)
        | .enum => (match pCall it with | some (f, xs) => decide (f = "enumerate") && glB cx.sc f && decide (es.len = 1) && chkEs cx es xs && isTup tg | _ => false))
    | _ => false
  | .ret e, s => match pRet s with | some x => chkE cx e x | _ => false
  | .retN, s => isRetN s
  | .raise c, s => match pRaise s with | some x => decide (cx.ex c = some x) && glB cx.sc x && !dunder x | _ => false
  | .tryKeep b c n i j, s => match pTryK s with
    | some (body, x, nm, m) => decide (i ≠ j) && decide (cx.N[i]? = some nm) && decide (cx.N[j]? = some m) && decide (cx.sc.names.lookup nm = some .local) && decide (cx.sc.names.lookup m = some .local) && !dunder nm && cx.ei && decide (cx.ex c = some x) && glB cx.sc x && !dunder x && exAll cx n && chkSs cx b body
    | _ => false
  | _, _ => false
def chkSs (cx : Ctx) : Ss → List Stmt → Bool
  | .nil, ss => ss.isEmpty
  | .cons s r, ss => match ss with | x :: xs => chkS cx s x && chkSs cx r xs | [] => false
end
theorem pAsg_e {s : Stmt} {t x : Expr} (h : pAsg s = some (t, x)) : ∃ p, s = .Assign [t] x p := by
  unfold pAsg at h; split at h
  · simp only [Option.some.injEq, Prod.mk.injEq] at h; obtain ⟨rfl, rfl⟩ := h; exact ⟨_, rfl⟩
  · cases h
theorem pExpr_e {s : Stmt} {x : Expr} (h : pExpr s = some x) : ∃ p, s = .Expr x p := by
  unfold pExpr at h; split at h
  · simp only [Option.some.injEq] at h; obtain rfl := h; exact ⟨_, rfl⟩
  · cases h
theorem pIf_e {s : Stmt} {c : Expr} {a b : List Stmt} (h : pIf s = some (c, a, b)) : ∃ p, s = .If c a b p := by
  unfold pIf at h; split at h
  · simp only [Option.some.injEq, Prod.mk.injEq] at h; obtain ⟨rfl, rfl, rfl⟩ := h; exact ⟨_, rfl⟩
  · cases h
theorem pWhile_e {s : Stmt} {c : Expr} {b : List Stmt} (h : pWhile s = some (c, b)) : ∃ p, s = .While c b [] p := by
  unfold pWhile at h; split at h
  · simp only [Option.some.injEq, Prod.mk.injEq] at h; obtain ⟨rfl, rfl⟩ := h; exact ⟨_, rfl⟩
  · cases h
theorem pFor_e {s : Stmt} {t i : Expr} {b : List Stmt} (h : pFor s = some (t, i, b)) : ∃ p, s = .For t i b [] p := by
  unfold pFor at h; split at h
  · simp only [Option.some.injEq, Prod.mk.injEq] at h; obtain ⟨rfl, rfl, rfl⟩ := h; exact ⟨_, rfl⟩
  · cases h
theorem pRet_e {s : Stmt} {x : Expr} (h : pRet s = some x) : ∃ p, s = .Return (some x) p := by
  unfold pRet at h; split at h
  · simp only [Option.some.injEq] at h; obtain rfl := h; exact ⟨_, rfl⟩
  · cases h
theorem isRetN_e {s : Stmt} (h : isRetN s = true) : ∃ p, s = .Return none p := by
  unfold isRetN at h; split at h
  · exact ⟨_, rfl⟩
  · cases h
theorem isDoc_e {s : Stmt} (h : isDoc s = true) : ∃ x j p q, s = .Expr (.Constant (.str x) j p) q := by
  unfold isDoc at h; split at h
  · exact ⟨_, _, _, _, rfl⟩
  · cases h
theorem pRaise_e {s : Stmt} {x : Str} (h : pRaise s = some x) : ∃ p m j p2 q p3, s = .Raise (some (.Call (.Name x p) [.Constant (.str m) j p2] [] q)) none p3 := by
  unfold pRaise at h; split at h
  · unfold pExcCall at h; split at h
    · simp only [Option.some.injEq] at h; obtain rfl := h; exact ⟨_, _, _, _, _, _, rfl⟩
    · cases h
  · cases h
theorem pTryK_e {s : Stmt} {body : List Stmt} {x n m : Str} (h : pTryK s = some (body, x, n, m)) : ∃ p1 p2 p3 p4 p5 p6, s = .Try body [.ExceptHandler (some (.Name x p1)) (some n) [.Assign [.Name m p2] (.Name n p3) p4] p5] [] [] p6 := by
  unfold pTryK at h; split at h
  · split at h
    · rename_i hn
      subst hn
      simp only [Option.some.injEq, Prod.mk.injEq] at h; obtain ⟨rfl, rfl, rfl, rfl⟩ := h; exact ⟨_, _, _, _, _, _, rfl⟩
    · cases h
  · cases h
theorem pMeth_e {m : Str} {s : Stmt} {x : Str} {e : Expr} (h : pMeth m s = some (x, e)) : ∃ p ap cp sp, s = .Expr (.Call (.Attribute (.Name x p) m ap) [e] [] cp) sp ∧ ap.endLine = cp.line := by
  unfold pMeth at h; split at h
  · split at h
    · rename_i h1
      obtain ⟨rfl, h1⟩ := h1
      simp only [Option.some.injEq, Prod.mk.injEq] at h; obtain ⟨rfl, rfl⟩ := h; exact ⟨_, _, _, _, rfl, h1⟩
    · cases h
  · cases h
theorem pPop_e {s : Stmt} {x : Str} (h : pPop s = some x) : ∃ p ap cp sp, s = .Expr (.Call (.Attribute (.Name x p) "pop" ap) [] [] cp) sp ∧ ap.endLine = cp.line := by
  unfold pPop at h; split at h
  · split at h
    · rename_i h1
      obtain ⟨rfl, h1⟩ := h1
      simp only [Option.some.injEq] at h; subst h; exact ⟨_, _, _, _, rfl, h1⟩
    · cases h
  · cases h
theorem pSetIx_e {s : Stmt} {x : Str} {k e : Expr} (h : pSetIx s = some (x, k, e)) : ∃ p1 p2 p, s = .Assign [.Subscript (.Name x p1) k p2] e p := by
  unfold pSetIx at h; split at h
  · simp only [Option.some.injEq, Prod.mk.injEq] at h; obtain ⟨rfl, rfl, rfl⟩ := h; exact ⟨_, _, _, rfl⟩
  · cases h
theorem pPar2_e {s : Stmt} {x y : Str} {a b : Expr} {l : List Expr} (h : pPar2 s = some (x, y, a, b, l)) : ∃ p q k1 k2 t1 t2 sp, s = .Assign [.Tuple [.Name x p, .Name y q] k1 t1] (.Tuple [a, b] k2 t2) sp ∧ l = [.Name x p, .Name y q] := by
  unfold pPar2 at h; split at h
  · simp only [Option.some.injEq, Prod.mk.injEq] at h; obtain ⟨rfl, rfl, rfl, rfl, rfl⟩ := h; exact ⟨_, _, _, _, _, _, _, rfl, rfl⟩
  · cases h
theorem pPar3_e {s : Stmt} {x y z : Str} {a b c : Expr} {l : List Expr} (h : pPar3 s = some (x, y, z, a, b, c, l)) : ∃ p q r k1 k2 t1 t2 sp, s = .Assign [.Tuple [.Name x p, .Name y q, .Name z r] k1 t1] (.Tuple [a, b, c] k2 t2) sp ∧ l = [.Name x p, .Name y q, .Name z r] := by
  unfold pPar3 at h; split at h
  · simp only [Option.some.injEq, Prod.mk.injEq] at h; obtain ⟨rfl, rfl, rfl, rfl, rfl, rfl, rfl⟩ := h; exact ⟨_, _, _, _, _, _, _, _, rfl, rfl⟩
  · cases h
section
variable {PT : Nat → Option FD} {k : Nat} {cm : Nat → Value}
section
variable {X : Cx} {W : WX} {cx : Ctx}
theorem blockKind_of (hk : X.env.scope.kind = .function) : X.env.blockKind = .function := by unfold Env.blockKind; rw [hk]; rfl
theorem swap_no {e : Expr} {t : Option Expr} {n : Nat} (h : notLc e = true) : swapsWith e t n X.env = pure false := by
  cases e <;> first | rfl | cases h
theorem swap_tup {e : Expr} {es : List Expr} {j : Nat} {p : Pos} {n : Nat} : swapsWith e (some (.Tuple es j p)) n X.env = pure false := by
  cases e <;> rfl
theorem swap_lcN {e tg : Expr} {n : Nat} (hk : X.env.scope.kind = .function) (h : lcNoB X.env.scope e tg = true) : swapsWith e (some tg) n X.env = pure false := by
  unfold lcNoB at h
  split at h
  · unfold swapsWith
    dsimp only
    rw [blockKind_of hk]
    rw [Bool.not_eq_true'] at h
    exact congrArg pure h
  · cases h
theorem swap_lc {e tg : Expr} {n : Nat} (hk : X.env.scope.kind = .function) (h : lcSwB X.env.scope e tg = true) : swapsWith e (some tg) n X.env = pure true := by
  unfold lcSwB at h
  split at h
  · unfold swapsWith
    dsimp only
    rw [blockKind_of hk]
    exact congrArg pure h
  · cases h
theorem noSw_ok {tg e : Expr} (h : noSw X.env.scope tg e = true) : swappedStores [tg] e X.env = pure none := by
  unfold noSw at h
  split at h
  · rename_i ts _ _ vs _ _
    unfold swappedStores
    dsimp only
    simp only [Bool.or_eq_true] at h
    split
    · rfl
    rename_i c1
    split
    · rfl
    rename_i c2
    split
    · rfl
    rename_i c3
    split
    · rfl
    rename_i c4
    exfalso
    simp only [Bool.or_eq_true, not_or] at c1
    rcases h with ((z | z) | z) | z
    · exact c1.1.1 z
    · exact c1.1.2 z
    · exact c3 (Bool.or_eq_true .. ▸ Or.inl z)
    · exact c4 z
  · cases h
  · rename_i h1 h2
    unfold swappedStores
    split
    · rename_i e1
      split at e1
      · rename_i q
        exact (h2 _ _ _ _ _ _ (List.cons.inj q).1 rfl).elim
      · rename_i q
        exact (h1 _ _ (List.cons.inj q).1).elim
      · cases e1
    · rfl
theorem isSw_ok {ts vs : List Expr} {k1 k2 : Nat} {p1 p2 : Pos} (hk : X.env.scope.kind = .function) (hl : vs.length = ts.length) (hn : ts.length = 2 ∨ ts.length = 3) (hs : vs.all notSt = true) (h : isSw X.env.scope ts vs = true) : swappedStores [.Tuple ts k1 p1] (.Tuple vs k2 p2) X.env = pure (some (swN X.env.scope ts)) := by
  unfold isSw at h
  simp only [Bool.and_eq_true, Bool.not_eq_true', beq_iff_eq] at h
  obtain ⟨⟨⟨h1, h2⟩, h3⟩, h4⟩ := h
  unfold swappedStores
  dsimp only
  rw [if_neg (by rw [blockKind_of hk, hl]; rcases hn with z | z <;> rw [z] <;> decide)]
  rw [if_neg (by
    rw [Bool.not_eq_true, List.any_eq_false]
    intro x hx
    have := List.all_eq_true.mp hs x hx
    cases x <;> first | (simp; done) | simp [notSt] at this)]
  rw [if_neg (by
    show ¬ ((swN X.env.scope ts).length != ts.length || (swN X.env.scope ts).eraseDups.length != (swN X.env.scope ts).length) = true
    rw [h2, h1]; simp), if_neg (by rw [h3]; decide), if_neg (by rw [h4]; decide)]
  rfl
/-- values one behind the other, then stored from the right -/
def chain (X : Cx) : List (Nat × Expr) → L2.St → Hp → (L2.St → Hp → Prop) → Prop
  | [], σ, H, Q => Q σ H
  | (i, e) :: r, σ, H, Q => SemE X e σ H fun v H1 => chain X r σ H1 fun σ' H' => Q (σ'.set i (some v)) H'
def OkPar (X : Cx) (cm : Nat → Value) (W : WX) (ps : List (Nat × Expr)) (f : List Slot → RS) : Prop := ∀ (av : Addr → Prop) (H0 : Hp) (st : List Slot) (σ : L2.St) (H : Hp) (Q : L2.St → Hp → Prop), SRel X.K cm av H0 st σ H →
  Post (XCs X.K cm av H0 W) (fun fl st' => ∀ σ' H', SRel X.K cm av H0 st' σ' H' → Kp (VW av st σ) H (VW av st' σ') H' → fl = .nx → Q σ' H') (f st) → chain X ps σ H Q
theorem okPar_nil : OkPar X cm W [] (fun st => .ok .nx st) := fun av H0 st σ H Q S h => h σ H S kp0 rfl
theorem okPar_cons {i : Nat} {e : Expr} {r : List (Nat × Expr)} {f : List Slot → RE} {g : List Slot → RS} (h1 : OkE X cm W e f) (h2 : OkPar X cm W r g) :
    OkPar X cm W ((i, e) :: r) (fun st => (f st).th fun a st1 => (g st1).th fun _ st2 => nxS (putS i a.1 a.2 st2)) := by
  intro av H0 st σ H Q S h
  show SemE X e σ H _
  refine h1 av H0 st σ H _ S ((Post.th.mp h).imp (fun c st' x H' S' => x σ H' S') fun x st1 q v H1 o => ?_)
  obtain ⟨fr, d⟩ := x
  cases o with
  | sh S1 k1 r1 =>
    refine h2 av H0 st1 σ H1 _ S1 ((Post.th.mp q).imp (fun _ _ x => x) fun fl st2 q2 σ2 H2 S2 k2 _ => ?_)
    dsimp only at q2
    unfold putS at q2
    split at q2
    · rename_i hi
      obtain ⟨S3, k3⟩ := S2.store hi (r1.kp k2)
      exact q2 _ _ S3 (k1.trans (k2.trans k3)) rfl
    · exact q2.elim
  | @fr _ _ p _ n S1 k1 r1 =>
    have z0 : H0 p = none := S.fresh0 n
    have np : ¬ av p := fun z => S.avd p z n
    refine h2 (avP av p) H0 st1 σ H1 _ S1 ((Post.th.mp q).imp (fun c st' x => ?_) fun fl st2 q2 σ2 H2 S2 k2 _ => ?_)
    · exact fun σ' H' S' => x σ' H' S'.unavoid
    · dsimp only at q2
      unfold putS at q2
      split at q2
      · rename_i hi
        have r2 : RO X.K cm H2 (AV (avP av p) st2 σ2) p d := r1.kp k2 fun o x => k2.keep p o x fun ⟨j, d', e1, e2⟩ => S1.notOwn ⟨j, _, e1, rfl, e2⟩
        have S3 := S2.storeOw hi np z0 r2
        have kk := k1.trans k2
        refine q2 _ _ S3 ⟨vw_le, fun a o e na z => ?_, fun a o e na z => ?_, kk.keep, kk.fix, kk.dom⟩ rfl
        · refine kk.sub a o e na ?_
          show AV (avP av p) st2 σ2 a
          rw [av_p]
          rcases z with z | z
          · exact .inl (.inl z)
          · rcases own_store z with z | ⟨_, z⟩
            · exact .inl (.inr z)
            · cases z; exact .inr rfl
        · rcases owm_store z with z | ⟨_, z⟩
          · exact kk.mosub a o e na z
          · cases z; rw [n] at e; cases e
      · exact q2.elim
theorem evPar_ok {PT : Nat → Option FD} {k : Nat} (G : Good PT k cm cx X) (hk : X.env.scope.kind = .function) (tk : Takes X W) : ∀ (is : List Nat) (es : Es) (xs : List Expr), is.length = xs.length → chkEs cx es xs = true →
    OkPar X cm W (is.zip xs) (evPar (runL PT k) (is.foldr (fun i r => .cons (.nm i) r) .nil) es)
  | [], es, xs, hl, h => by
    cases xs with
    | cons _ _ => simp at hl
    | nil =>
      have hn : es = .nil := by cases es <;> first | rfl | simp [chkEs] at h
      subst hn
      rw [show evPar (runL PT k) (List.foldr (fun i r => Tgs.cons (.nm i) r) .nil []) .nil = fun st => .ok .nx st from by funext st; simp only [List.foldr_nil, evPar]]
      exact okPar_nil
  | i :: is, es, xs, hl, h => by
    cases xs with
    | nil => simp at hl
    | cons x xs =>
      cases es with
      | nil => simp [chkEs] at h
      | cons e es =>
        simp only [chkEs, Bool.and_eq_true] at h
        rw [show evPar (runL PT k) (List.foldr (fun i r => Tgs.cons (.nm i) r) .nil (i :: is)) (.cons e es) = fun st => (evE (runL PT k) e st).th fun a st1 => (evPar (runL PT k) (is.foldr (fun i r => .cons (.nm i) r) .nil) es st1).th fun _ st2 => nxS (putS i a.1 a.2 st2) from by funext st; simp only [List.foldr_cons, evPar]]
        exact okPar_cons (soundE e cx X x G hk h.1.1 W tk).e (evPar_ok G hk tk is es xs (by simpa using hl) h.2)
end
theorem evS_asg_nm {FT : Nat → List D → FR} {i : Nat} {e : E} : evS FT (.asg (.nm i) e) = fun st => (evE FT e st).th fun a st => nxS (putS i a.1 a.2 st) := by funext st; simp only [evS]
theorem evS_asg_tup {FT : Nat → List D → FR} {ts : Tgs} {e : E} : evS FT (.asg (.tup ts) e) = fun st => (evE FT e st).th fun a st => nxS (bind (.tup ts) a.2 st) := by funext st; simp only [evS]
theorem evR_v {FT : Nat → List D → FR} {i : Nat} : evR FT (.v i) = fun st => match st[i]? with | some (.ow d) => .ok (.rt true d) st | _ => (rd i st).th fun a st => .ok (.rt a.1 a.2) st := by funext st; first | (simp only [evR]; done) | (simp only [evR]; rfl)
def isNT : Expr → Bool | .Name _ _ => true | .Tuple _ _ _ => true | _ => false
theorem asgOne {tg e : Expr} {n : Nat} {env : Env} (h : swapsWith e (some tg) n env = pure false) : swapsWithSole [tg] e n env = pure false := h
theorem assignOne {tg : Expr} {env : Env} (h : isNT tg = true) : (assignEach [tg] env).map (·.2) = [assign tg env] := by
  cases tg <;> first | rfl | cases h
theorem chkTg_shape {cx : Ctx} {t : Tg} {tg : Expr} (h : chkTg cx t tg = true) : isNT tg = true := by
  cases t <;> cases tg <;> first | rfl | simp [chkTg] at h
theorem swN2 {sc : Scope} {x y : Str} {p q : Pos} (h : (swN sc [.Name x p, .Name y q]).length = 2) : swN sc [.Name x p, .Name y q] = [x, y] := by
  unfold swN at h ⊢
  simp only [List.filterMap_cons, List.filterMap_nil] at h ⊢
  split at h <;> split at h <;> simp_all
theorem swN3 {sc : Scope} {x y z : Str} {p q r : Pos} (h : (swN sc [.Name x p, .Name y q, .Name z r]).length = 3) : swN sc [.Name x p, .Name y q, .Name z r] = [x, y, z] := by
  unfold swN at h ⊢
  simp only [List.filterMap_cons, List.filterMap_nil] at h ⊢
  split at h <;> split at h <;> split at h <;> simp_all
mutual
theorem soundS : ∀ (m : S) (cx : Ctx) (X : Cx) (s : Stmt), Good PT k cm cx X → X.env.scope.kind = .function → TopX X → PassesOwn (model X.prog X.w) X.A X.env X.xe → chkS cx m s = true → ∀ W, Takes X W → OkS X cm W s (evS (runL PT k) m)
  | .ex e, cx, X, s, G, hk, hT, hp, h, W, tk => by
    simp only [chkS, Bool.or_eq_true, Bool.and_eq_true] at h
    rcases h with (h | ⟨h1, h2⟩) | h
    · split at h
      · rename_i i
        split at h
        · rename_i x e1
          obtain ⟨p, ap, cp, sp, rfl, hl⟩ := pPop_e e1
          simp only [Bool.and_eq_true, decide_eq_true_eq] at h
          obtain ⟨⟨h1, h2⟩, h3⟩ := h
          obtain ⟨d1, d2, _⟩ := dun_of h3
          rw [show evS (runL PT k) (.ex (.pop i)) = fun st => (popS i st popD).th fun _ st => .ok .nx st from by funext st; simp only [evS, evE]]
          exact okS_pop (pe_var (by rw [G.N]; exact h1) (vis_of G h2) d1 d2) (by rw [hl]; exact beq_self_eq_true _)
        · cases h
      · cases h
    · obtain ⟨x, j, p, q, rfl⟩ := isDoc_e h1
      split at h2
      · intro av H0 st σ H D S h
        rw [show evS (runL PT k) (.ex (.c .non)) st = .ok .nx st from by simp only [evS, evE]; rfl] at h
        exact semS ps_doc (h σ H S kp0)
      · cases h2
    · split at h
      · rename_i x e1
        obtain ⟨p, rfl⟩ := pExpr_e e1
        rw [Bool.and_eq_true] at h
        rw [show evS (runL PT k) (.ex e) = fun st => (evE (runL PT k) e st).th fun _ st => .ok .nx st from by funext st; simp only [evS]]
        exact okS_ex (swap_no h.2) (soundE e cx X x G hk h.1 W tk).e
      · cases h
  | .asg t e, cx, X, s, G, hk, hT, hp, h, W, tk => by
    simp only [chkS] at h
    split at h
    case h_2 => cases h
    rename_i tg x e1
    obtain ⟨p, rfl⟩ := pAsg_e e1
    simp only [Bool.and_eq_true, Bool.or_eq_true] at h
    obtain ⟨⟨⟨h1, h2⟩, h3⟩, h4⟩ := h
    have ix := soundE e cx X x G hk h2 W tk
    have gt := soundTg t cx X tg G h1
    have h3' := noSw_ok (X := X) (by rw [G.sc]; exact h3)
    have ha := assignOne (env := X.env) (chkTg_shape h1)
    rcases h4 with h4 | h4
    · have P := ps_asg (pos := p) (peS (X := X) (e := x)) gt.1 (asgOne (h4.elim (fun z => swap_no z) fun z => swap_lcN hk (by rw [G.sc]; exact z))) h3' ha
      cases t with
      | nm i => rw [evS_asg_nm]; exact okS_nm P ix.e.rd
      | tup ts => rw [evS_asg_tup]; exact okS_tg P gt ix.e.rd
    · cases t with
      | tup ts =>
        cases tg <;> simp only [chkTg, reduceCtorEq, Bool.false_eq_true] at h1
        rw [evS_asg_tup]
        exact okS_tg (ps_asg (pos := p) (peS (X := X) (e := x)) gt.1 (asgOne swap_tup) h3' ha) gt ix.e.rd
      | nm i =>
        cases tg <;> simp only [chkTg, reduceCtorEq, Bool.false_eq_true] at h1
        rename_i y py
        rw [Bool.and_eq_true, decide_eq_true_eq] at h1
        have hl : notLc x = false ∧ cx.sc.names.lookup y = some .local := by
          have h4' : lcSwB cx.sc x (.Name y py) = true := h4
          unfold lcSwB at h4'
          split at h4'
          · rename_i e2
            cases e2
            simp only [Bool.and_eq_true, beq_iff_eq] at h4'
            exact ⟨rfl, h4'.1.1⟩
          · cases h4'
        obtain ⟨te, P, LR⟩ := ix.s hl.1 i y py p (by rw [G.N]; exact h1.1) (by rw [G.sc]; exact hl.2) (swap_lc hk (by rw [G.sc]; exact h4))
        rw [evS_asg_nm]
        exact okS_nm P LR
  | .par ts es, cx, X, s, G, hk, hT, hp, h, W, tk => by
    simp only [chkS, Bool.or_eq_true] at h
    rcases h with h | h
    · split at h
      case h_2 => cases h
      rename_i x y a b l e1
      obtain ⟨p, q, k1, k2, t1, t2, sp, rfl, rfl⟩ := pPar2_e e1
      split at h
      case h_2 => cases h
      rename_i i j
      simp only [Bool.and_eq_true, decide_eq_true_eq] at h
      obtain ⟨⟨⟨⟨⟨⟨hij, hi⟩, hj⟩, hx⟩, hy⟩, hes⟩, hsw⟩ := h
      have hes0 := hes
      have st2 : notSt a = true ∧ notSt b = true := by
        cases es with
        | nil => simp [chkEs] at hes
        | cons m1 r1 => cases r1 with
          | nil => simp [chkEs] at hes
          | cons m2 r2 => simp only [chkEs, Bool.and_eq_true] at hes; exact ⟨hes.1.2, hes.2.1.2⟩
      have hw := isSw_ok (X := X) (ts := [.Name x p, .Name y q]) (vs := [a, b]) (k1 := k1) (k2 := k2) (p1 := t1) (p2 := t2) hk rfl (.inl rfl) (by simp [st2.1, st2.2]) (by rw [G.sc]; exact hsw)
      rw [swN2 (by rw [G.sc]; simp only [isSw, Bool.and_eq_true, beq_iff_eq] at hsw; exact hsw.1.1.1)] at hw
      have P := ps_par (pos := sp) G.calm G.nd (by rw [G.N]; exact hi) (by rw [G.N]; exact hj) hij (by rw [G.sc]; exact hx) (by rw [G.sc]; exact hy) (pa_cons (peS (X := X) (e := a)) (pa_cons (peS (X := X) (e := b)) pa_nil (star_of st2.2)) (star_of st2.1)) hw
      have C := evPar_ok G hk tk [i, j] es [a, b] rfl hes0
      intro av H0 st σ H D S h
      have h : PoS X.K cm av H0 (VW av st σ) H W D (evPar (runL PT k) (.cons (.nm i) (.cons (.nm j) .nil)) es st) := by
        rw [show evS (runL PT k) (.par (.cons (.nm i) (.cons (.nm j) .nil)) es) st = evPar (runL PT k) (.cons (.nm i) (.cons (.nm j) .nil)) es st from by simp only [evS]] at h; exact h
      refine semS P ?_
      refine semE_mono (C av H0 st σ H D.nx S (h.imp (fun _ _ x => x) fun fl st' q σ' H' S' k' e => by subst e; exact q σ' H' S' k')) fun v H1 q1 => semE_mono q1 fun w H2 q2 => ⟨v, w, rfl, ?_⟩
      rw [List.set_comm _ _ hij]
      exact q2
    · split at h
      case h_2 => cases h
      rename_i x y z a b c l e1
      obtain ⟨p, q, r, k1, k2, t1, t2, sp, rfl, rfl⟩ := pPar3_e e1
      split at h
      case h_2 => cases h
      rename_i i j n
      simp only [Bool.and_eq_true, decide_eq_true_eq] at h
      obtain ⟨⟨⟨⟨⟨⟨⟨⟨⟨⟨hij, hin⟩, hjn⟩, hi⟩, hj⟩, hn⟩, hx⟩, hy⟩, hz⟩, hes⟩, hsw⟩ := h
      have hes0 := hes
      have st2 : notSt a = true ∧ notSt b = true ∧ notSt c = true := by
        cases es with
        | nil => simp [chkEs] at hes
        | cons m1 r1 => cases r1 with
          | nil => simp [chkEs] at hes
          | cons m2 r2 => cases r2 with
            | nil => simp [chkEs] at hes
            | cons m3 r3 => simp only [chkEs, Bool.and_eq_true] at hes; exact ⟨hes.1.2, hes.2.1.2, hes.2.2.1.2⟩
      have hw := isSw_ok (X := X) (ts := [.Name x p, .Name y q, .Name z r]) (vs := [a, b, c]) (k1 := k1) (k2 := k2) (p1 := t1) (p2 := t2) hk rfl (.inr rfl) (by simp [st2.1, st2.2]) (by rw [G.sc]; exact hsw)
      rw [swN3 (by rw [G.sc]; simp only [isSw, Bool.and_eq_true, beq_iff_eq] at hsw; exact hsw.1.1.1)] at hw
      have P := ps_par3 (pos := sp) G.calm G.nd (by rw [G.N]; exact hi) (by rw [G.N]; exact hj) (by rw [G.N]; exact hn) hij hin hjn (by rw [G.sc]; exact hx) (by rw [G.sc]; exact hy) (by rw [G.sc]; exact hz) (pa_cons (peS (X := X) (e := a)) (pa_cons (peS (X := X) (e := b)) (pa_cons (peS (X := X) (e := c)) pa_nil (star_of st2.2.2)) (star_of st2.2.1)) (star_of st2.1)) hw
      have C := evPar_ok G hk tk [i, j, n] es [a, b, c] rfl hes0
      intro av H0 st σ H D S h
      have h : PoS X.K cm av H0 (VW av st σ) H W D (evPar (runL PT k) (.cons (.nm i) (.cons (.nm j) (.cons (.nm n) .nil))) es st) := by
        rw [show evS (runL PT k) (.par (.cons (.nm i) (.cons (.nm j) (.cons (.nm n) .nil))) es) st = evPar (runL PT k) (.cons (.nm i) (.cons (.nm j) (.cons (.nm n) .nil))) es st from by simp only [evS]] at h; exact h
      refine semS P ?_
      refine semE_mono (C av H0 st σ H D.nx S (h.imp (fun _ _ x => x) fun fl st' q σ' H' S' k' e => by subst e; exact q σ' H' S' k')) fun v H1 q1 => semE_mono q1 fun w H2 q2 => semE_mono q2 fun u H3 q3 => ⟨v, w, u, rfl, ?_⟩
      rw [List.set_comm _ _ hij, List.set_comm (i := i) (j := n) _ _ hin, List.set_comm (i := j) (j := n) _ _ hjn]
      exact q3
  | .app i e, cx, X, s, G, hk, hT, hp, h, W, tk => by
    simp only [chkS] at h
    split at h
    case h_2 => cases h
    rename_i x y e1
    obtain ⟨p, ap, cp, sp, rfl, hl⟩ := pMeth_e e1
    simp only [Bool.and_eq_true, decide_eq_true_eq] at h
    obtain ⟨⟨⟨⟨h1, h2⟩, h3⟩, h4⟩, h5⟩ := h
    obtain ⟨d1, d2, _⟩ := dun_of h3
    rw [show evS (runL PT k) (.app i e) = fun st => if ownedL i st then (evE (runL PT k) e st).th fun a st => modS i st (appD a.2) else .bad from by funext st; simp only [evS]]
    exact okS_app (pe_var (by rw [G.N]; exact h1) (vis_of G h2) d1 d2) (by rw [hl]; exact beq_self_eq_true _) (star_of h5) (by rw [star_of h5]; rfl) (soundE e cx X y G hk h4 W tk).e
  | .ext i e, cx, X, s, G, hk, hT, hp, h, W, tk => by
    simp only [chkS] at h
    split at h
    case h_2 => cases h
    rename_i x y e1
    obtain ⟨p, ap, cp, sp, rfl, hl⟩ := pMeth_e e1
    simp only [Bool.and_eq_true, decide_eq_true_eq] at h
    obtain ⟨⟨⟨⟨h1, h2⟩, h3⟩, h4⟩, h5⟩ := h
    obtain ⟨d1, d2, _⟩ := dun_of h3
    rw [show evS (runL PT k) (.ext i e) = fun st => if ownedL i st then (evE (runL PT k) e st).th fun a st => modS i st (extD a.2) else .bad from by funext st; simp only [evS]]
    exact okS_ext (pe_var (by rw [G.N]; exact h1) (vis_of G h2) d1 d2) (by rw [hl]; exact beq_self_eq_true _) (star_of h5) (by rw [star_of h5]; rfl) (soundE e cx X y G hk h4 W tk).e
  | .iff c a b, cx, X, s, G, hk, hT, hp, h, W, tk => by
    simp only [chkS] at h
    split at h
    case h_2 => cases h
    rename_i z x y e1
    obtain ⟨p, rfl⟩ := pIf_e e1
    simp only [Bool.and_eq_true] at h
    obtain ⟨⟨⟨hc, hi⟩, ha⟩, hb⟩ := h
    rw [show evS (runL PT k) (.iff c a b) = fun st => (evE (runL PT k) c st).th (br (fun st => evSs (runL PT k) a st) (fun st => evSs (runL PT k) b st)) from by funext st; simp only [evS]]
    exact okS_if ((soundE c cx X z G hk hc W tk).t hi) (soundSs a cx X x G hk hT hp ha W tk) (soundSs b cx X y G hk hT hp hb W tk)
  | .whl c b, cx, X, s, G, hk, hT, hp, h, W, tk => by
    simp only [chkS] at h
    split at h
    case h_2 => cases h
    rename_i z x e1
    obtain ⟨p, rfl⟩ := pWhile_e e1
    simp only [Bool.and_eq_true] at h
    obtain ⟨⟨hc, hi⟩, hb⟩ := h
    rw [show evS (runL PT k) (.whl c b) = whileD (evE (runL PT k) c) (evSs (runL PT k) b) from by funext st; simp only [evS]]
    exact okS_while hp ((soundE c cx X z G hk hc W tk).t hi) (soundSs b cx X x G hk hT hp hb W tk)
  | .for_ t kd es b, cx, X, s, G, hk, hT, hp, h, W, tk => by
    simp only [chkS] at h
    split at h
    case h_2 => cases h
    rename_i tg it body e1
    obtain ⟨p, rfl⟩ := pFor_e e1
    simp only [Bool.and_eq_true] at h
    obtain ⟨⟨⟨htg, hset⟩, hb⟩, hit⟩ := h
    have fset : ∀ x, foldedSetIterable it X.env x = pure x := by
      intro x
      cases it <;> first | rfl | cases hset
    have hi : OkJ X cm W tg it kd (evA (runL PT k) es) := by
      cases kd with
      | seq =>
        simp only [Bool.and_eq_true] at hit
        obtain ⟨h1, h2⟩ := hit
        cases es with
        | nil => simp [Es.len] at h1
        | cons m ms =>
          cases ms with
          | cons _ _ => simp [Es.len] at h1
          | nil =>
            simp only [chkEs, Bool.and_eq_true] at h2
            have i1 := okJ1 (tg := tg) pi_seqK (soundE m cx X it G hk h2.1.1 W tk).e
            rw [show evA (runL PT k) (.cons m .nil) = fun st => (evE (runL PT k) m st).th fun d st => (Res.ok [] st : Res (List D)).th fun ds st => .ok (d.2 :: ds) st from by funext st; simp only [evA]]
            exact i1
      | range =>
        dsimp only at hit
        split at hit
        case h_2 => cases hit
        rename_i f xs e2
        obtain ⟨p1, q1, rfl⟩ := pCall_e e2
        simp only [Bool.and_eq_true, decide_eq_true_eq] at hit
        obtain ⟨⟨⟨⟨rfl, hg⟩, l1⟩, l2⟩, hes⟩ := hit
        have hg' := gl_of G hg
        have hm := G.blt "range" (by decide +kernel)
        obtain ⟨i2, _⟩ := soundEs es cx X xs G hk hes W tk
        refine okJ (fun b => b = es.len) es.len rfl (fun st ds st' q => by show ds.length = _; rw [evA_len q]) (fun b hb => ?_) i2
        subst hb
        cases es with
        | nil => simp [Es.len] at l1
        | cons m1 r1 =>
          cases xs with
          | nil => simp [chkEs] at hes
          | cons x1 ys =>
            have hes0 := hes
            simp only [chkEs, Bool.and_eq_true] at hes
            obtain ⟨⟨c1, s1⟩, hes⟩ := hes
            cases r1 with
            | nil =>
              simp only [chkEs, List.isEmpty_iff] at hes
              subst hes
              exact pi_range1K hg' hm (star_of s1)
            | cons m2 r2 =>
              cases ys with
              | nil => simp [chkEs] at hes
              | cons x2 zs =>
                have hes2 := hes
                simp only [chkEs, Bool.and_eq_true] at hes
                obtain ⟨⟨c2, s2⟩, hes⟩ := hes
                cases r2 with
                | nil =>
                  simp only [chkEs, List.isEmpty_iff] at hes
                  subst hes
                  exact pi_range2K hg' hm (by rw [star_of s1, star_of s2]; rfl) (star_of s2)
                | cons m3 r3 =>
                  cases zs with
                  | nil => simp [chkEs] at hes
                  | cons x3 ws =>
                    simp only [chkEs, Bool.and_eq_true] at hes
                    obtain ⟨⟨c3, s3⟩, hes⟩ := hes
                    cases r3 with
                    | nil =>
                      simp only [chkEs, List.isEmpty_iff] at hes
                      subst hes
                      exact pi_range3K hg' hm (star_of s1) (backTo_any hes2)
                    | cons _ _ => simp [Es.len] at l2
      | zip =>
        dsimp only at hit
        split at hit
        case h_2 => cases hit
        rename_i f xs e2
        obtain ⟨p1, q1, rfl⟩ := pCall_e e2
        simp only [Bool.and_eq_true, decide_eq_true_eq] at hit
        obtain ⟨⟨⟨⟨rfl, hg⟩, l1⟩, hes⟩, ht⟩ := hit
        have hm := G.blt "zip" (by decide +kernel)
        obtain ⟨i2, _⟩ := soundEs es cx X xs G hk hes W tk
        refine okJ (fun _ => True) 0 trivial (fun _ _ _ _ => trivial) (fun b _ => ?_) i2
        cases es with
        | nil => simp [Es.len] at l1
        | cons m1 r1 =>
          cases r1 with
          | nil => simp [Es.len] at l1
          | cons m2 r2 =>
            cases r2 with
            | cons _ _ => simp [Es.len] at l1
            | nil =>
              cases xs with
              | nil => simp [chkEs] at hes
              | cons x1 ys =>
                simp only [chkEs, Bool.and_eq_true] at hes
                obtain ⟨⟨c1, s1⟩, hes⟩ := hes
                cases ys with
                | nil => simp [chkEs] at hes
                | cons x2 zs =>
                  simp only [chkEs, Bool.and_eq_true, List.isEmpty_iff] at hes
                  obtain ⟨⟨c2, s2⟩, rfl⟩ := hes
                  cases tg <;> simp only [isTup, Bool.false_eq_true] at ht
                  exact pi_zipK (gl_of G hg) hm (star_of s1) (by rw [star_of s2]; rfl) b
      | enum =>
        dsimp only at hit
        split at hit
        case h_2 => cases hit
        rename_i f xs e2
        obtain ⟨p1, q1, rfl⟩ := pCall_e e2
        simp only [Bool.and_eq_true, decide_eq_true_eq] at hit
        obtain ⟨⟨⟨⟨rfl, hg⟩, l1⟩, hes⟩, ht⟩ := hit
        have hm := G.blt "enumerate" (by decide +kernel)
        obtain ⟨i2, _⟩ := soundEs es cx X xs G hk hes W tk
        refine okJ (fun _ => True) 0 trivial (fun _ _ _ _ => trivial) (fun b _ => ?_) i2
        cases es with
        | nil => simp [Es.len] at l1
        | cons m1 r1 =>
          cases r1 with
          | cons _ _ => simp [Es.len] at l1
          | nil =>
            cases xs with
            | nil => simp [chkEs] at hes
            | cons x1 ys =>
              simp only [chkEs, Bool.and_eq_true, List.isEmpty_iff] at hes
              obtain ⟨⟨c1, s1⟩, rfl⟩ := hes
              cases tg <;> simp only [isTup, Bool.false_eq_true] at ht
              exact pi_enumK (gl_of G hg) hm (star_of s1) b
    rw [show evS (runL PT k) (.for_ t kd es b) = fun st => (evA (runL PT k) es st).th fun ds st => match iterD kd ds with | some items => forGo t (evSs (runL PT k) b) items st | none => .bad from by funext st; first | (simp only [evS]; done) | (simp only [evS]; rfl)]
    exact okS_for hp G.calm fset hi (soundTg t cx X tg G htg) (soundSs b cx X body G hk hT hp hb W tk)
  | .ret e, cx, X, s, G, hk, hT, hp, h, W, tk => by
    simp only [chkS] at h
    split at h
    case h_2 => cases h
    rename_i x e1
    obtain ⟨p, rfl⟩ := pRet_e e1
    have ix := soundE e cx X x G hk h W tk
    by_cases hv : ∃ i, e = .v i
    · obtain ⟨i, rfl⟩ := hv
      have h' := h
      simp only [chkE] at h'
      split at h'
      · rename_i y e2
        obtain ⟨q, rfl⟩ := pName_e e2
        rw [show evS (runL PT k) (.ret (.v i)) = evR (runL PT k) (.v i) from by funext st; simp only [evS], evR_v]
        exact okS_retV (pv_of G h)
      · cases h'
    · rw [show evS (runL PT k) (.ret e) = fun st => (evE (runL PT k) e st).th fun a st => .ok (.rt a.1 a.2) st from by
        funext st
        simp only [evS]
        cases e <;> first | exact absurd ⟨_, rfl⟩ hv | simp only [evR]]
      exact okS_ret ix.e
  | .retN, cx, X, s, G, hk, hT, hp, h, W, tk => by
    simp only [chkS] at h
    obtain ⟨p, rfl⟩ := isRetN_e h
    rw [show evS (runL PT k) .retN = fun st => .ok (.rt false .non) st from by funext st; simp only [evS]]
    exact okS_retN
  | .raise c, cx, X, s, G, hk, hT, hp, h, W, tk => by
    simp only [chkS] at h
    split at h
    case h_2 => cases h
    rename_i x e1
    obtain ⟨p, m, j, p2, q, p3, rfl⟩ := pRaise_e e1
    simp only [Bool.and_eq_true, decide_eq_true_eq] at h
    obtain ⟨⟨h1, h2⟩, h3⟩ := h
    obtain ⟨C, bmB, B, n1, n2, hc, F, q, g, kp, r⟩ := G.exn c x h1
    intro av H0 st σ H D S h
    rw [show evS (runL PT k) (.raise c) st = .exc c st from by simp only [evS]] at h
    refine semS (ps_raise G.calm tk (pmk_own F q g kp r (gl_of G h2) (dun_of h3).1)) ?_
    have := h σ H S
    rw [hc] at this
    exact this
  | .rvs _, cx, X, s, G, hk, hT, hp, h, W, tk => by simp [chkS] at h
  | .setIx i k' e, cx, X, s, G, hk, hT, hp, h, W, tk => by
    simp only [chkS] at h
    split at h
    case h_2 => cases h
    rename_i x ke ve e1
    obtain ⟨p1, p2, p, rfl⟩ := pSetIx_e e1
    simp only [Bool.and_eq_true, decide_eq_true_eq] at h
    obtain ⟨⟨⟨⟨⟨⟨h1, h2⟩, h3⟩, h4⟩, h5⟩, h6⟩, h7⟩ := h
    obtain ⟨d1, d2, _⟩ := dun_of h3
    rw [show evS (runL PT k) (.setIx i k' e) = fun st => (evE (runL PT k) e st).th fun a st => if ownedL i st then (evE (runL PT k) k' st).th fun kd st => if ownedL i st then modS i st (setD kd.2 a.2) else .bad else .bad from by funext st; simp only [evS]]
    exact okS_setL (pe_var (by rw [G.N]; exact h1) (vis_of G h2) d1 d2) (soundE k' cx X ke G hk h4 W tk).e (soundE e cx X ve G hk h6 W tk).e (asgOne (swap_no h7)) (noSw_ok (X := X) rfl) (fun v => by cases ke <;> first | rfl | cases h5)
  | .tryKeep b c n i j, cx, X, s, G, hk, hT, hp, h, W, tk => by
    simp only [chkS] at h
    split at h
    case h_2 => cases h
    rename_i body x nm m e1
    obtain ⟨p1, p2, p3, p4, p5, p6, rfl⟩ := pTryK_e e1
    simp only [Bool.and_eq_true, decide_eq_true_eq] at h
    obtain ⟨⟨⟨⟨⟨⟨⟨⟨⟨⟨⟨h1, h2⟩, h3⟩, h4⟩, h5⟩, h6⟩, h7⟩, h8⟩, h9⟩, h10⟩, h11⟩, h12⟩ := h
    obtain ⟨d1, d2, _⟩ := dun_of h6
    obtain ⟨C, bmB, B, n1, n2, hc, F, q, g, kp, r⟩ := G.exn c x h8
    rw [show evS (runL PT k) (.tryKeep b c n i j) = fun st => if noOwn st then match evSs (runL PT k) b st with
      | .exc k' st' => if excIs c k' && decide (k' < n) && decide (i < st'.length) && decide (j < st'.length) then .ok .nx ((st'.set i .no).set j (.sh (.exc k'))) else .bad
      | r => r else .bad from by funext st; first | (simp only [evS]; done) | (simp only [evS]; rfl)]
    refine okS_tryKeep hT.st hT.fr hT.ex G.nd (by rw [G.N]; exact h2) (by rw [G.N]; exact h3) h1 (by show X.env.scope.names.lookup nm = _; rw [G.sc]; exact h4) (by show X.env.scope.names.lookup m = _; rw [G.sc]; exact h5) ⟨d1, d2⟩ ⟨gl_of G h9, (dun_of h10).1, .inl (by rw [hc]; exact g)⟩ tk (fun k' hk' he => ?_)
      (fun W' pn xe tk' hp' => soundSs b cx (X.tr pn xe) body (G.tr pn xe) hk (hT.tr pn xe) hp' h12 W' tk')
    unfold exAll at h11
    have hs := List.all_eq_true.mp h11 k' (List.mem_range.mpr hk')
    obtain ⟨y, hy⟩ := Option.isSome_iff_exists.mp hs
    obtain ⟨C', _, _, z⟩ := (G.exi h7 k' y hy).kit (G.exi h7 c x h8) h8
    rw [he] at z
    exact z
  | .tryC _ _ _, cx, X, s, G, hk, hT, hp, h, W, tk => by simp [chkS] at h
theorem soundSs : ∀ (m : Ss) (cx : Ctx) (X : Cx) (s : List Stmt), Good PT k cm cx X → X.env.scope.kind = .function → TopX X → PassesOwn (model X.prog X.w) X.A X.env X.xe → chkSs cx m s = true → ∀ W, Takes X W → OkSs X cm W s (evSs (runL PT k) m)
  | .nil, cx, X, s, G, hk, hT, hp, h, W, tk => by
    simp only [chkSs, List.isEmpty_iff] at h
    subst h
    rw [show evSs (runL PT k) .nil = fun st => .ok .nx st from by funext st; simp only [evSs]]
    exact okSs_nil
  | .cons a r, cx, X, s, G, hk, hT, hp, h, W, tk => by
    cases s with
    | nil => simp [chkSs] at h
    | cons x xs =>
      simp only [chkSs, Bool.and_eq_true] at h
      rw [show evSs (runL PT k) (.cons a r) = fun st => (evS (runL PT k) a st).th fun fl st => match fl with | .nx => evSs (runL PT k) r st | fl => .ok fl st from by funext st; first | (simp only [evSs]; done) | (simp only [evSs]; rfl)]
      exact okSs_cons (soundS a cx X x G hk hT hp h.1 W tk) (soundSs r cx X xs G hk hT hp h.2 W tk)
end
end
end PD
set_option maxHeartbeats 4000000
namespace PD
open PySem PySem.Spec PyProof.Rows L2
/-! F7: the program's defs, the law. -/
structure DRow where
  x : Str
  st : Stmt
  N : List Str
  ps : List Str
  d : FD
def scB (N ps : List Str) (sc : Scope) : Bool :=
  decide (sc.kind = .function) && !sc.isCoroutine && !sc.isGenerator && decide N.Nodup && decide (N.take ps.length = ps) &&
  ps.all (fun x => match sc.names.lookup x with | some .local => true | some .cell => true | _ => false) && sc.names.all (fun y => match y.2 with | .free => false | _ => true)
theorem scB_ok {N ps : List Str} {sc : Scope} (h : scB N ps sc = true) : FnScope N ps sc := by
  unfold scB at h
  simp only [Bool.and_eq_true, decide_eq_true_eq, Bool.not_eq_true', List.all_eq_true] at h
  obtain ⟨⟨⟨⟨⟨⟨h1, h2⟩, h3⟩, h4⟩, h5⟩, h6⟩, h7⟩ := h
  refine ⟨h1, h2, h3, h4, h5, fun x hx => ?_, fun y hy e => ?_⟩
  · have := h6 x hx
    split at this
    · exact .inl (by assumption)
    · exact .inr (by assumption)
    · cases this
  · have := h7 y hy
    rw [e] at this
    cases this
def fnN (rows : List DRow) (f : Nat) : Option Str := (rows[f]?).map (·.x)
def PTof (rows : List DRow) (f : Nat) : Option FD := (rows[f]?).map (·.d)
def cxR (rows : List DRow) (ex : Nat → Option Str) (gl : Str → Option Int) (ei : Bool) (r : DRow) : Ctx := ⟨r.N, defScope r.st, none, fnN rows, ex, gl, ei⟩
def rowB (rows : List DRow) (ex : Nat → Option Str) (gl : Str → Option Int) (ei : Bool) (r : DRow) : Bool :=
  scB r.N r.ps (defScope r.st) && (r.d.np == r.ps.length) && (r.d.ns == r.N.length) && chkSs (cxR rows ex gl ei r) r.d.body (defBody r.st)
/-- a def stands where the top put it -/
structure RowAt (K : PySem.W.Frag) (mg : Str → Option Value) (r : DRow) : Prop where
  ex : ∃ (a : Addr) (fd : FuncData), mg r.x = some (.ref a) ∧ Fun K r.x r.x r.st a fd ∧ ∀ us : List Value, us.length = r.ps.length → bindArgs fd ⟨us, []⟩ = pure (r.ps.zip us)
theorem rowAt_mk {K : PySem.W.Frag} {h : Heap} {mg : Str → Option Value} {r : DRow} {a : Addr} {oc : Value} {od an : Option Addr} {sl : Array (Option Value)} {kV dc pm cd ct : Value} (X : K.In h) (G : h.Ns mainGlobals mg)
    (h1 : PySem.W.nsIn K mainGlobals r.x = some (some (.ref a)))
    (l : K.lookup a = some ⟨oc, od, .func (PySem.W.fnOf r.x r.x (defArgs r.st) (defBody r.st) (defScope r.st) .none kV dc pm an cd ct), sl⟩) (c : PySem.W.codeIn K cd r.x = true) (k : PySem.W.keepIn K (.ref a) = true)
    (hb : ∀ (kV doc pm : Value) (an : Option Addr) (cdv ct : Value) (us : List Value), us.length = r.ps.length → bindArgs (PySem.W.fnOf r.x r.x (defArgs r.st) (defBody r.st) (defScope r.st) .none kV doc pm an cdv ct) ⟨us, []⟩ = pure (r.ps.zip us)) : RowAt K mg r :=
  ⟨a, _, PySem.W.mg_of X G h1, fun_mk l c k, hb kV dc pm an cd ct⟩
/-- an exception class's value -/
def cmOf (K : PySem.W.Frag) (ex : Nat → Option Str) (c : Nat) : Value := match ex c with
  | some x => (match PySem.W.nsIn K mainGlobals x with | some (some v) => v | _ => .none)
  | none => .none
structure ExAt (K : PySem.W.Frag) (mg : Str → Option Value) (cm : Nat → Value) (c : Nat) (x : Str) : Prop where
  ex : ∃ (C : Addr) (bmB : List Value) (B newId initId : String), cm c = .ref C ∧ ExcBaseFacts B newId initId bmB ∧ PySem.W.excIn K C bmB newId = true ∧ mg x = some (.ref C) ∧ PySem.W.keepIn K (.ref C) = true ∧
    PySem.W.subIn K (.ref C) (.type "BaseException") = some true ∧ PySem.W.typeIn K (.ref C) = some (.type "type")
section
variable {P : Program} {w : World} {K : PySem.W.Frag} {mg : Str → Option Value} {base : Heap} {rows : List DRow} {ex : Nat → Option Str} {gl : Str → Option Int} {ei : Bool} {cm : Nat → Value}
theorem runL_succ {PT : Nat → Option FD} {k f : Nat} {ds : List D} {d : FD} (h : PT f = some d) : runL PT (k + 1) f ds = run (runL PT k) d ds := by
  show (match PT f with | some d => run (runL PT k) d ds | none => .bad) = _
  rw [h]
theorem start_get {N : List Str} {vs : List V} {i : Nat} {v : V} (h : vs[i]? = some v) : (L2.start N vs)[i]? = some (some v) := by
  obtain ⟨hi, e⟩ := List.getElem?_eq_some_iff.mp h
  unfold L2.start
  rw [List.getElem?_append_left (by simpa using hi), List.getElem?_map, h]
  rfl
theorem srel_start {N : List Str} {ns : Nat} {av : Addr → Prop} {H : Hp} {vs : List V} {ds : List D} (rs : Rs K cm H av vs ds) (hav : ∀ a, av a → H a ≠ none) (hn : ds.length ≤ ns) (hN : ns = N.length) :
    SRel K cm av H (ds.map .sh ++ List.replicate (ns - ds.length) .no) (L2.start N vs) H := by
  have noOw : ∀ (i : Nat) (s : Slot), (ds.map Slot.sh ++ List.replicate (ns - ds.length) Slot.no)[i]? = some s → isOw s = false := fun i s e => by
    have hm := List.mem_of_getElem? e
    rcases List.mem_append.mp hm with z | z
    · obtain ⟨d, _, rfl⟩ := List.mem_map.mp z; rfl
    · rw [List.eq_of_mem_replicate z]; rfl
  refine ⟨?_, fun i d e => ?_, fun i s d e z => ?_, fun i j s t a e1 e2 o1 => ?_, hav, Same.refl _⟩
  · unfold L2.start
    simp only [List.length_append, List.length_map, List.length_replicate]
    have := rs.length
    omega
  · have hi : i < ds.length := by
      by_cases hi : i < ds.length
      · exact hi
      · rw [List.getElem?_append_right (by simpa using hi)] at e
        rw [List.getElem?_replicate] at e
        split at e <;> cases e
    rw [List.getElem?_append_left (by simpa using hi), List.getElem?_map] at e
    cases e1 : ds[i]? with
    | none => rw [e1] at e; cases e
    | some d' =>
      rw [e1] at e
      cases e
      obtain ⟨v, hv, r⟩ := rs.get e1
      refine ⟨v, start_get hv, R.kp (.fz (Same.refl _) fun a _ _ n y => ?_) r⟩
      rcases y with y | ⟨j, s, q1, q2, _⟩
      · exact n y
      · rw [noOw j s q1] at q2; cases q2
  · have := noOw i s e
    rcases z with rfl | rfl <;> cases this
  · rw [noOw i s e1] at o1; cases o1
theorem sat_ok (hrows : ∀ (f : Nat) (r : DRow), rows[f]? = some r → RowAt K mg r) (hst : ∀ (f : Nat) (r : DRow), rows[f]? = some r → rowB rows ex gl ei r = true) (hblt : ∀ x ∈ blts, mg x = none) (hglo : ∀ (x : Str) (i : Int), gl x = some i → ∃ t, mg x = some (.int i t)) (hexn : ∀ (c : Nat) (x : Str), ex c = some x → ExAt K mg cm c x) (hexi : ei = true → ∀ (k : Nat) (x : Str), ex k = some x → ExI K cm ex k) :
    ∀ (k f : Nat) (r : DRow), rows[f]? = some r → ∀ (a : Addr) (fd : FuncData), Fun K r.x r.x r.st a fd → FnOk P w K mg base (L2.CX P w) k a fd r.ps (spF K cm (runL (PTof rows) k f) r.ps.length)
  | 0, f, r, hr, a, fd, F => by
    have no : ∀ vs H Q E, ¬ spF K cm (runL (PTof rows) 0 f) r.ps.length vs H Q E := fun vs H Q E ⟨av, ds, _, _, _, z⟩ => z
    exact ⟨fun vs H Q E z => (no _ _ _ _ z).elim, fun A outer s H args us vs Q E _ _ _ _ z => (no _ _ _ _ z).elim⟩
  | k + 1, f, r, hr, a, fd, F => by
    have hs := hst f r hr
    unfold rowB at hs
    simp only [Bool.and_eq_true, beq_iff_eq] at hs
    obtain ⟨⟨⟨h1, h2⟩, h3⟩, h4⟩ := hs
    have S := scB_ok h1
    refine Fun.okX F S (fun vs H Q E ⟨av, ds, rs, _, hl, _⟩ => by rw [rs.length, hl]) fun cdv A outer s H vs Q E hroom hsp => ?_
    refine ⟨_, pssS, ?_⟩
    obtain ⟨av, ds, rs, hav, hl, hq⟩ := hsp
    have G : Good (PTof rows) k cm (cxR rows ex gl ei r) (cxOf (L2.CX P w) P w K mg base r.N r.x (defScope r.st) a cdv A outer s H E) := {
      N := rfl
      sc := rfl
      nd := S.nd
      calm := rfl
      room := hroom
      fnc := fun _ _ _ => rfl
      fn := fun g y hy => by
        have hy : (rows[g]?).map (·.x) = some y := hy
        cases eg : rows[g]? with
        | none => rw [eg] at hy; cases hy
        | some rg =>
          rw [eg] at hy
          cases hy
          obtain ⟨a', fd', m1, F', b'⟩ := (hrows g rg eg).ex
          have hg := hst g rg eg
          unfold rowB at hg
          simp only [Bool.and_eq_true, beq_iff_eq] at hg
          refine ⟨rg.ps.length, ⟨a', fd', rg.ps, m1, sat_ok hrows hst hblt hglo hexn hexi k g rg eg a' fd' F', F'.kp, .all b'⟩, fun ds hb => ?_⟩
          cases k with
          | zero => exact absurd rfl hb
          | succ k =>
            rw [runL_succ (show PTof rows g = some rg.d by unfold PTof; rw [eg]; rfl)] at hb
            unfold run at hb
            split at hb
            · rename_i z; rw [z, hg.1.1.2]
            · exact absurd rfl hb
      blt := hblt
      glo := hglo
      exi := hexi
      exn := fun c x e => by
        obtain ⟨C, bmB, B, n1, n2, q1, q2, q3, q4, q5, q6, q7⟩ := (hexn c x e).ex
        exact ⟨C, bmB, B, n1, n2, q1, q2, q3, q4, q5, raises_own q6 q7⟩ }
    have tk := takes_of (X := cxOf (L2.CX P w) P w K mg base r.N r.x (defScope r.st) a cdv A outer s H E) rfl rfl rfl rfl
    have O := soundSs r.d.body (cxR rows ex gl ei r) _ (defBody r.st) G S.kind ⟨rfl, rfl, rfl⟩ (passes_of rfl) h4 _ tk
    have hSR := srel_start (cm := cm) (N := r.N) (ns := r.d.ns) rs hav (by rw [hl, h3, ← S.pre, List.length_take]; exact Nat.min_le_right _ _) h3
    refine O av H _ (L2.start r.N vs) H _ hSR ?_
    rw [runL_succ (show PTof rows f = some r.d by unfold PTof; rw [hr]; rfl)] at hq
    unfold run at hq
    rw [if_pos (by rw [hl, h2])] at hq
    rw [show r.d.ns - ds.length = r.d.ns - r.d.np by rw [hl, h2]]
    revert hq
    cases evSs (runL (PTof rows) k) r.d.body (ds.map .sh ++ List.replicate (r.d.ns - r.d.np) .no) with
    | bad => exact fun z => z.elim
    | exc c st' => exact fun hq σ' H' S' => hq H' S'.base
    | ok fl st' =>
      cases fl with
      | nx => exact fun hq σ' H' S' _ => hq _ H' (.sh S'.base .non)
      | rt fr d => exact fun hq => hq
      | bk => exact fun z => z.elim
      | ct => exact fun z => z.elim
/-- the law's promise -/
theorem law_sp {k f : Nat} {H : Hp} {a : Addr} {ns : List Int} (ho : Only H) (hS : SqL K H a (ns.map V.int)) (h : runL (PTof rows) k f [.scr ns] = .ok false (.bl true)) :
    spF K cm (runL (PTof rows) k f) 1 [.ref a] H (fun v _ => v = .bl true) fun _ _ _ => False := by
  refine ⟨fun _ => False, [.scr ns], .cons (.scr (ScrAt.of hS ho)) .nil, fun _ z => z.elim, rfl, ?_⟩
  rw [h]
  intro v H' n
  cases n with
  | sh s r => cases r; rfl
theorem law_cx {H : Hp} {s : Shared} {e : Value} {s' : Shared} (h : L2.CX P w [] H s (fun _ _ _ => False) e s') : False := by
  obtain ⟨_, _, _, _, _, _, _, _, _, _, _, _, z⟩ := h
  exact z
/-- the law's walk -/
theorem walkPD {l : PySem.W.OpenLaw} {n k f : Nat} {q : Program} {loose : List Str} {XP : (Str → Option Value) → Heap → Prop} {YP : World → Heap → Prop} {d : DefRec} {K : Params → PySem.W.Frag} {rows : List DRow} {ex : Nat → Option Str} {gl : Str → Option Int} {ei : Bool} {r : DRow} {x : Str}
    (hn : l.most = some n) (hn2 : n ≤ sizeLine) (hdf : d.params.defaults = []) (hk : Room k callerA) (hr : rows[f]? = some r) (hx : r.x = d.name) (hps : r.ps = [x])
    (hY : ∀ (w : World) (h : Heap), YP w h → (K w.params).In h)
    (hst : ∀ (f : Nat) (r : DRow), rows[f]? = some r → rowB rows ex gl ei r = true)
    (F : ∀ (w : World) (mg : Str → Option Value) (h : Heap), (K w.params).In h → h.Ns mainGlobals mg → (∀ (f : Nat) (r : DRow), rows[f]? = some r → RowAt (K w.params) mg r) ∧ (∀ x ∈ blts, mg x = none) ∧ (∀ (x : Str) (i : Int), gl x = some i → ∃ t, mg x = some (.int i t)) ∧ (∀ (c : Nat) (x : Str), ex c = some x → ExAt (K w.params) mg (cmOf (K w.params) ex) c x) ∧ (ei = true → ∀ (k : Nat) (x : Str), ex k = some x → ExI (K w.params) (cmOf (K w.params) ex) ex k))
    (hlaw : ∀ ns : List Int, ns.length ≤ n → runL (PTof rows) k f [.scr ns] = .ok false (.bl true)) :
    PySem.W.WalkO q loose XP YP l.row.toRowW d [] (fun f vs => PySem.call f vs) := by
  refine L2.walk_of (n := n) (k := k) (x := x) (CX := fun w => L2.CX l.prog w) (sp := fun w => spF (K w.params) (cmOf (K w.params) ex) (runL (PTof rows) k f) 1) hn hn2 hdf hk hY ?_ (fun w H a ns hl ho hS => law_sp ho hS (hlaw ns hl)) fun w H s e s' z => law_cx z
  intro w mg fa h KX G hmg
  obtain ⟨h1, h2, h4, h3, h5⟩ := F w mg h KX G
  obtain ⟨a, fd, m1, Fn, b⟩ := (h1 f r hr).ex
  rw [hx, hmg] at m1
  cases m1
  refine ⟨fd, fun s u => ?_, fun base KB GB => ?_⟩
  · have := b [u] (by rw [hps]; rfl)
    rw [hps] at this
    exact .of_eq this
  · have := sat_ok (P := l.prog) (w := w) (base := base) h1 hst h2 h4 h3 h5 k f r hr fa fd Fn
    rw [hps] at this
    exact this
end
end PD
set_option maxHeartbeats 4000000
namespace PD
/-! F8: the evaluator, for simp. -/
section
variable {FT : Nat → List D → FR} {st : List Slot}
@[simp] theorem evE_c {q : Cst} : evE FT (.c q) st = .ok (false, cst q) st := by simp only [evE]
@[simp] theorem evE_g {q : Cst} {x : PySem.Str} : evE FT (.g q x) st = .ok (false, cst q) st := by simp only [evE]
@[simp] theorem evE_v {i : Nat} : evE FT (.v i) st = rd i st := by simp only [evE]
@[simp] theorem evE_tup {es : Es} : evE FT (.tup es) st = (evA FT es st).th fun ds st => .ok (false, .tup ds) st := by simp only [evE]
@[simp] theorem evE_lst {es : Es} : evE FT (.lst es) st = (evA FT es st).th fun ds st => .ok (true, .lst ds) st := by simp only [evE]
@[simp] theorem evE_neg {a : E} : evE FT (.neg a) st = (evE FT a st).th fun d st => match d.2 with | .int i => .ok (false, .int (-i)) st | _ => .bad := by first | (simp only [evE]; done) | (simp only [evE]; rfl)
@[simp] theorem evE_not {a : E} : evE FT (.not a) st = (evE FT a st).th (br (fun st => ret (.bl false) st) (fun st => ret (.bl true) st)) := by simp only [evE]
@[simp] theorem evE_and {a b : E} : evE FT (.and a b) st = (evE FT a st).th (br (fun st => (evE FT b st).th (br (fun st => ret (.bl true) st) (fun st => ret (.bl false) st))) (fun st => ret (.bl false) st)) := by simp only [evE]
@[simp] theorem evE_or {a b : E} : evE FT (.or a b) st = (evE FT a st).th (br (fun st => ret (.bl true) st) (fun st => (evE FT b st).th (br (fun st => ret (.bl true) st) (fun st => ret (.bl false) st)))) := by simp only [evE]
@[simp] theorem evE_ite {c a b : E} : evE FT (.ite c a b) st = (evE FT c st).th (br (fun st => evE FT a st) (fun st => evE FT b st)) := by simp only [evE]
@[simp] theorem evE_call {f : Nat} {es : Es} : evE FT (.call f es) st = (evA FT es st).th fun ds st => outF (FT f ds) st := by simp only [evE]
/-- two operands, looked at -/
def two {β : Type} (x y : Res Opd) (g : D → D → List Slot → Res β) : Res β := x
  |>.th fun _ _ => .bad
def op2 {β : Type} (f : List Slot → Res Opd) (f' : List Slot → Res Opd) (g : D → D → List Slot → Res β) (st : List Slot) : Res β :=
  (f st).th fun x st => (f' st).th fun y st => match rs1 st x, rs1 st y with
    | some d, some d' => g d d' st
    | _, _ => .bad
def op1 {β : Type} (f : List Slot → Res Opd) (g : D → List Slot → Res β) (st : List Slot) : Res β :=
  (f st).th fun x st => match rs1 st x with
    | some d => g d st
    | _ => .bad
@[simp] theorem evE_bin {o : Bop} {a b : E} : evE FT (.bin o a b) st = op2 (opnd a (evE FT a)) (opnd b (evE FT b)) (fun d d' => outE (binD o d d')) st := by
  first | (simp only [evE]; done) | (simp only [evE]; rfl)
@[simp] theorem evE_cmp {o : Cop} {a b : E} : evE FT (.cmp o a b) st = op2 (opnd a (evE FT a)) (opnd b (evE FT b)) (fun d d' => outB (cmpD o d d')) st := by
  first | (simp only [evE]; done) | (simp only [evE]; rfl)
@[simp] theorem evE_ix {a b : E} : evE FT (.ix a b) st = op2 (opnd a (evE FT a)) (opnd b (evE FT b)) (fun d d' => outD (ixD d d')) st := by
  first | (simp only [evE]; done) | (simp only [evE]; rfl)
def slFD (d l : D) : Option (Bool × D) := match l with | .int l => slD d (some l) none | _ => none
def slTD (d l : D) : Option (Bool × D) := match l with | .int l => slD d none (some l) | _ => none
@[simp] theorem evE_slF {a b : E} : evE FT (.slF a b) st = op2 (opnd a (evE FT a)) (opnd b (evE FT b)) (fun d d' => outE (slFD d d')) st := by
  simp only [evE, op2]
  congr 1; funext x st1; congr 1; funext y st2
  cases rs1 st2 x <;> cases rs1 st2 y <;> try rfl
  rename_i d d'
  cases d' <;> rfl
@[simp] theorem evE_slT {a b : E} : evE FT (.slT a b) st = op2 (opnd a (evE FT a)) (opnd b (evE FT b)) (fun d d' => outE (slTD d d')) st := by
  simp only [evE, op2]
  congr 1; funext x st1; congr 1; funext y st2
  cases rs1 st2 x <;> cases rs1 st2 y <;> try rfl
  rename_i d d'
  cases d' <;> rfl
@[simp] theorem evE_sl {a lo hi : E} : evE FT (.sl a lo hi) st = (opnd a (evE FT a) st).th fun x st => (evE FT lo st).th fun l st => match l.2 with
      | .int i => (evE FT hi st).th fun h st => match rs1 st x, h.2 with | some d, .int j => outE (slD d (some i) (some j)) st | _, _ => .bad
      | _ => .bad := by first | (simp only [evE]; done) | (simp only [evE]; rfl)
@[simp] theorem evE_pop {i : Nat} : evE FT (.pop i) st = popS i st popD := by simp only [evE]
@[simp] theorem popS_def {i : Nat} {f : D → Option (D × D)} : popS i st f = match st[i]? with
  | some (.ow d) => (match f d with | some (r, d') => .ok (false, r) (st.set i (.ow d')) | none => .bad)
  | _ => .bad := rfl
@[simp] theorem evE_bi {n : Bi} {es : Es} : evE FT (.bi n es) st = (evO FT es st).th fun os st => match rsAll st os with | some ds => outE (biD n ds) st | none => .bad := by
  first | (simp only [evE]; done) | (simp only [evE]; rfl)
@[simp] theorem evA_nil : evA FT .nil st = .ok [] st := by simp only [evA]
@[simp] theorem evA_cons {e : E} {es : Es} : evA FT (.cons e es) st = (evE FT e st).th fun d st => (evA FT es st).th fun ds st => .ok (d.2 :: ds) st := by simp only [evA]
@[simp] theorem evO_nil : evO FT .nil st = .ok [] st := by simp only [evO]
@[simp] theorem evO_cons {e : E} {es : Es} : evO FT (.cons e es) st = (opnd e (evE FT e) st).th fun d st => (evO FT es st).th fun ds st => .ok (d :: ds) st := by simp only [evO]
@[simp] theorem evC_nil : evC FT .nil st = .ok (false, .bl true) st := by simp only [evC]
@[simp] theorem evC_one {e : E} : evC FT (.cons e .nil) st = evE FT e st := by simp only [evC]
/-! operands -/
section
variable {f : List Slot → RE}
@[simp] theorem opnd_v {i : Nat} : opnd (.v i) f st = rdO i st := rfl
@[simp] theorem opnd_c {q : Cst} : opnd (.c q) f st = (f st).th fun a st => .ok (.val a.2) st := rfl
@[simp] theorem opnd_g {q : Cst} {x : PySem.Str} : opnd (.g q x) f st = (f st).th fun a st => .ok (.val a.2) st := rfl
@[simp] theorem opnd_tup {es : Es} : opnd (.tup es) f st = (f st).th fun a st => .ok (.val a.2) st := rfl
@[simp] theorem opnd_lst {es : Es} : opnd (.lst es) f st = (f st).th fun a st => .ok (.val a.2) st := rfl
@[simp] theorem opnd_dic {t : Bool} {ks vs : Es} : opnd (.dic t ks vs) f st = (f st).th fun a st => .ok (.val a.2) st := rfl
@[simp] theorem opnd_bin {o : Bop} {a b : E} : opnd (.bin o a b) f st = (f st).th fun a st => .ok (.val a.2) st := rfl
@[simp] theorem opnd_neg {a : E} : opnd (.neg a) f st = (f st).th fun a st => .ok (.val a.2) st := rfl
@[simp] theorem opnd_not {a : E} : opnd (.not a) f st = (f st).th fun a st => .ok (.val a.2) st := rfl
@[simp] theorem opnd_and {a b : E} : opnd (.and a b) f st = (f st).th fun a st => .ok (.val a.2) st := rfl
@[simp] theorem opnd_or {a b : E} : opnd (.or a b) f st = (f st).th fun a st => .ok (.val a.2) st := rfl
@[simp] theorem opnd_cmp {o : Cop} {a b : E} : opnd (.cmp o a b) f st = (f st).th fun a st => .ok (.val a.2) st := rfl
@[simp] theorem opnd_chain {o o' : Cop} {a b c : E} : opnd (.chain o o' a b c) f st = (f st).th fun a st => .ok (.val a.2) st := rfl
@[simp] theorem opnd_ite {a b c : E} : opnd (.ite a b c) f st = (f st).th fun a st => .ok (.val a.2) st := rfl
@[simp] theorem opnd_call {g : Nat} {es : Es} : opnd (.call g es) f st = (f st).th fun a st => .ok (.val a.2) st := rfl
@[simp] theorem opnd_callIx {g : List Nat} {e : E} {es : Es} : opnd (.callIx g e es) f st = (f st).th fun a st => .ok (.val a.2) st := rfl
@[simp] theorem opnd_bi {n : Bi} {es : Es} : opnd (.bi n es) f st = (f st).th fun a st => .ok (.val a.2) st := rfl
@[simp] theorem opnd_ix {a b : E} : opnd (.ix a b) f st = (f st).th fun a st => .ok (.val a.2) st := rfl
@[simp] theorem opnd_slF {a b : E} : opnd (.slF a b) f st = (f st).th fun a st => .ok (.val a.2) st := rfl
@[simp] theorem opnd_slT {a b : E} : opnd (.slT a b) f st = (f st).th fun a st => .ok (.val a.2) st := rfl
@[simp] theorem opnd_sl {a b c : E} : opnd (.sl a b c) f st = (f st).th fun a st => .ok (.val a.2) st := rfl
@[simp] theorem opnd_rev {a : E} : opnd (.rev a) f st = (f st).th fun a st => .ok (.val a.2) st := rfl
@[simp] theorem opnd_even {a : E} : opnd (.even a) f st = (f st).th fun a st => .ok (.val a.2) st := rfl
@[simp] theorem opnd_lc {e : E} {t : Tg} {k : Itk} {es c : Es} {o : List Nat} : opnd (.lc e t k es c o) f st = (f st).th fun a st => .ok (.val a.2) st := rfl
@[simp] theorem opnd_mt {m : Mt} {a : E} {es : Es} : opnd (.mt m a es) f st = (f st).th fun a st => .ok (.val a.2) st := rfl
@[simp] theorem opnd_pop {i : Nat} : opnd (.pop i) f st = (f st).th fun a st => .ok (.val a.2) st := rfl
@[simp] theorem opnd_popAt {i : Nat} {a : E} : opnd (.popAt i a) f st = (f st).th fun a st => .ok (.val a.2) st := rfl
end
@[simp] theorem op2_ok {β : Type} {f f' : List Slot → Res Opd} {g : D → D → List Slot → Res β} : op2 f f' g st = (f st).th fun x st => (f' st).th fun y st => match rs1 st x, rs1 st y with
    | some d, some d' => g d d' st
    | _, _ => .bad := rfl
@[simp] theorem rs1_val {d : D} : rs1 st (.val d) = some d := rfl
@[simp] theorem rs1_bor {i : Nat} : rs1 st (.bor i) = match st[i]? with | some (.ow d) => some d | some (.lk d) => some d | _ => none := rfl
@[simp] theorem rsAll_nil : rsAll st [] = some [] := rfl
@[simp] theorem rsAll_cons {o : Opd} {r : List Opd} : rsAll st (o :: r) = match rs1 st o, rsAll st r with | some d, some ds => some (d :: ds) | _, _ => none := rfl
@[simp] theorem rd_def {i : Nat} : rd i st = match st[i]? with
  | some (.sh d) => .ok (false, d) st
  | some (.ow d) => .ok (false, d) (st.set i (.sh d))
  | some (.lk d) => .ok (false, d) (st.set i (.sh d))
  | _ => .bad := rfl
@[simp] theorem rdO_def {i : Nat} : rdO i st = match st[i]? with
  | some (.sh d) => .ok (.val d) st
  | some (.ow _) => .ok (.bor i) st
  | some (.lk _) => .ok (.bor i) st
  | _ => .bad := rfl
@[simp] theorem th_ok' {α β : Type} (a : α) (st : List Slot) (f : α → List Slot → Res β) : (Res.ok a st).th f = f a st := rfl
@[simp] theorem th_exc' {α β : Type} (c : Nat) (st : List Slot) (f : α → List Slot → Res β) : (Res.exc c st : Res α).th f = .exc c st := rfl
@[simp] theorem th_bad' {α β : Type} (f : α → List Slot → Res β) : (Res.bad : Res α).th f = .bad := rfl
@[simp] theorem outE_some {a : Bool × D} : outE (some a) st = .ok a st := rfl
@[simp] theorem outE_none : outE none st = .bad := rfl
@[simp] theorem outB_some {b : Bool} : outB (some b) st = .ok (false, .bl b) st := rfl
@[simp] theorem outB_none : outB none st = .bad := rfl
@[simp] theorem outD_some {d : D} : outD (some d) st = .ok (false, d) st := rfl
@[simp] theorem outD_none : outD none st = .bad := rfl
@[simp] theorem outF_ok {fr : Bool} {d : D} : outF (.ok fr d) st = .ok (fr, d) st := rfl
@[simp] theorem outF_exc {c : Nat} : outF (.exc c) st = .exc c st := rfl
@[simp] theorem outF_bad : outF .bad st = .bad := rfl
@[simp] theorem br_bl {β : Type} {f g : List Slot → Res β} {fr : Bool} {b : Bool} : br f g (fr, .bl b) st = if b then f st else g st := rfl
@[simp] theorem ret_def {d : D} : ret d st = .ok (false, d) st := rfl
@[simp] theorem nxS_some {s : List Slot} : nxS (some s) = .ok .nx s := rfl
@[simp] theorem nxS_none : nxS none = .bad := rfl
@[simp] theorem putS_def {i : Nat} {fr : Bool} {d : D} : putS i fr d st = if i < st.length then some (st.set i (if fr then .ow d else .sh d)) else none := rfl
@[simp] theorem bind_nm {i : Nat} {d : D} : bind (.nm i) d st = if i < st.length then some (st.set i (.sh d)) else none := by simp only [bind]
@[simp] theorem bind_tup {ts : Tgs} {d : D} : bind (.tup ts) d st = match seqD d with | some xs => binds ts xs st | none => none := by first | (simp only [bind]; done) | (simp only [bind]; rfl)
@[simp] theorem binds_nil : binds .nil [] st = some st := by simp only [binds]
@[simp] theorem binds_cons {t : Tg} {ts : Tgs} {d : D} {ds : List D} : binds (.cons t ts) (d :: ds) st = match bind t d st with | some st' => binds ts ds st' | none => none := by first | (simp only [binds]; done) | (simp only [binds]; rfl)
@[simp] theorem seqD_lst {xs : List D} : seqD (.lst xs) = some xs := rfl
@[simp] theorem seqD_tup {xs : List D} : seqD (.tup xs) = some xs := rfl
@[simp] theorem ownedL_def {i : Nat} : ownedL i st = match st[i]? with | some (.ow (.lst _)) => true | _ => false := rfl
@[simp] theorem modS_def {i : Nat} {f : D → Option D} : modS i st f = match st[i]? with
  | some (.ow d) => (match f d with | some d' => .ok .nx (st.set i (.ow d')) | none => .bad)
  | _ => .bad := rfl
@[simp] theorem appD_lst {x : D} {xs : List D} : appD x (.lst xs) = if xs.length < SZ then some (.lst (xs ++ [x])) else none := rfl
@[simp] theorem extD_lst {xs ys : List D} : extD (.lst ys) (.lst xs) = if xs.length + ys.length < SZ then some (.lst (xs ++ ys)) else none := rfl
/-! operations -/
@[simp] theorem cst_non : cst .non = .non := rfl
@[simp] theorem cst_bl {b : Bool} : cst (.bl b) = .bl b := rfl
@[simp] theorem cst_int {i : Int} : cst (.int i) = .int i := rfl
@[simp] theorem cst_str {x : PySem.Str} : cst (.str x) = .str x := rfl
@[simp] theorem binD_add {i j : Int} : binD .add (.int i) (.int j) = some (false, .int (i + j)) := rfl
@[simp] theorem binD_sub {i j : Int} : binD .sub (.int i) (.int j) = some (false, .int (i - j)) := rfl
@[simp] theorem binD_mul {i j : Int} : binD .mul (.int i) (.int j) = if mulOk i j then some (false, .int (i * j)) else none := rfl
@[simp] theorem binD_fdiv {i j : Int} : binD .fdiv (.int i) (.int j) = if divOk j then some (false, .int (i / j)) else none := rfl
@[simp] theorem binD_mod {i j : Int} : binD .mod (.int i) (.int j) = if 0 < j then some (false, .int (i % j)) else none := rfl
@[simp] theorem binD_addT {x y : List D} : binD .add (.tup x) (.tup y) = if x.length + y.length ≤ SZ then some (false, .tup (x ++ y)) else none := rfl
@[simp] theorem binD_addL {x y : List D} : binD .add (.lst x) (.lst y) = if x.length + y.length ≤ SZ then some (true, .lst (x ++ y)) else none := rfl
@[simp] theorem cmpD_eq {x y : D} : cmpD .eq x y = eqD x y := rfl
@[simp] theorem cmpD_ne {x y : D} : cmpD .ne x y = (eqD x y).map (!·) := rfl
@[simp] theorem cmpD_lt {i j : Int} : cmpD .lt (.int i) (.int j) = some (decide (i < j)) := rfl
@[simp] theorem cmpD_le {i j : Int} : cmpD .le (.int i) (.int j) = some (decide (i ≤ j)) := rfl
@[simp] theorem cmpD_gt {i j : Int} : cmpD .gt (.int i) (.int j) = some (decide (j < i)) := rfl
@[simp] theorem cmpD_ge {i j : Int} : cmpD .ge (.int i) (.int j) = some (decide (j ≤ i)) := rfl
theorem okN_int {n : Nat} {i : Int} : okN n (.int i) = true := by cases n <;> rfl
theorem okN_bl {n : Nat} {b : Bool} : okN n (.bl b) = true := by cases n <;> rfl
theorem okN_non {n : Nat} : okN n .non = true := by cases n <;> rfl
@[simp] theorem eqD_scr {ns : List Int} : eqD (.scr ns) (.lst []) = some ns.isEmpty := rfl
@[simp] theorem eqD_int {i j : Int} : eqD (.int i) (.int j) = some (decide (i = j)) := by
  show (if okN 60 (.int i) && okN 60 (.int j) then some (dEq (.int i) (.int j)) else none) = _
  rw [okN_int, okN_int]; simp [dEq]
  by_cases h : i = j <;> simp [h]
@[simp] theorem eqD_bl {i j : Bool} : eqD (.bl i) (.bl j) = some (i == j) := by
  show (if okN 60 (.bl i) && okN 60 (.bl j) then some (dEq (.bl i) (.bl j)) else none) = _
  rw [okN_bl, okN_bl]; simp [dEq]
@[simp] theorem ixD_tup {xs : List D} {i : Int} : ixD (.tup xs) (.int i) = atD xs i := rfl
@[simp] theorem ixD_lst {xs : List D} {i : Int} : ixD (.lst xs) (.int i) = atD xs i := rfl
@[simp] theorem ixD_scr {xs : List Int} {i : Int} : ixD (.scr xs) (.int i) = (ixAt xs.length i).bind fun j => (xs[j]?).map .int := rfl
theorem ixAt_nat {n i : Nat} : ixAt n (i : Int) = if i < n then some i else none := by
  unfold ixAt
  rw [if_pos (Int.natCast_nonneg i)]
  by_cases h : i < n
  · rw [if_pos h, if_pos (by omega)]; simp
  · rw [if_neg h, if_neg (by omega)]
theorem atD_nat {xs : List D} {i : Nat} : atD xs (i : Int) = xs[i]? := by
  unfold atD
  rw [ixAt_nat]
  split
  · rfl
  · rw [List.getElem?_eq_none (by omega)]; rfl
@[simp] theorem atD0 {a : D} {r : List D} : atD (a :: r) 0 = some a := (atD_nat (i := 0)).trans rfl
@[simp] theorem atD1 {a b : D} {r : List D} : atD (a :: b :: r) 1 = some b := (atD_nat (i := 1)).trans rfl
@[simp] theorem atD2 {a b c : D} {r : List D} : atD (a :: b :: c :: r) 2 = some c := (atD_nat (i := 2)).trans rfl
@[simp] theorem biD_len : biD .len = lenB := rfl
@[simp] theorem biD_abs : biD .abs = absB := rfl
@[simp] theorem biD_max : biD .max = maxB := rfl
@[simp] theorem biD_min : biD .min = minB := rfl
@[simp] theorem biD_tuple : biD .tuple = tupleB := rfl
@[simp] theorem biD_list : biD .list = listB := rfl
@[simp] theorem lenB_scr {xs : List Int} : lenB [.scr xs] = some (false, .int xs.length) := rfl
@[simp] theorem lenB_lst {xs : List D} : lenB [.lst xs] = some (false, .int xs.length) := rfl
@[simp] theorem lenB_tup {xs : List D} : lenB [.tup xs] = some (false, .int xs.length) := rfl
@[simp] theorem absB_int {i : Int} : absB [.int i] = some (false, .int i.natAbs) := by
  show some (false, D.int (if i < 0 then -i else i)) = _
  congr 3; split <;> omega
@[simp] theorem evE_callIx {fs : List Nat} {i : E} {es : Es} : evE FT (.callIx fs i es) st = (evE FT i st).th fun k st => match k.2 with
      | .int k => match (ixAt fs.length k).bind fun j => fs[j]? with
        | some f => (evA FT es st).th fun ds st => outF (FT f ds) st
        | none => .bad
      | _ => .bad := by first | (simp only [evE]; done) | (simp only [evE]; rfl)
@[simp] theorem evE_popAt {i : Nat} {a : E} : evE FT (.popAt i a) st = if ownedL i st then (evE FT a st).th fun k st => popS i st (popAtL k.2) else .bad := by simp only [evE]
theorem evE_mt {m : Mt} {a : E} {es : Es} : evE FT (.mt m a es) st = (opnd a (evE FT a) st).th fun x st => if mtOk m (rs1 st x) then (evA FT es st).th fun ds st => match rs1 st x with
      | some d => outE (mtD m d ds) st
      | _ => .bad else .bad := by first | (simp only [evE]; done) | (simp only [evE]; rfl)
@[simp] theorem evS_tryKeep {b : Ss} {c n i j : Nat} : evS FT (.tryKeep b c n i j) st = if noOwn st then match evSs FT b st with
    | .exc k st' => if excIs c k && decide (k < n) && decide (i < st'.length) && decide (j < st'.length) then .ok .nx ((st'.set i .no).set j (.sh (.exc k))) else .bad
    | r => r else .bad := by first | (simp only [evS]; done) | (simp only [evS]; rfl)
/-! statements -/
@[simp] theorem evSs_nil : evSs FT .nil st = .ok .nx st := by simp only [evSs]
@[simp] theorem evSs_cons {s : S} {r : Ss} : evSs FT (.cons s r) st = (evS FT s st).th fun f st => match f with
    | .nx => evSs FT r st
    | f => .ok f st := by first | (simp only [evSs]; done) | (simp only [evSs]; rfl)
@[simp] theorem evS_ex {e : E} : evS FT (.ex e) st = (evE FT e st).th fun _ st => .ok .nx st := by simp only [evS]
@[simp] theorem evS_nm {i : Nat} {e : E} : evS FT (.asg (.nm i) e) st = (evE FT e st).th fun a st => nxS (putS i a.1 a.2 st) := by simp only [evS]
@[simp] theorem evS_tup {ts : Tgs} {e : E} : evS FT (.asg (.tup ts) e) st = (evE FT e st).th fun a st => nxS (bind (.tup ts) a.2 st) := by simp only [evS]
@[simp] theorem evS_par {ts : Tgs} {es : Es} : evS FT (.par ts es) st = evPar FT ts es st := by simp only [evS]
@[simp] theorem evPar_nil : evPar FT .nil .nil st = .ok .nx st := by simp only [evPar]
@[simp] theorem evPar_cons {i : Nat} {ts : Tgs} {e : E} {es : Es} : evPar FT (.cons (.nm i) ts) (.cons e es) st = (evE FT e st).th fun a st1 => (evPar FT ts es st1).th fun _ st2 => nxS (putS i a.1 a.2 st2) := by simp only [evPar]
@[simp] theorem evS_app {i : Nat} {e : E} : evS FT (.app i e) st = if ownedL i st then (evE FT e st).th fun a st => modS i st (appD a.2) else .bad := by simp only [evS]
@[simp] theorem evS_ext {i : Nat} {e : E} : evS FT (.ext i e) st = if ownedL i st then (evE FT e st).th fun a st => modS i st (extD a.2) else .bad := by simp only [evS]
@[simp] theorem evS_setIx {i : Nat} {k e : E} : evS FT (.setIx i k e) st = (evE FT e st).th fun a st => if ownedL i st then (evE FT k st).th fun kd st => if ownedL i st then modS i st (setD kd.2 a.2) else .bad else .bad := by simp only [evS]
@[simp] theorem evS_iff {c : E} {a b : Ss} : evS FT (.iff c a b) st = (evE FT c st).th (br (fun st => evSs FT a st) (fun st => evSs FT b st)) := by simp only [evS]
@[simp] theorem evS_whl {c : E} {b : Ss} : evS FT (.whl c b) st = whileD (evE FT c) (evSs FT b) st := by simp only [evS]
@[simp] theorem evS_for {t : Tg} {k : Itk} {es : Es} {b : Ss} : evS FT (.for_ t k es b) st = (evA FT es st).th fun ds st => match iterD k ds with | some items => forGo t (evSs FT b) items st | none => .bad := by
  first | (simp only [evS]; done) | (simp only [evS]; rfl)
@[simp] theorem evS_ret {e : E} : evS FT (.ret e) st = evR FT e st := by simp only [evS]
@[simp] theorem evS_retN : evS FT .retN st = .ok (.rt false .non) st := by simp only [evS]
@[simp] theorem evS_raise {c : Nat} : evS FT (.raise c) st = .exc c st := by simp only [evS]
@[simp] theorem evR_v' {i : Nat} : evR FT (.v i) st = match st[i]? with
    | some (.ow d) => .ok (.rt true d) st
    | _ => (rd i st).th fun a st => .ok (.rt a.1 a.2) st := by first | (simp only [evR]; done) | (simp only [evR]; rfl)
theorem evR_e {e : E} (h : ∀ i, e ≠ .v i) : evR FT e st = (evE FT e st).th fun a st => .ok (.rt a.1 a.2) st := by
  cases e <;> first | exact absurd rfl (h _) | simp only [evR]
@[simp] theorem evR_c {q : Cst} : evR FT (.c q) st = .ok (.rt false (cst q)) st := by rw [evR_e (by simp)]; simp
@[simp] theorem evR_tup {es : Es} : evR FT (.tup es) st = (evE FT (.tup es) st).th fun a st => .ok (.rt a.1 a.2) st := evR_e (by simp)
@[simp] theorem evR_lst {es : Es} : evR FT (.lst es) st = (evE FT (.lst es) st).th fun a st => .ok (.rt a.1 a.2) st := evR_e (by simp)
@[simp] theorem evR_bin {o : Bop} {a b : E} : evR FT (.bin o a b) st = (evE FT (.bin o a b) st).th fun a st => .ok (.rt a.1 a.2) st := evR_e (by simp)
@[simp] theorem evR_cmp {o : Cop} {a b : E} : evR FT (.cmp o a b) st = (evE FT (.cmp o a b) st).th fun a st => .ok (.rt a.1 a.2) st := evR_e (by simp)
@[simp] theorem evR_and {a b : E} : evR FT (.and a b) st = (evE FT (.and a b) st).th fun a st => .ok (.rt a.1 a.2) st := evR_e (by simp)
@[simp] theorem evR_or {a b : E} : evR FT (.or a b) st = (evE FT (.or a b) st).th fun a st => .ok (.rt a.1 a.2) st := evR_e (by simp)
@[simp] theorem evR_not {a : E} : evR FT (.not a) st = (evE FT (.not a) st).th fun a st => .ok (.rt a.1 a.2) st := evR_e (by simp)
@[simp] theorem evR_call {f : Nat} {es : Es} : evR FT (.call f es) st = (evE FT (.call f es) st).th fun a st => .ok (.rt a.1 a.2) st := evR_e (by simp)
@[simp] theorem evR_bi {n : Bi} {es : Es} : evR FT (.bi n es) st = (evE FT (.bi n es) st).th fun a st => .ok (.rt a.1 a.2) st := evR_e (by simp)
@[simp] theorem evR_ix {a b : E} : evR FT (.ix a b) st = (evE FT (.ix a b) st).th fun a st => .ok (.rt a.1 a.2) st := evR_e (by simp)
@[simp] theorem evR_ite {a b c : E} : evR FT (.ite a b c) st = (evE FT (.ite a b c) st).th fun a st => .ok (.rt a.1 a.2) st := evR_e (by simp)
@[simp] theorem evR_lc {e : E} {t : Tg} {k : Itk} {es c : Es} {o : List Nat} : evR FT (.lc e t k es c o) st = (evE FT (.lc e t k es c o) st).th fun a st => .ok (.rt a.1 a.2) st := evR_e (by simp)
end
/-- a def's run, by the end of its body -/
def endOf : RS → FR
  | .ok .nx _ => .ok false .non
  | .ok (.rt fr x) _ => .ok fr x
  | .exc c _ => .exc c
  | _ => .bad
@[simp] theorem endOf_rt {fr : Bool} {x : D} {st : List Slot} : endOf (.ok (.rt fr x) st) = .ok fr x := rfl
@[simp] theorem endOf_nx {st : List Slot} : endOf (.ok .nx st) = .ok false .non := rfl
@[simp] theorem endOf_exc {c : Nat} {st : List Slot} : endOf (.exc c st) = .exc c := rfl
theorem run_eq {FT : Nat → List D → FR} {d : FD} {ds : List D} (h : ds.length = d.np) : run FT d ds = endOf (evSs FT d.body (ds.map .sh ++ List.replicate (d.ns - d.np) .no)) := by
  unfold run
  rw [if_pos h]
  unfold endOf
  rfl
/-- a call, one level down -/
theorem runL_row {rows : List DRow} {k f : Nat} {ds : List D} {r : DRow} (h : rows[f]? = some r) (hl : ds.length = r.d.np) :
    runL (PTof rows) (k + 1) f ds = endOf (evSs (runL (PTof rows) k) r.d.body (ds.map .sh ++ List.replicate (r.d.ns - r.d.np) .no)) := by
  rw [runL_succ (show PTof rows f = some r.d by unfold PTof; rw [h]; rfl), run_eq hl]
/-! ### while -/
theorem whileF_succ {c : List Slot → RE} {b : List Slot → RS} : ∀ {n : Nat} {st : List Slot} {r : RS}, whileF c b n st = r → r ≠ .bad → ∀ m, whileF c b (n + m) st = r
  | 0, st, r, h, hr, m => absurd h.symm hr
  | n + 1, st, r, h, hr, m => by
    rw [show n + 1 + m = (n + m) + 1 by omega]
    simp only [whileF] at h ⊢
    revert h
    cases c st with
    | bad => exact fun h => h
    | exc k st1 => exact fun h => h
    | ok a st1 =>
      simp only [th_ok', br]
      split
      · rename_i b1 _
        cases b1 with
        | false => exact fun h => h
        | true =>
          simp only [if_true]
          cases b st1 with
          | bad => exact fun h => h
          | exc k st2 => exact fun h => h
          | ok f st2 =>
            simp only [th_ok']
            cases f with
            | nx => exact fun h => whileF_succ h hr m
            | ct => exact fun h => whileF_succ h hr m
            | bk => exact fun h => h
            | rt _ _ => exact fun h => h
      · exact fun h => h
theorem whileD_eq {c : List Slot → RE} {b : List Slot → RS} {n : Nat} {st : List Slot} {r : RS} (h : whileF c b n st = r) (hr : r ≠ .bad) : whileD c b st = r := by
  have hx : ∃ n, whileF c b n st ≠ .bad := ⟨n, by rw [h]; exact hr⟩
  unfold whileD
  rw [dif_pos hx]
  have h2 := Classical.choose_spec hx
  generalize Classical.choose hx = m at h2 ⊢
  have a := whileF_succ (m := m) h hr
  have b' := whileF_succ (m := n) rfl h2
  rw [Nat.add_comm] at b'
  rw [← b', a]
end PD
set_option maxHeartbeats 4000000
set_option maxRecDepth 10000
namespace PD
/-! F9: the draws, and fractions, plainly. -/
theorem lt_big {n : Nat} (h : n < 2 ^ 64) : n < BIG := Nat.lt_of_lt_of_le h (by unfold BIG; exact Nat.pow_le_pow_right (n := 2) (by decide) (show 64 ≤ 4000 by decide))
theorem mulOk_l {i j : Int} (h : i.natAbs < 2 ^ 64) : mulOk i j := .inl (.inl h)
theorem mulOk_r {i j : Int} (h : j.natAbs < 2 ^ 64) : mulOk i j := .inl (.inr h)
theorem divOk_of {j : Int} (h : 0 < j) (h2 : j.natAbs < 2 ^ 64) : divOk j := ⟨h, lt_big h2⟩
/-- an item of the script, drawn -/
def cellV (ns : List Int) (i : Nat) : Int := if i < ns.length then ns.getD i 0 else if ns = [] then 0 else ns.getD (i % ns.length) 0 * 31 + i
def bCell : Ss :=
  .cons (.iff (.cmp .lt (.v 1) (.bi .len (.cons (.v 0) .nil))) (.cons (.ret (.ix (.v 0) (.v 1))) .nil) .nil)
    (.cons (.iff (.cmp .eq (.v 0) (.lst .nil)) (.cons (.ret (.c (.int 0))) .nil) .nil)
    (.cons (.ret (.bin .add (.bin .mul (.ix (.v 0) (.bin .mod (.v 1) (.bi .len (.cons (.v 0) .nil)))) (.c (.int 31))) (.v 1))) .nil))
def bPick (c : Nat) : Ss :=
  .cons (.asg (.nm 3) (.bin .mod (.bin .mul (.bin .add (.call c (.cons (.v 0) (.cons (.v 1) .nil))) (.bin .mul (.c (.int 6151)) (.bin .add (.v 1) (.c (.int 1))))) (.c (.int 40692))) (.c (.int 2147483399))))
    (.cons (.ret (.bin .mod (.bin .mod (.bin .add (.bin .mul (.v 3) (.v 3)) (.bin .fdiv (.v 3) (.c (.int 31)))) (.c (.int 2147483629))) (.v 2))) .nil)
def drawV (ns : List Int) (i : Nat) : Int := (cellV ns i + 6151 * (i + 1)) * 40692 % 2147483399
def pickV (ns : List Int) (i : Nat) (m : Int) : Int := (drawV ns i * drawV ns i + drawV ns i / 31) % 2147483629 % m
theorem pickV_nn {ns : List Int} {i : Nat} {m : Int} (h : 0 < m) : 0 ≤ pickV ns i m := Int.emod_nonneg _ (by omega)
theorem pickV_lt {ns : List Int} {i : Nat} {m : Int} (h : 0 < m) : pickV ns i m < m := Int.emod_lt_of_pos _ h
section
variable {rows : List DRow}
theorem run_cell {f k : Nat} {r : DRow} (hr : rows[f]? = some r) (hd : r.d = ⟨2, 2, bCell⟩) (ns : List Int) (i : Nat) :
    runL (PTof rows) (k + 1) f [.scr ns, .int i] = .ok false (.int (cellV ns i)) := by
  rw [runL_row hr (by rw [hd]; rfl), hd]
  simp only [bCell, List.map_cons, List.map_nil, Nat.sub_self, List.replicate_zero, List.append_nil]
  by_cases h1 : i < ns.length
  · have h1' : (i : Int) < (ns.length : Int) := by omega
    have e : cellV ns i = ns[i] := by unfold cellV; rw [if_pos h1]; simp [h1]
    simp [h1, ixAt_nat, e]
  · have h1' : ¬ (i : Int) < (ns.length : Int) := by omega
    by_cases h2 : ns = []
    · subst h2
      have h6 : ¬ (i : Int) < 0 := by omega
      simp [cellV, h6]
    · have h3 : 0 < ns.length := by cases ns with | nil => exact absurd rfl h2 | cons _ _ => simp
      have h4 : i % ns.length < ns.length := Nat.mod_lt _ h3
      have h5 : (0 : Int) < (ns.length : Int) := by omega
      have e : ixAt ns.length ((i : Int) % (ns.length : Int)) = some (i % ns.length) := by
        rw [show (i : Int) % (ns.length : Int) = ((i % ns.length : Nat) : Int) by omega, ixAt_nat, if_pos h4]
      have m : mulOk (ns[i % ns.length]) 31 := mulOk_r (by decide)
      have e2 : cellV ns i = ns[i % ns.length] * 31 + i := by unfold cellV; rw [if_neg h1, if_neg h2]; simp [h4]
      simp [h1, h2, h3, e, h4, m, e2]
theorem run_pick {f c k : Nat} {r rc : DRow} (hr : rows[f]? = some r) (hd : r.d = ⟨3, 4, bPick c⟩) (hc : rows[c]? = some rc) (hdc : rc.d = ⟨2, 2, bCell⟩) (ns : List Int) (i : Nat) {m : Int} (hm : 0 < m) :
    runL (PTof rows) (k + 2) f [.scr ns, .int i, .int m] = .ok false (.int (pickV ns i m)) := by
  rw [runL_row hr (by rw [hd]; rfl), hd]
  have hdr : (drawV ns i).natAbs < 2 ^ 64 := by
    have h1 : 0 ≤ drawV ns i := Int.emod_nonneg _ (by decide)
    have h2 : drawV ns i < 2147483399 := Int.emod_lt_of_pos _ (by decide)
    omega
  have m1 : mulOk 6151 ((i : Int) + 1) := mulOk_l (by decide)
  have m2 : mulOk (cellV ns i + 6151 * ((i : Int) + 1)) 40692 := mulOk_r (by decide)
  have m3 : mulOk (drawV ns i) (drawV ns i) := mulOk_l hdr
  have d1 : divOk 31 := divOk_of (by decide) (by decide)
  have e1 : (cellV ns i + 6151 * ((i : Int) + 1)) * 40692 % 2147483399 = drawV ns i := rfl
  simp [bPick, run_cell hc hdc, m1, m2, e1, m3, d1, hm, pickV, List.replicate]
/-! ### fractions -/
def bShare : Ss :=
  .cons (.par (.cons (.nm 2) (.cons (.nm 3) .nil)) (.cons (.bi .abs (.cons (.v 0) .nil)) (.cons (.v 1) .nil)))
    (.cons (.whl (.cmp .ne (.v 3) (.c (.int 0))) (.cons (.par (.cons (.nm 2) (.cons (.nm 3) .nil)) (.cons (.v 3) (.cons (.bin .mod (.v 2) (.v 3)) .nil))) .nil))
    (.cons (.ret (.tup (.cons (.bin .fdiv (.v 0) (.v 2)) (.cons (.bin .fdiv (.v 1) (.v 2)) .nil)))) .nil))
/-- two whole numbers in lowest terms -/
def nU (u v : Int) : Int := u / (Int.gcd u v : Int)
def nV (u v : Int) : Int := v / (Int.gcd u v : Int)
/-- a fraction told -/
def frD (u v : Int) : D := .tup [.int (nU u v), .int (nV u v)]
theorem share_loop {FT : Nat → List D → FR} (u v : D) : ∀ (b a : Nat), ∃ n, whileF (evE FT (.cmp .ne (.v 3) (.c (.int 0)))) (evSs FT (.cons (.par (.cons (.nm 2) (.cons (.nm 3) .nil)) (.cons (.v 3) (.cons (.bin .mod (.v 2) (.v 3)) .nil))) .nil)) n [.sh u, .sh v, .sh (.int a), .sh (.int b)]
      = .ok .nx [.sh u, .sh v, .sh (.int (Nat.gcd a b)), .sh (.int 0)] := by
  intro b
  induction b using Nat.strongRecOn with
  | _ b ih =>
    intro a
    by_cases hb : b = 0
    · subst hb
      exact ⟨1, by simp [whileF]⟩
    · obtain ⟨n, hn⟩ := ih (a % b) (Nat.mod_lt _ (by omega)) b
      refine ⟨n + 1, ?_⟩
      have h0 : ¬ (b : Int) = 0 := by omega
      have h1 : (0 : Int) < (b : Int) := by omega
      have e2 : Nat.gcd b (a % b) = Nat.gcd a b := by rw [Nat.gcd_comm, ← Nat.gcd_rec, Nat.gcd_comm]
      rw [e2] at hn
      have hb' : 0 < b := by omega
      simp [whileF, hb, hb']
      simpa using hn
theorem run_share {f k : Nat} {r : DRow} (hr : rows[f]? = some r) (hd : r.d = ⟨2, 4, bShare⟩) (u v : Int) (hv : 0 < v) (hb : v.natAbs < BIG) :
    runL (PTof rows) (k + 1) f [.int u, .int v] = .ok false (frD u v) := by
  rw [runL_row hr (by rw [hd]; rfl), hd]
  obtain ⟨n, hn⟩ := share_loop (FT := runL (PTof rows) k) (.int u) (.int v) v.natAbs u.natAbs
  have ev : ((v.natAbs : Nat) : Int) = v := by omega
  rw [ev] at hn
  have w := whileD_eq hn (by exact fun z => nomatch z)
  have g0 : 0 < Nat.gcd u.natAbs v.natAbs := Nat.gcd_pos_of_pos_right _ (by omega)
  have g1 : Nat.gcd u.natAbs v.natAbs ≤ v.natAbs := Nat.le_of_dvd (by omega) (Nat.gcd_dvd_right _ _)
  have dv : divOk ((Nat.gcd u.natAbs v.natAbs : Nat) : Int) := ⟨by omega, by simp; omega⟩
  simp only [bShare]
  simp [List.replicate]
  have w' : whileD (evE (runL (PTof rows) k) (.cmp .ne (.v 3) (.c (.int 0)))) (evSs (runL (PTof rows) k) (.cons (.par (.cons (.nm 2) (.cons (.nm 3) .nil)) (.cons (.v 3) (.cons (.bin .mod (.v 2) (.v 3)) .nil))) .nil)) [.sh (.int u), .sh (.int v), .sh (.int (u.natAbs : Int)), .sh (.int v)] = _ := w
  rw [w']
  simp [dv, frD, nU, nV, Int.gcd]
end
end PD
set_option maxHeartbeats 4000000
set_option maxRecDepth 10000
namespace PD
/-! F9b: fractions in lowest terms. -/
section
variable {u v u' v' : Int}
theorem g_pos (hv : 0 < v) : (0 : Int) < (Int.gcd u v : Int) := by
  have := Int.gcd_pos_of_ne_zero_right u (show v ≠ 0 by omega)
  omega
theorem nU_mul : nU u v * (Int.gcd u v : Int) = u := Int.ediv_mul_cancel (Int.gcd_dvd_left u v)
theorem nV_mul : nV u v * (Int.gcd u v : Int) = v := Int.ediv_mul_cancel (Int.gcd_dvd_right u v)
theorem nV_pos (hv : 0 < v) : 0 < nV u v := by
  have h := nV_mul (u := u) (v := v)
  have g := g_pos (u := u) hv
  by_cases z : 0 < nV u v
  · exact z
  · exfalso
    have : nV u v * (Int.gcd u v : Int) ≤ 0 := Int.mul_nonpos_of_nonpos_of_nonneg (by omega) (by omega)
    omega
theorem n_cross : nU u v * v = u * nV u v := by
  have a := nU_mul (u := u) (v := v)
  have b := nV_mul (u := u) (v := v)
  have : nU u v * (nV u v * (Int.gcd u v : Int)) = (nU u v * (Int.gcd u v : Int)) * nV u v := by grind
  rw [a, b] at this
  exact this
theorem n_cop (hv : 0 < v) : Int.gcd (nU u v) (nV u v) = 1 := Int.gcd_ediv_gcd_ediv_gcd (by have := g_pos (u := u) hv; omega)
theorem dvd_of_cop {a b c : Int} (h : Int.gcd a b = 1) (d : b ∣ a * c) : b ∣ c := by
  have d' : b.natAbs ∣ a.natAbs * c.natAbs := by rw [← Int.natAbs_mul]; exact Int.natAbs_dvd_natAbs.mpr d
  exact Int.natAbs_dvd_natAbs.mp (Nat.Coprime.dvd_of_dvd_mul_left (show Nat.gcd b.natAbs a.natAbs = 1 by rw [Nat.gcd_comm]; exact h) d')
theorem fr_cong (hv : 0 < v) (hv' : 0 < v') (h : u * v' = u' * v) : nU u v = nU u' v' ∧ nV u v = nV u' v' := by
  have c1 := n_cop (u := u) hv
  have c2 := n_cop (u := u') hv'
  have p1 := nV_pos (u := u) hv
  have p2 := nV_pos (u := u') hv'
  have g1 := g_pos (u := u) hv
  have g2 := g_pos (u := u') hv'
  have e1 := nU_mul (u := u) (v := v)
  have e2 := nV_mul (u := u) (v := v)
  have e3 := nU_mul (u := u') (v := v')
  have e4 := nV_mul (u := u') (v := v')
  generalize nU u v = a at *
  generalize nV u v = b at *
  generalize nU u' v' = a' at *
  generalize nV u' v' = b' at *
  generalize (Int.gcd u v : Int) = g at *
  generalize (Int.gcd u' v' : Int) = g' at *
  have hx : a * b' = a' * b := by
    have : (g * g') * (a * b') = (g * g') * (a' * b) := by
      rw [← e1, ← e2, ← e3, ← e4] at h
      grind
    exact Int.eq_of_mul_eq_mul_left (by have := Int.mul_pos g1 g2; omega) this
  have d1 : b ∣ b' := dvd_of_cop c1 ⟨a', by rw [hx, Int.mul_comm]⟩
  have d2 : b' ∣ b := dvd_of_cop c2 ⟨a, by rw [← hx, Int.mul_comm]⟩
  have eb := Int.dvd_antisymm (by omega) (by omega) d1 d2
  subst eb
  exact ⟨Int.eq_of_mul_eq_mul_right (by omega) hx, rfl⟩
theorem frD_cong (hv : 0 < v) (hv' : 0 < v') (h : u * v' = u' * v) : frD u v = frD u' v' := by
  obtain ⟨a, b⟩ := fr_cong hv hv' h
  unfold frD
  rw [a, b]
/-- below 2 ^ n -/
def Sm (n : Nat) (x : Int) : Prop := x.natAbs < 2 ^ n
theorem Sm.mono {n m : Nat} {x : Int} (h : Sm n x) (l : n ≤ m) : Sm m x := Nat.lt_of_lt_of_le h (Nat.pow_le_pow_right (by decide) l)
theorem Sm.mul {n m : Nat} {x y : Int} (h : Sm n x) (h' : Sm m y) : Sm (n + m) (x * y) := by
  unfold Sm at *
  rw [Int.natAbs_mul, Nat.pow_add]
  exact Nat.mul_lt_mul'' h h'
theorem Sm.add {n : Nat} {x y : Int} (h : Sm n x) (h' : Sm n y) : Sm (n + 1) (x + y) := by
  unfold Sm at *
  rw [Nat.pow_succ]
  omega
theorem Sm.sub {n : Nat} {x y : Int} (h : Sm n x) (h' : Sm n y) : Sm (n + 1) (x - y) := by
  unfold Sm at *
  rw [Nat.pow_succ]
  omega
theorem Sm.big {n : Nat} {x : Int} (h : Sm n x) (l : n ≤ 4000) : x.natAbs < BIG := by unfold BIG; exact h.mono l
theorem Sm.ok {n m : Nat} {x y : Int} (h : Sm n x) (h' : Sm m y) (l : n ≤ 4000) (l' : m ≤ 4000) : mulOk x y := .inr ⟨h.big l, h'.big l'⟩
theorem Sm.of_mul {n : Nat} {x g : Int} (h : Sm n (x * g)) (hg : 0 < g) : Sm n x := by
  unfold Sm at *
  rw [Int.natAbs_mul] at h
  have : x.natAbs * 1 ≤ x.natAbs * g.natAbs := Nat.mul_le_mul_left _ (by omega)
  omega
theorem Sm.nU {n : Nat} (h : Sm n u) (hv : 0 < v) : Sm n (nU u v) := Sm.of_mul (g := (Int.gcd u v : Int)) (by rw [nU_mul]; exact h) (g_pos hv)
theorem Sm.nV {n : Nat} (h : Sm n v) (hv : 0 < v) : Sm n (nV u v) := Sm.of_mul (g := (Int.gcd u v : Int)) (by rw [nV_mul]; exact h) (g_pos hv)
theorem nU_neg (hv : 0 < v) : nU u v < 0 ↔ u < 0 := by
  have a := nU_mul (u := u) (v := v)
  have g := g_pos (u := u) hv
  generalize nU u v = x at *
  generalize (Int.gcd u v : Int) = y at *
  subst a
  constructor
  · exact fun h => Int.mul_neg_of_neg_of_pos h g
  · intro h
    by_cases z : x < 0
    · exact z
    · have := Int.mul_nonneg (show 0 ≤ x by omega) (show 0 ≤ y by omega)
      omega
end
@[simp] theorem eqD_fr {u v : Int} : eqD (frD u v) (frD u v) = some true := by
  simp [frD, eqD, okN, dEq, dEqs]
theorem eqD_pair {a b c d : Int} : eqD (.tup [.int a, .int b]) (.tup [.int c, .int d]) = some (decide (a = c ∧ b = d)) := by
  have h1 : okN 60 (.tup [.int a, .int b]) = true := by simp [okN]
  have h2 : okN 60 (.tup [.int c, .int d]) = true := by simp [okN]
  show (if okN 60 (.tup [.int a, .int b]) && okN 60 (.tup [.int c, .int d]) then some (dEq (.tup [.int a, .int b]) (.tup [.int c, .int d])) else none) = _
  rw [h1, h2]
  simp [dEq, dEqs]
  by_cases x : a = c <;> by_cases y : b = d <;> simp [x, y]
def bPlus (s : Nat) : Ss := .cons (.ret (.call s (.cons (.bin .add (.bin .mul (.ix (.v 0) (.c (.int 0))) (.ix (.v 1) (.c (.int 1)))) (.bin .mul (.ix (.v 1) (.c (.int 0))) (.ix (.v 0) (.c (.int 1))))) (.cons (.bin .mul (.ix (.v 0) (.c (.int 1))) (.ix (.v 1) (.c (.int 1)))) .nil)))) .nil
def bMinus (s : Nat) : Ss := .cons (.ret (.call s (.cons (.bin .sub (.bin .mul (.ix (.v 0) (.c (.int 0))) (.ix (.v 1) (.c (.int 1)))) (.bin .mul (.ix (.v 1) (.c (.int 0))) (.ix (.v 0) (.c (.int 1))))) (.cons (.bin .mul (.ix (.v 0) (.c (.int 1))) (.ix (.v 1) (.c (.int 1)))) .nil)))) .nil
def bTimes (s : Nat) : Ss := .cons (.ret (.call s (.cons (.bin .mul (.ix (.v 0) (.c (.int 0))) (.ix (.v 1) (.c (.int 0)))) (.cons (.bin .mul (.ix (.v 0) (.c (.int 1))) (.ix (.v 1) (.c (.int 1)))) .nil)))) .nil
def bLess : Ss := .cons (.ret (.cmp .lt (.bin .mul (.ix (.v 0) (.c (.int 0))) (.ix (.v 1) (.c (.int 1)))) (.bin .mul (.ix (.v 1) (.c (.int 0))) (.ix (.v 0) (.c (.int 1)))))) .nil
section
variable {rows : List DRow} {f s k n : Nat} {r rs : DRow} {u v u' v' : Int}
theorem run_plus (hr : rows[f]? = some r) (hd : r.d = ⟨2, 2, bPlus s⟩) (hs : rows[s]? = some rs) (hds : rs.d = ⟨2, 4, bShare⟩) (hv : 0 < v) (hv' : 0 < v') (s1 : Sm n u) (s2 : Sm n v) (s3 : Sm n u') (s4 : Sm n v') (hn : 2 * n ≤ 4000) :
    runL (PTof rows) (k + 2) f [frD u v, frD u' v'] = .ok false (frD (u * v' + u' * v) (v * v')) := by
  rw [runL_row hr (by rw [hd]; rfl), hd]
  have p1 := nV_pos (u := u) hv
  have p2 := nV_pos (u := u') hv'
  have t1 := s1.nU hv
  have t2 := s2.nV (u := u) hv
  have t3 := s3.nU hv'
  have t4 := s4.nV (u := u') hv'
  have m1 := t1.ok t4 (by omega) (by omega)
  have m2 := t3.ok t2 (by omega) (by omega)
  have m3 := t2.ok t4 (by omega) (by omega)
  have b := (t2.mul t4).big (by omega)
  have q := run_share (k := k) hs hds (nU u v * nV u' v' + nU u' v' * nV u v) (nV u v * nV u' v') (Int.mul_pos p1 p2) b
  have c1 := n_cross (u := u) (v := v)
  have c2 := n_cross (u := u') (v := v')
  rw [frD_cong (u' := u * v' + u' * v) (v' := v * v') (Int.mul_pos p1 p2) (Int.mul_pos hv hv') (by grind)] at q
  simp [bPlus, frD, m1, m2, m3]
  rw [q]
  simp [frD]
theorem run_minus (hr : rows[f]? = some r) (hd : r.d = ⟨2, 2, bMinus s⟩) (hs : rows[s]? = some rs) (hds : rs.d = ⟨2, 4, bShare⟩) (hv : 0 < v) (hv' : 0 < v') (s1 : Sm n u) (s2 : Sm n v) (s3 : Sm n u') (s4 : Sm n v') (hn : 2 * n ≤ 4000) :
    runL (PTof rows) (k + 2) f [frD u v, frD u' v'] = .ok false (frD (u * v' - u' * v) (v * v')) := by
  rw [runL_row hr (by rw [hd]; rfl), hd]
  have p1 := nV_pos (u := u) hv
  have p2 := nV_pos (u := u') hv'
  have t1 := s1.nU hv
  have t2 := s2.nV (u := u) hv
  have t3 := s3.nU hv'
  have t4 := s4.nV (u := u') hv'
  have m1 := t1.ok t4 (by omega) (by omega)
  have m2 := t3.ok t2 (by omega) (by omega)
  have m3 := t2.ok t4 (by omega) (by omega)
  have b := (t2.mul t4).big (by omega)
  have q := run_share (k := k) hs hds (nU u v * nV u' v' - nU u' v' * nV u v) (nV u v * nV u' v') (Int.mul_pos p1 p2) b
  have c1 := n_cross (u := u) (v := v)
  have c2 := n_cross (u := u') (v := v')
  rw [frD_cong (u' := u * v' - u' * v) (v' := v * v') (Int.mul_pos p1 p2) (Int.mul_pos hv hv') (by grind)] at q
  simp [bMinus, frD, m1, m2, m3]
  rw [q]
  simp [frD]
theorem run_times (hr : rows[f]? = some r) (hd : r.d = ⟨2, 2, bTimes s⟩) (hs : rows[s]? = some rs) (hds : rs.d = ⟨2, 4, bShare⟩) (hv : 0 < v) (hv' : 0 < v') (s1 : Sm n u) (s2 : Sm n v) (s3 : Sm n u') (s4 : Sm n v') (hn : 2 * n ≤ 4000) :
    runL (PTof rows) (k + 2) f [frD u v, frD u' v'] = .ok false (frD (u * u') (v * v')) := by
  rw [runL_row hr (by rw [hd]; rfl), hd]
  have p1 := nV_pos (u := u) hv
  have p2 := nV_pos (u := u') hv'
  have t1 := s1.nU hv
  have t2 := s2.nV (u := u) hv
  have t3 := s3.nU hv'
  have t4 := s4.nV (u := u') hv'
  have m1 := t1.ok t3 (by omega) (by omega)
  have m3 := t2.ok t4 (by omega) (by omega)
  have b := (t2.mul t4).big (by omega)
  have q := run_share (k := k) hs hds (nU u v * nU u' v') (nV u v * nV u' v') (Int.mul_pos p1 p2) b
  have c1 := n_cross (u := u) (v := v)
  have c2 := n_cross (u := u') (v := v')
  rw [frD_cong (u' := u * u') (v' := v * v') (Int.mul_pos p1 p2) (Int.mul_pos hv hv') (by grind)] at q
  simp [bTimes, frD, m1, m3]
  rw [q]
  simp [frD]
theorem less_iff (hv : 0 < v) (hv' : 0 < v') : nU u v * nV u' v' < nU u' v' * nV u v ↔ u * v' < u' * v := by
  have g1 := g_pos (u := u) hv
  have g2 := g_pos (u := u') hv'
  have e1 := nU_mul (u := u) (v := v)
  have e2 := nV_mul (u := u) (v := v)
  have e3 := nU_mul (u := u') (v := v')
  have e4 := nV_mul (u := u') (v := v')
  generalize nU u v = a at *
  generalize nV u v = b at *
  generalize nU u' v' = a' at *
  generalize nV u' v' = b' at *
  generalize (Int.gcd u v : Int) = g at *
  generalize (Int.gcd u' v' : Int) = g' at *
  subst e1 e2 e3 e4
  have gg := Int.mul_pos g1 g2
  rw [show a * g * (b' * g') = (g * g') * (a * b') by grind, show a' * g' * (b * g) = (g * g') * (a' * b) by grind]
  exact (Int.mul_lt_mul_left gg).symm
theorem run_less (hr : rows[f]? = some r) (hd : r.d = ⟨2, 2, bLess⟩) (hv : 0 < v) (hv' : 0 < v') (s1 : Sm n u) (s2 : Sm n v) (s3 : Sm n u') (s4 : Sm n v') (hn : 2 * n ≤ 4000) :
    runL (PTof rows) (k + 1) f [frD u v, frD u' v'] = .ok false (.bl (decide (u * v' < u' * v))) := by
  rw [runL_row hr (by rw [hd]; rfl), hd]
  have t1 := s1.nU hv
  have t2 := s2.nV (u := u) hv
  have t3 := s3.nU hv'
  have t4 := s4.nV (u := u') hv'
  have m1 := t1.ok t4 (by omega) (by omega)
  have m2 := t3.ok t2 (by omega) (by omega)
  simp [bLess, frD, m1, m2, less_iff hv hv']
end
end PD
set_option maxHeartbeats 4000000
set_option maxRecDepth 10000
namespace PD
/-! F10: loops, comprehensions; tracks. -/
section
variable {FT : Nat → List D → FR} {st : List Slot}
@[simp] theorem evE_chain {o o' : Cop} {a b c : E} : evE FT (.chain o o' a b c) st = (evE FT a st).th fun x st => (evE FT b st).th fun y st => match cmpD o x.2 y.2 with
      | some true => (evE FT c st).th fun z st => outB (cmpD o' y.2 z.2) st
      | some false => .ok (false, .bl false) st
      | none => .bad := by first | (simp only [evE]; done) | (simp only [evE]; rfl)
@[simp] theorem evE_rev {a : E} : evE FT (.rev a) st = op1 (opnd a (evE FT a)) (fun d st => match d with | .lst xs => .ok (true, .lst xs.reverse) st | .tup xs => .ok (false, .tup xs.reverse) st | _ => .bad) st := by
  simp only [evE, op1]
  congr 1; funext x st1
  cases rs1 st1 x <;> try rfl
  rename_i d
  cases d <;> rfl
@[simp] theorem op1_ok {β : Type} {f : List Slot → Res Opd} {g : D → List Slot → Res β} : op1 f g st = (f st).th fun x st => match rs1 st x with
    | some d => g d st
    | _ => .bad := rfl
theorem evE_lc {elt : E} {tg : Tg} {k : Itk} {es cond : Es} {own : List Nat} : evE FT (.lc elt tg k es cond own) st = (evO FT es st).th fun os st => match rsAll st os with
      | none => .bad
      | some ds => match iterD k ds with
        | none => .bad
        | some items => if wipeOk (lockAll os st) own && decide (items.length ≤ SZ) then
            (lcGo tg own (evC FT cond) (evE FT elt) items [] (wipeS (lockAll os st) own)).noExc.th fun d st' => .ok (true, d.2) (unlockAll st os (backS (lockAll os st) st' own))
          else .bad := by first | (simp only [evE]; done) | (simp only [evE]; rfl)
theorem lcGo_map {α : Type} {tg : Tg} {own : List Nat} {cond elt : List Slot → RE} {enc f : α → D} {w : List Slot} : ∀ (l : List α) (acc : List D)
    (h : ∀ a ∈ l, ∃ st1 fr fr2 st2 st3, bind tg (enc a) w = some st1 ∧ cond st1 = .ok (fr, .bl true) st2 ∧ elt st2 = .ok (fr2, f a) st3 ∧ wipeS st3 own = w), lcGo tg own cond elt (l.map enc) acc w = .ok (true, .lst (acc ++ l.map f)) w
  | [], acc, _ => by simp [lcGo]
  | a :: r, acc, h => by
    obtain ⟨st1, fr, fr2, st2, st3, h1, h2, h3, h4⟩ := h a List.mem_cons_self
    have ih := lcGo_map r (acc ++ [f a]) fun b hb => h b (List.mem_cons_of_mem _ hb)
    simp only [List.map_cons, lcGo, h1, h2, th_ok', br_bl, if_true, h3, h4]
    rw [ih, List.append_assoc]
    rfl
theorem lcGo_filter {α : Type} {tg : Tg} {own : List Nat} {cond elt : List Slot → RE} {enc f : α → D} {p : α → Bool} {w : List Slot} : ∀ (l : List α) (acc : List D)
    (h : ∀ a ∈ l, ∃ st1 fr fr2 st2 st3, bind tg (enc a) w = some st1 ∧ cond st1 = .ok (fr, .bl (p a)) st2 ∧ wipeS st2 own = w ∧ (p a = true → elt st2 = .ok (fr2, f a) st3 ∧ wipeS st3 own = w)), lcGo tg own cond elt (l.map enc) acc w = .ok (true, .lst (acc ++ (l.filter p).map f)) w
  | [], acc, _ => by simp [lcGo]
  | a :: r, acc, h => by
    obtain ⟨st1, fr, fr2, st2, st3, h1, h2, h3, h4⟩ := h a List.mem_cons_self
    cases hp : p a with
    | true =>
      obtain ⟨h4, h5⟩ := h4 hp
      have ih := lcGo_filter r (acc ++ [f a]) fun b hb => h b (List.mem_cons_of_mem _ hb)
      simp only [List.map_cons, lcGo, h1, h2, th_ok', br_bl, hp, if_true, h4, h5]
      rw [ih, List.append_assoc, List.filter_cons, if_pos hp]
      rfl
    | false =>
      have ih := lcGo_filter r acc fun b hb => h b (List.mem_cons_of_mem _ hb)
      simp only [List.map_cons, lcGo, h1, h2, th_ok', br_bl, hp, Bool.false_eq_true, if_false, h3]
      rw [ih, List.filter_cons, if_neg (by rw [hp]; decide)]
/-- a for loop that runs through -/
theorem forGo_inv {α β : Type} {tg : Tg} {b : List Slot → RS} {enc : α → D} {I : β → List Slot → Prop} {step : β → α → β} : ∀ (l : List α) (s : β) (st : List Slot),
    (∀ s a st, a ∈ l → I s st → ∃ st1 st2, bind tg (enc a) st = some st1 ∧ b st1 = .ok .nx st2 ∧ I (step s a) st2) → I s st → ∃ st', forGo tg b (l.map enc) st = .ok .nx st' ∧ I (l.foldl step s) st'
  | [], s, st, _, i => ⟨st, rfl, i⟩
  | a :: r, s, st, h, i => by
    obtain ⟨st1, st2, h1, h2, i2⟩ := h s a st List.mem_cons_self i
    obtain ⟨st', h3, i3⟩ := forGo_inv r (step s a) st2 (fun s c st hc => h s c st (List.mem_cons_of_mem _ hc)) i2
    exact ⟨st', by simp only [List.map_cons, forGo, h1, h2, th_ok', h3], i3⟩
end
@[simp] theorem isInt_int {i : Int} : biD .isInt [.int i] = some (false, .bl true) := rfl
@[simp] theorem isBool_int {i : Int} : biD .isBool [.int i] = some (false, .bl false) := rfl
@[simp] theorem isTuple_tup {xs : List D} : biD .isTuple [.tup xs] = some (false, .bl true) := rfl
theorem slFD_tup {xs : List D} {i : Int} : slFD (.tup xs) (.int i) = some (false, .tup (cut xs (cutIx xs.length i) xs.length)) := rfl
theorem slFD_lst {xs : List D} {i : Int} : slFD (.lst xs) (.int i) = some (true, .lst (cut xs (cutIx xs.length i) xs.length)) := rfl
theorem slTD_tup {xs : List D} {i : Int} : slTD (.tup xs) (.int i) = some (false, .tup (cut xs 0 (cutIx xs.length i))) := rfl
theorem slTD_lst {xs : List D} {i : Int} : slTD (.lst xs) (.int i) = some (true, .lst (cut xs 0 (cutIx xs.length i))) := rfl
theorem cut_from {α : Type} (xs : List α) (i : Nat) : cut xs (cutIx xs.length (i : Int)) xs.length = xs.drop i := by
  unfold cut cutIx
  rw [if_neg (by omega)]
  simp only [Int.toNat_natCast]
  rw [List.take_of_length_le (by simp)]
  by_cases h : i ≤ xs.length
  · rw [Nat.min_eq_left h]
  · rw [Nat.min_eq_right (by omega), List.drop_eq_nil_of_le (by omega), List.drop_eq_nil_of_le (by omega)]
theorem cut_to {α : Type} (xs : List α) (i : Nat) : cut xs 0 (cutIx xs.length (i : Int)) = xs.take i := by
  unfold cut cutIx
  rw [if_neg (by omega)]
  simp only [Int.toNat_natCast, List.drop_zero, Nat.sub_zero]
  by_cases h : i ≤ xs.length
  · rw [Nat.min_eq_left h]
  · rw [Nat.min_eq_right (by omega), List.take_of_length_le (by omega), List.take_of_length_le (by omega)]
@[simp] theorem slFD_tup1 {xs : List D} : slFD (.tup xs) (.int 1) = some (false, .tup (xs.drop 1)) := by rw [slFD_tup]; exact congrArg (fun z => some (false, D.tup z)) (cut_from xs 1)
@[simp] theorem slTD_tup1 {xs : List D} : slTD (.tup xs) (.int 1) = some (false, .tup (xs.take 1)) := by rw [slTD_tup]; exact congrArg (fun z => some (false, D.tup z)) (cut_to xs 1)
theorem slFD_tupn {xs : List D} (i : Nat) : slFD (.tup xs) (.int i) = some (false, .tup (xs.drop i)) := by rw [slFD_tup]; exact congrArg (fun z => some (false, D.tup z)) (cut_from xs i)
theorem slTD_tupn {xs : List D} (i : Nat) : slTD (.tup xs) (.int i) = some (false, .tup (xs.take i)) := by rw [slTD_tup]; exact congrArg (fun z => some (false, D.tup z)) (cut_to xs i)
@[simp] theorem slFD_lst1 {xs : List D} : slFD (.lst xs) (.int 1) = some (true, .lst (xs.drop 1)) := by rw [slFD_lst]; exact congrArg (fun z => some (true, D.lst z)) (cut_from xs 1)
@[simp] theorem slTD_lst1 {xs : List D} : slTD (.lst xs) (.int 1) = some (true, .lst (xs.take 1)) := by rw [slTD_lst]; exact congrArg (fun z => some (true, D.lst z)) (cut_to xs 1)
theorem slFD_lstn {xs : List D} (i : Nat) : slFD (.lst xs) (.int i) = some (true, .lst (xs.drop i)) := by rw [slFD_lst]; exact congrArg (fun z => some (true, D.lst z)) (cut_from xs i)
theorem slTD_lstn {xs : List D} (i : Nat) : slTD (.lst xs) (.int i) = some (true, .lst (xs.take i)) := by rw [slTD_lst]; exact congrArg (fun z => some (true, D.lst z)) (cut_to xs i)
@[simp] theorem slFD_tup2 {xs : List D} : slFD (.tup xs) (.int 2) = some (false, .tup (xs.drop 2)) := by rw [slFD_tup]; exact congrArg (fun z => some (false, D.tup z)) (cut_from xs 2)
@[simp] theorem slTD_tup2 {xs : List D} : slTD (.tup xs) (.int 2) = some (false, .tup (xs.take 2)) := by rw [slTD_tup]; exact congrArg (fun z => some (false, D.tup z)) (cut_to xs 2)
@[simp] theorem slFD_lst2 {xs : List D} : slFD (.lst xs) (.int 2) = some (true, .lst (xs.drop 2)) := by rw [slFD_lst]; exact congrArg (fun z => some (true, D.lst z)) (cut_from xs 2)
@[simp] theorem slTD_lst2 {xs : List D} : slTD (.lst xs) (.int 2) = some (true, .lst (xs.take 2)) := by rw [slTD_lst]; exact congrArg (fun z => some (true, D.lst z)) (cut_to xs 2)
@[simp] theorem slFD_tup3 {xs : List D} : slFD (.tup xs) (.int 3) = some (false, .tup (xs.drop 3)) := by rw [slFD_tup]; exact congrArg (fun z => some (false, D.tup z)) (cut_from xs 3)
@[simp] theorem slTD_tup3 {xs : List D} : slTD (.tup xs) (.int 3) = some (false, .tup (xs.take 3)) := by rw [slTD_tup]; exact congrArg (fun z => some (false, D.tup z)) (cut_to xs 3)
@[simp] theorem slFD_lst3 {xs : List D} : slFD (.lst xs) (.int 3) = some (true, .lst (xs.drop 3)) := by rw [slFD_lst]; exact congrArg (fun z => some (true, D.lst z)) (cut_from xs 3)
@[simp] theorem slTD_lst3 {xs : List D} : slTD (.lst xs) (.int 3) = some (true, .lst (xs.take 3)) := by rw [slTD_lst]; exact congrArg (fun z => some (true, D.lst z)) (cut_to xs 3)
theorem boolsD_map {α : Type} (g : α → Bool) : ∀ l : List α, boolsD (l.map fun a => D.bl (g a)) = some (l.map g)
  | [] => rfl
  | a :: r => by simp [boolsD, boolsD_map g r]
theorem intsD_map {α : Type} (g : α → Int) : ∀ l : List α, intsD (l.map fun a => D.int (g a)) = some (l.map g)
  | [] => rfl
  | a :: r => by simp [intsD, intsD_map g r]
theorem allB_map {α : Type} (g : α → Bool) (l : List α) : allB [.lst (l.map fun a => D.bl (g a))] = some (false, .bl (l.all g)) := by
  simp only [allB, boolsD_map, Option.map_some]
  congr 3
  induction l with
  | nil => rfl
  | cons a r ih => simp [ih]
theorem sumB_map {α : Type} (g : α → Int) (l : List α) : sumB [.lst (l.map fun a => D.int (g a))] = some (false, .int (l.map g).sum) := by
  simp only [sumB, intsD_map, Option.map_some]
theorem zipD_map {α β : Type} (f : α → D) (g : β → D) : ∀ (l : List α) (m : List β), zipD (l.map f) (m.map g) = (l.zip m).map fun p => .tup [f p.1, g p.2]
  | [], _ => by simp [zipD]
  | _ :: _, [] => by simp [zipD]
  | a :: l, b :: m => by simp [zipD, zipD_map f g l m]
@[simp] theorem biD_all : biD .all = allB := rfl
@[simp] theorem biD_sum : biD .sum = sumB := rfl
@[simp] theorem biD_any : biD .any = anyB := rfl
@[simp] theorem biD_lenSet : biD .lenSet = lenSetB := rfl
/-- a def's body stands at a number -/
def At (rows : List DRow) (f : Nat) (d : FD) : Prop := ∃ r, rows[f]? = some r ∧ r.d = d
theorem runL_at {rows : List DRow} {k f : Nat} {ds : List D} {d : FD} (h : At rows f d) (hl : ds.length = d.np) :
    runL (PTof rows) (k + 1) f ds = endOf (evSs (runL (PTof rows) k) d.body (ds.map .sh ++ List.replicate (d.ns - d.np) .no)) := by
  obtain ⟨r, h1, rfl⟩ := h
  exact runL_row h1 hl
/-! ### tracks -/
abbrev Pt := Int × Int × Int
def pD (p : Pt) : D := .tup [.int p.1, .int p.2.1, .int p.2.2]
def trD (ps : List Pt) : D := .tup (ps.map pD)
def okP (p : Pt) : Bool := decide (0 ≤ p.1) && decide (p.1 ≤ 999) && (decide (-99 ≤ p.2.1) && decide (p.2.1 ≤ 99)) && (decide (-99 ≤ p.2.2) && decide (p.2.2 ≤ 99))
def risesB (ps : List Pt) : Bool := (ps.zip (ps.drop 1)).all fun q => decide (q.1.1 < q.2.1)
def okT (ps : List Pt) : Bool := decide (1 ≤ ps.length) && decide (ps.length ≤ 12) && ps.all okP && risesB ps
def bWhole : Ss := .cons (.ret (.and (.bi .isInt (.cons (.v 0) .nil)) (.and (.not (.bi .isBool (.cons (.v 0) .nil))) (.chain .le .le (.v 1) (.v 0) (.v 2))))) .nil
def bPoint (w : Nat) : Ss := .cons (.iff (.or (.not (.bi .isTuple (.cons (.v 0) .nil))) (.or (.cmp .ne (.bi .len (.cons (.v 0) .nil)) (.c (.int 3))) (.not (.call w (.cons (.ix (.v 0) (.c (.int 0))) (.cons (.c (.int 0)) (.cons (.g (.int 999) "LAST") .nil))))))) (.cons (.ret (.c (.bl false))) .nil) .nil)
    (.cons (.ret (.bi .all (.cons (.lc (.call w (.cons (.v 1) (.cons (.bin .sub (.c (.int 0)) (.g (.int 99) "FARTHEST")) (.cons (.g (.int 99) "FARTHEST") .nil)))) (.nm 1) .seq (.cons (.slF (.v 0) (.c (.int 1))) .nil) .nil [1]) .nil))) .nil)
def bTrack (p : Nat) : Ss := .cons (.iff (.or (.not (.bi .isTuple (.cons (.v 0) .nil))) (.or (.not (.chain .le .le (.c (.int 1)) (.bi .len (.cons (.v 0) .nil)) (.g (.int 12) "MOST"))) (.not (.bi .all (.cons (.lc (.call p (.cons (.v 1) .nil)) (.nm 1) .seq (.cons (.v 0) .nil) .nil [1]) .nil))))) (.cons (.ret (.c (.bl false))) .nil) .nil)
    (.cons (.ret (.bi .all (.cons (.lc (.cmp .lt (.ix (.v 2) (.c (.int 0))) (.ix (.v 3) (.c (.int 0)))) (.tup (.cons (.nm 2) (.cons (.nm 3) .nil))) .zip (.cons (.v 0) (.cons (.slF (.v 0) (.c (.int 1))) .nil)) .nil [2, 3]) .nil))) .nil)
def bLook (t c : Nat) : Ss := .cons (.iff (.not (.call t (.cons (.v 0) .nil))) (.cons (.raise c) .nil) .nil) .nil
def bLooked (l : Nat) : Ss := .cons (.ex (.call l (.cons (.v 0) .nil))) (.cons (.ret (.v 0)) .nil)
section
variable {rows : List DRow} {w p t l c k : Nat}
theorem run_whole (h : At rows w ⟨3, 3, bWhole⟩) (i lo hi : Int) : runL (PTof rows) (k + 1) w [.int i, .int lo, .int hi] = .ok false (.bl (decide (lo ≤ i) && decide (i ≤ hi))) := by
  rw [runL_at h rfl]
  by_cases h1 : lo ≤ i <;> by_cases h2 : i ≤ hi <;> simp [bWhole, h1, h2]
theorem run_point (hw : At rows w ⟨3, 3, bWhole⟩) (h : At rows p ⟨1, 2, bPoint w⟩) (q : Pt) : runL (PTof rows) (k + 2) p [pD q] = .ok false (.bl (okP q)) := by
  obtain ⟨a, x, y⟩ := q
  rw [runL_at h rfl]
  have h1 := run_whole (k := k) hw a 0 999
  have h2 := run_whole (k := k) hw x (-99) 99
  have h3 := run_whole (k := k) hw y (-99) 99
  cases e1 : (decide (0 ≤ a) && decide (a ≤ 999)) with
  | false =>
    rw [e1] at h1
    have e : okP (a, x, y) = false := by simp only [okP, e1, Bool.false_and]
    simp [bPoint, pD, h1, e]
  | true =>
    rw [e1] at h1
    have e : okP (a, x, y) = ((decide (-99 ≤ x) && decide (x ≤ 99)) && (decide (-99 ≤ y) && decide (y ≤ 99))) := by simp only [okP, e1, Bool.true_and]
    rw [e]
    generalize (decide (-99 ≤ x) && decide (x ≤ 99)) = u at *
    generalize (decide (-99 ≤ y) && decide (y ≤ 99)) = v at *
    have sz : (2 : Nat) ≤ SZ := by decide
    simp [bPoint, pD, h1, evE_lc, iterD, itSeq, itemsD, wipeOk, lockAll, wipeS, lcGo, h2, h3, Res.noExc, unlockAll, backS, allB, boolsD, sz]
end
end PD
set_option maxHeartbeats 4000000
set_option maxRecDepth 10000
namespace PD
/-! F10b: what the program's defs of tracks tell. -/
def bPlaces : Ss := .cons (.ret (.lc (.tup (.cons (.v 2) (.cons (.v 3) .nil))) (.tup (.cons (.nm 1) (.cons (.nm 2) (.cons (.nm 3) .nil)))) .seq (.cons (.v 0) .nil) .nil [1, 2, 3])) .nil
def bTurned (l : Nat) : Ss := .cons (.ex (.call l (.cons (.v 0) .nil))) (.cons (.ret (.bi .tuple (.cons (.lc (.tup (.cons (.v 1) (.cons (.bin .sub (.c (.int 0)) (.v 3)) (.cons (.v 2) .nil)))) (.tup (.cons (.nm 1) (.cons (.nm 2) (.cons (.nm 3) .nil)))) .seq (.cons (.v 0) .nil) .nil [1, 2, 3]) .nil))) .nil)
def bBack (l : Nat) : Ss := .cons (.ex (.call l (.cons (.v 0) .nil)))
    (.cons (.asg (.nm 1) (.bin .add (.ix (.ix (.v 0) (.c (.int 0))) (.c (.int 0))) (.ix (.ix (.v 0) (.neg (.c (.int 1)))) (.c (.int 0)))))
    (.cons (.ret (.bi .tuple (.cons (.lc (.tup (.cons (.bin .sub (.v 1) (.v 2)) (.cons (.v 3) (.cons (.v 4) .nil)))) (.tup (.cons (.nm 2) (.cons (.nm 3) (.cons (.nm 4) .nil)))) .seq (.cons (.rev (.v 0)) .nil) .nil [2, 3, 4]) .nil))) .nil))
def bShifted (l w kk c : Nat) : Ss := .cons (.ex (.call l (.cons (.v 0) .nil)))
    (.cons (.iff (.not (.bi .all (.cons (.lc (.call w (.cons (.v 3) (.cons (.bin .mul (.neg (.c (.int 2))) (.g (.int 99) "FARTHEST")) (.cons (.bin .mul (.c (.int 2)) (.g (.int 99) "FARTHEST")) .nil)))) (.nm 3) .seq (.cons (.tup (.cons (.v 1) (.cons (.v 2) .nil))) .nil) .nil [3]) .nil))) (.cons (.raise c) .nil) .nil)
    (.cons (.ret (.call kk (.cons (.bi .tuple (.cons (.lc (.tup (.cons (.v 4) (.cons (.bin .add (.v 5) (.v 1)) (.cons (.bin .add (.v 6) (.v 2)) .nil)))) (.tup (.cons (.nm 4) (.cons (.nm 5) (.cons (.nm 6) .nil)))) .seq (.cons (.v 0) .nil) .nil [4, 5, 6]) .nil)) .nil))) .nil))
/-- a def's arguments are a track's -/
structure Trk (rows : List DRow) (w p t l c : Nat) : Prop where
  hw : At rows w ⟨3, 3, bWhole⟩
  hp : At rows p ⟨1, 2, bPoint w⟩
  ht : At rows t ⟨1, 4, bTrack p⟩
  hl : At rows l ⟨1, 1, bLook t c⟩
theorem sz_12 {n : Nat} (h : n ≤ 12) : n ≤ SZ := Nat.le_trans h (by decide)
section
variable {rows : List DRow} {w p t l c k : Nat} {ps : List Pt}
theorem trD_len : (ps.map pD).length = ps.length := List.length_map ..
theorem run_track (T : Trk rows w p t l c) (ps : List Pt) : runL (PTof rows) (k + 3) t [trD ps] = .ok false (.bl (okT ps)) := by
  rw [runL_at T.ht rfl]
  by_cases h1 : 1 ≤ ps.length
  case neg =>
    have h1' : ¬ (1 : Int) ≤ (ps.length : Int) := by omega
    have e : okT ps = false := by simp only [okT, decide_eq_false h1, Bool.false_and]
    have e0 : ps.length = 0 := by omega
    simp [bTrack, trD, e, e0]
  by_cases h2 : ps.length ≤ 12
  case neg =>
    have h1' : (1 : Int) ≤ (ps.length : Int) := by omega
    have h2' : ¬ (ps.length : Int) ≤ 12 := by omega
    have e : okT ps = false := by simp only [okT, decide_eq_false h2, Bool.false_and, Bool.and_false]
    simp [bTrack, trD, e, h1', h2', h1, h2]
  have h1' : (1 : Int) ≤ (ps.length : Int) := by omega
  have h2' : (ps.length : Int) ≤ 12 := by omega
  have sz := sz_12 h2
  have m1 := lcGo_map (tg := .nm 1) (own := [1]) (cond := evC (runL (PTof rows) (k + 2)) .nil) (elt := evE (runL (PTof rows) (k + 2)) (.call p (.cons (.v 1) .nil))) (enc := pD) (f := fun q => .bl (okP q)) (w := [.sh (trD ps), .no, .no, .no]) ps []
    fun a _ => ⟨[.sh (trD ps), .sh (pD a), .no, .no], false, false, [.sh (trD ps), .sh (pD a), .no, .no], [.sh (trD ps), .sh (pD a), .no, .no], by simp, by simp, by simp [run_point (k := k) T.hw T.hp a], by simp [wipeS]⟩
  have a1 := allB_map okP ps
  cases e1 : ps.all okP with
  | false =>
    have e : okT ps = false := by simp only [okT, e1, Bool.false_and, Bool.and_false]
    rw [e1] at a1
    unfold trD at m1 ⊢
    simp [bTrack, e, h1, h2, h1', h2', evE_lc, iterD, itSeq, itemsD, wipeOk, lockAll, wipeS, sz, m1, Res.noExc, unlockAll, backS, a1]
  | true =>
    have e : okT ps = risesB ps := by simp only [okT, e1, decide_eq_true h1, decide_eq_true h2, Bool.true_and]
    rw [e1] at a1
    have m2 := lcGo_map (tg := .tup (.cons (.nm 2) (.cons (.nm 3) .nil))) (own := [2, 3]) (cond := evC (runL (PTof rows) (k + 2)) .nil) (elt := evE (runL (PTof rows) (k + 2)) (.cmp .lt (.ix (.v 2) (.c (.int 0))) (.ix (.v 3) (.c (.int 0)))))
      (enc := fun q : Pt × Pt => .tup [pD q.1, pD q.2]) (f := fun q => .bl (decide (q.1.1 < q.2.1))) (w := [.sh (trD ps), .no, .no, .no]) (ps.zip (ps.drop 1)) []
      fun a _ => ⟨[.sh (trD ps), .no, .sh (pD a.1), .sh (pD a.2)], false, false, [.sh (trD ps), .no, .sh (pD a.1), .sh (pD a.2)], [.sh (trD ps), .no, .sh (pD a.1), .sh (pD a.2)], by simp, by simp, by simp [pD], by simp [wipeS]⟩
    have a2 := allB_map (fun q : Pt × Pt => decide (q.1.1 < q.2.1)) (ps.zip (ps.drop 1))
    have z := zipD_map pD pD ps (ps.drop 1)
    have sz2 : (ps.zip (ps.drop 1)).length ≤ SZ := by rw [List.length_zip]; exact Nat.le_trans (Nat.min_le_left _ _) sz
    unfold trD at m1 m2 ⊢
    rw [e]
    unfold risesB
    simp only [List.map_drop] at z
    simp at m2 z a2 sz2
    simp [bTrack, h1, h2, h1', h2', evE_lc, iterD, itSeq, itZip, itemsD, wipeOk, lockAll, wipeS, sz, m1, Res.noExc, unlockAll, backS, a1, z, m2, a2, sz2]
theorem run_look (T : Trk rows w p t l c) (h : okT ps = true) : runL (PTof rows) (k + 4) l [trD ps] = .ok false .non := by
  rw [runL_at T.hl rfl]
  have := run_track (k := k) T ps
  rw [h] at this
  simp [bLook, this]
theorem run_lookN (T : Trk rows w p t l c) (h : okT ps = false) : runL (PTof rows) (k + 4) l [trD ps] = .exc c := by
  rw [runL_at T.hl rfl]
  have := run_track (k := k) T ps
  rw [h] at this
  simp [bLook, this]
theorem run_looked {f : Nat} (T : Trk rows w p t l c) (hf : At rows f ⟨1, 1, bLooked l⟩) (h : okT ps = true) : runL (PTof rows) (k + 5) f [trD ps] = .ok false (trD ps) := by
  rw [runL_at hf rfl]
  have := run_look (k := k) T h
  simp [bLooked, this]
/-- the places -/
def plD (q : Int × Int) : D := .tup [.int q.1, .int q.2]
theorem run_places {f : Nat} (hf : At rows f ⟨1, 4, bPlaces⟩) (hl : ps.length ≤ 12) : runL (PTof rows) (k + 1) f [trD ps] = .ok true (.lst (ps.map fun q => plD q.2)) := by
  rw [runL_at hf rfl]
  have sz := sz_12 hl
  have m := lcGo_map (tg := .tup (.cons (.nm 1) (.cons (.nm 2) (.cons (.nm 3) .nil)))) (own := [1, 2, 3]) (cond := evC (runL (PTof rows) k) .nil) (elt := evE (runL (PTof rows) k) (.tup (.cons (.v 2) (.cons (.v 3) .nil)))) (enc := pD) (f := fun q => plD q.2) (w := [.sh (trD ps), .no, .no, .no]) ps []
    fun a _ => ⟨[.sh (trD ps), .sh (.int a.1), .sh (.int a.2.1), .sh (.int a.2.2)], false, false, _, [.sh (trD ps), .sh (.int a.1), .sh (.int a.2.1), .sh (.int a.2.2)], by simp [pD], by rw [evC_nil], by simp [plD], by simp [wipeS]⟩
  unfold trD at m ⊢
  simp [bPlaces, evE_lc, iterD, itSeq, itemsD, wipeOk, lockAll, wipeS, sz, m, Res.noExc, unlockAll, backS]
/-- a quarter round -/
def turnP (q : Pt) : Pt := (q.1, 0 - q.2.2, q.2.1)
theorem run_turned {f : Nat} (T : Trk rows w p t l c) (hf : At rows f ⟨1, 4, bTurned l⟩) (h : okT ps = true) (hl : ps.length ≤ 12) : runL (PTof rows) (k + 5) f [trD ps] = .ok false (trD (ps.map turnP)) := by
  rw [runL_at hf rfl]
  have sz := sz_12 hl
  have lk := run_look (k := k) T h
  have m := lcGo_map (tg := .tup (.cons (.nm 1) (.cons (.nm 2) (.cons (.nm 3) .nil)))) (own := [1, 2, 3]) (cond := evC (runL (PTof rows) (k + 4)) .nil) (elt := evE (runL (PTof rows) (k + 4)) (.tup (.cons (.v 1) (.cons (.bin .sub (.c (.int 0)) (.v 3)) (.cons (.v 2) .nil))))) (enc := pD) (f := fun q => pD (turnP q)) (w := [.sh (trD ps), .no, .no, .no]) ps []
    fun a _ => ⟨[.sh (trD ps), .sh (.int a.1), .sh (.int a.2.1), .sh (.int a.2.2)], false, false, _, [.sh (trD ps), .sh (.int a.1), .sh (.int a.2.1), .sh (.int a.2.2)], by simp [pD], by rw [evC_nil], by simp [turnP, pD], by simp [wipeS]⟩
  unfold trD at m lk ⊢
  simp [bTurned, lk, evE_lc, iterD, itSeq, itemsD, wipeOk, lockAll, wipeS, sz, m, Res.noExc, unlockAll, backS, tupleB, sh1]
theorem atD_last {xs : List D} {d : D} (h : xs.getLast? = some d) : atD xs (-1) = some d := by
  cases xs with
  | nil => cases h
  | cons a r =>
    unfold atD ixAt
    rw [if_neg (by decide), if_pos (by simp; omega)]
    show (a :: r)[((-1 : Int) + ((a :: r).length : Int)).toNat]? = some d
    rw [show ((-1 : Int) + ((a :: r).length : Int)).toNat = (a :: r).length - 1 by simp; omega]
    rw [← List.getLast?_eq_getElem?, h]
/-- from its end on -/
def backT (ps : List Pt) : List Pt := ps.reverse.map fun q => ((ps.head?.getD (0, 0, 0)).1 + (ps.getLast?.getD (0, 0, 0)).1 - q.1, q.2)
theorem run_back {f : Nat} (T : Trk rows w p t l c) (hf : At rows f ⟨1, 5, bBack l⟩) (h : okT ps = true) (hl : ps.length ≤ 12) (h1 : 1 ≤ ps.length) : runL (PTof rows) (k + 5) f [trD ps] = .ok false (trD (backT ps)) := by
  rw [runL_at hf rfl]
  have sz := sz_12 hl
  have lk := run_look (k := k) T h
  obtain ⟨a, r, rfl⟩ : ∃ a r, ps = a :: r := by cases ps with | nil => simp at h1 | cons a r => exact ⟨a, r, rfl⟩
  obtain ⟨z, hz⟩ : ∃ z, (a :: r).getLast? = some z := ⟨_, List.getLast?_eq_some_getLast (by simp)⟩
  have hz' : ((a :: r).map pD).getLast? = some (pD z) := by rw [List.getLast?_map, hz]; rfl
  have al := atD_last hz'
  have a0 : atD ((a :: r).map pD) 0 = some (pD a) := atD0
  have m := lcGo_map (tg := .tup (.cons (.nm 2) (.cons (.nm 3) (.cons (.nm 4) .nil)))) (own := [2, 3, 4]) (cond := evC (runL (PTof rows) (k + 4)) .nil) (elt := evE (runL (PTof rows) (k + 4)) (.tup (.cons (.bin .sub (.v 1) (.v 2)) (.cons (.v 3) (.cons (.v 4) .nil))))) (enc := pD)
    (f := fun q => pD (a.1 + z.1 - q.1, q.2)) (w := [.sh (trD (a :: r)), .sh (.int (a.1 + z.1)), .no, .no, .no]) (a :: r).reverse []
    fun q _ => ⟨[.sh (trD (a :: r)), .sh (.int (a.1 + z.1)), .sh (.int q.1), .sh (.int q.2.1), .sh (.int q.2.2)], false, false, _, [.sh (trD (a :: r)), .sh (.int (a.1 + z.1)), .sh (.int q.1), .sh (.int q.2.1), .sh (.int q.2.2)], by simp [pD], by rw [evC_nil], by simp [pD], by simp [wipeS]⟩
  have eb : trD (backT (a :: r)) = .tup ((a :: r).reverse.map fun q => pD (a.1 + z.1 - q.1, q.2)) := by unfold backT trD; rw [hz, List.map_map]; rfl
  rw [eb]
  rw [List.map_reverse, List.nil_append] at m
  have szx : ((a :: r).map pD).length ≤ SZ := by rw [List.length_map]; exact sz
  unfold trD at m lk ⊢
  generalize ((a :: r).reverse.map fun q => pD (a.1 + z.1 - q.1, q.2)) = ys at *
  generalize (a :: r).map pD = xs at *
  simp [bBack, lk, a0, al, pD, evE_lc, iterD, itSeq, itemsD, wipeOk, lockAll, wipeS, Res.noExc, unlockAll, backS, tupleB, sh1, m, szx]
end
end PD
set_option maxHeartbeats 4000000
set_option maxRecDepth 10000
namespace PD
/-! F11: drawn tracks. -/
theorem forGo_range {tg : Tg} {b : List Slot → RS} {I : Nat → List Slot → Prop} (a : Int) : ∀ (n i : Nat) (st : List Slot),
    (∀ j st, i ≤ j → j < i + n → I j st → ∃ st1 st2, bind tg (.int (a + (j : Int))) st = some st1 ∧ b st1 = .ok .nx st2 ∧ I (j + 1) st2) → I i st →
    ∃ st', forGo tg b ((List.range' i n).map fun (j : Nat) => D.int (a + (j : Int))) st = .ok .nx st' ∧ I (i + n) st'
  | 0, i, st, _, h => ⟨st, rfl, h⟩
  | n + 1, i, st, h, hi => by
    obtain ⟨st1, st2, h1, h2, h3⟩ := h i st (Nat.le_refl _) (by omega) hi
    obtain ⟨st', h4, h5⟩ := forGo_range a n (i + 1) st2 (fun j st hj hl => h j st (by omega) (by omega)) h3
    refine ⟨st', ?_, by rw [show i + (n + 1) = i + 1 + n by omega]; exact h5⟩
    simp only [List.range'_succ, List.map_cons, forGo, h1, h2, th_ok']
    exact h4
theorem rangeL_eq (a : Int) (n : Nat) : rangeL a n = (List.range' 0 n).map fun (j : Nat) => D.int (a + (j : Int)) := by
  unfold rangeL
  rw [List.range_eq_range']
theorem rngOk_of {i : Int} (h : -1000 ≤ i) (h2 : i ≤ 1000) : rngOk i := ⟨by omega, by omega⟩
theorem rises_app {s : List Pt} {q : Pt} (h : risesB s = true) (hl : ∀ z, s.getLast? = some z → z.1 < q.1) : risesB (s ++ [q]) = true := by
  induction s with
  | nil => rfl
  | cons a r ih =>
    cases r with
    | nil => simpa [risesB] using hl a rfl
    | cons b r =>
      have h1 : (decide (a.1 < b.1) && risesB (b :: r)) = true := h
      rw [Bool.and_eq_true] at h1
      have h2 := ih h1.2 (fun z hz => hl z (by rw [List.getLast?_cons_cons]; exact hz))
      show (decide (a.1 < b.1) && risesB (b :: r ++ [q])) = true
      rw [h1.1, h2]; rfl
def bSmall (f : Nat) : Ss := .cons (.par (.cons (.nm 3) (.cons (.nm 4) (.cons (.nm 5) .nil))) (.cons (.lst .nil) (.cons (.c (.int 0)) (.cons (.c (.int 0)) .nil))))
    (.cons (.for_ (.nm 6) .range (.cons (.bin .add (.c (.int 1)) (.call f (.cons (.v 0) (.cons (.v 1) (.cons (.v 2) .nil))))) .nil) (.cons (.app 3 (.tup (.cons (.bin .add (.bin .mul (.c (.int 2)) (.v 6)) (.c (.int 1))) (.cons (.v 4) (.cons (.v 5) .nil)))))
    (.cons (.asg (.nm 7) (.ix (.lst (.cons (.c (.int 2)) (.cons (.c (.int 3)) (.cons (.c (.int 7)) .nil)))) (.call f (.cons (.v 0) (.cons (.bin .add (.v 1) (.c (.int 1))) (.cons (.c (.int 3)) .nil))))))
    (.cons (.asg (.nm 4) (.bin .sub (.bin .add (.v 4) (.call f (.cons (.v 0) (.cons (.bin .add (.bin .add (.v 1) (.bin .mul (.c (.int 2)) (.v 6))) (.c (.int 2))) (.cons (.v 7) .nil))))) (.bin .fdiv (.v 7) (.c (.int 2)))))
    (.cons (.asg (.nm 5) (.bin .sub (.bin .add (.v 5) (.call f (.cons (.v 0) (.cons (.bin .add (.bin .add (.v 1) (.bin .mul (.c (.int 2)) (.v 6))) (.c (.int 3))) (.cons (.v 7) .nil))))) (.bin .fdiv (.v 7) (.c (.int 2)))))
    .nil)))))
    (.cons (.ret (.bi .tuple (.cons (.v 3) .nil))) .nil))
/-- the draws stand at their numbers -/
structure Drw (rows : List DRow) (c f : Nat) : Prop where
  hc : At rows c ⟨2, 2, bCell⟩
  hf : At rows f ⟨3, 4, bPick c⟩
section
variable {rows : List DRow} {c f k : Nat}
theorem Drw.at (T : Drw rows c f) (ns : List Int) (i : Int) (hi : 0 ≤ i) {m : Int} (hm : 0 < m) : ∃ z, runL (PTof rows) (k + 2) f [.scr ns, .int i, .int m] = .ok false (.int z) ∧ 0 ≤ z ∧ z < m := by
  obtain ⟨rc, h1, h2⟩ := T.hc
  obtain ⟨rf, h3, h4⟩ := T.hf
  obtain ⟨j, rfl⟩ : ∃ j : Nat, i = j := ⟨i.toNat, by omega⟩
  exact ⟨_, run_pick h3 h4 h1 h2 ns j hm, pickV_nn hm, pickV_lt hm⟩
theorem atD3 {a b c : Int} {z : Int} (h : 0 ≤ z) (h2 : z < 3) : ∃ w, atD [.int a, .int b, .int c] z = some (.int w) ∧ (w = a ∨ w = b ∨ w = c) := by
  have : z = 0 ∨ z = 1 ∨ z = 2 := by omega
  rcases this with rfl | rfl | rfl
  · exact ⟨a, atD0, .inl rfl⟩
  · exact ⟨b, atD1, .inr (.inl rfl)⟩
  · exact ⟨c, atD2, .inr (.inr rfl)⟩
theorem run_small {g : Nat} (T : Drw rows c f) (hg : At rows g ⟨3, 8, bSmall f⟩) (ns : List Int) (at_ most : Int) (ha : 0 ≤ at_) (hm : 1 ≤ most) (hm2 : most ≤ 12) :
    ∃ ps, runL (PTof rows) (k + 3) g [.scr ns, .int at_, .int most] = .ok false (trD ps) ∧ okT ps = true ∧ 1 ≤ ps.length ∧ ps.length ≤ 12 ∧ ∀ q ∈ ps, q.2.1.natAbs ≤ 36 ∧ q.2.2.natAbs ≤ 36 := by
  rw [runL_at hg rfl]
  obtain ⟨z, hz, z0, z1⟩ := T.at (k := k) ns at_ ha (show 0 < most by omega)
  have hrng : rngOk (1 + z) := rngOk_of (by omega) (by omega)
  obtain ⟨n, hn⟩ : ∃ n : Nat, (n : Int) = 1 + z := ⟨(1 + z).toNat, by omega⟩
  let I : Nat → List Slot → Prop := fun i st => ∃ (s : List Pt) (x y : Int) (d6 d7 : Slot), st = [.sh (.scr ns), .sh (.int at_), .sh (.int most), .ow (.lst (s.map pD)), .sh (.int x), .sh (.int y), d6, d7] ∧ s.length = i ∧ s.all okP = true ∧ risesB s = true ∧
    (∀ w, s.getLast? = some w → w.1 < 2 * (i : Int) + 1) ∧ x.natAbs ≤ 3 * i ∧ y.natAbs ≤ 3 * i ∧ ∀ q ∈ s, q.2.1.natAbs ≤ 36 ∧ q.2.2.natAbs ≤ 36
  have key : ∀ j st, 0 ≤ j → j < 0 + n → I j st → ∃ st1 st2, bind (.nm 6) (.int (0 + (j : Int))) st = some st1 ∧ evSs (runL (PTof rows) (k + 2)) (.cons (.app 3 (.tup (.cons (.bin .add (.bin .mul (.c (.int 2)) (.v 6)) (.c (.int 1))) (.cons (.v 4) (.cons (.v 5) .nil)))))
    (.cons (.asg (.nm 7) (.ix (.lst (.cons (.c (.int 2)) (.cons (.c (.int 3)) (.cons (.c (.int 7)) .nil)))) (.call f (.cons (.v 0) (.cons (.bin .add (.v 1) (.c (.int 1))) (.cons (.c (.int 3)) .nil))))))
    (.cons (.asg (.nm 4) (.bin .sub (.bin .add (.v 4) (.call f (.cons (.v 0) (.cons (.bin .add (.bin .add (.v 1) (.bin .mul (.c (.int 2)) (.v 6))) (.c (.int 2))) (.cons (.v 7) .nil))))) (.bin .fdiv (.v 7) (.c (.int 2)))))
    (.cons (.asg (.nm 5) (.bin .sub (.bin .add (.v 5) (.call f (.cons (.v 0) (.cons (.bin .add (.bin .add (.v 1) (.bin .mul (.c (.int 2)) (.v 6))) (.c (.int 3))) (.cons (.v 7) .nil))))) (.bin .fdiv (.v 7) (.c (.int 2)))))
    .nil)))) st1 = .ok .nx st2 ∧ I (j + 1) st2 := by
    intro j st _ hj hI
    obtain ⟨s, x, y, d6, d7, rfl, e1, e2, e3, e4, e5, e6, e7⟩ := hI
    obtain ⟨z1, q1, q2, q3⟩ := T.at (k := k) ns (at_ + 1) (by omega) (show (0 : Int) < 3 by decide)
    obtain ⟨w, w1, w2⟩ := atD3 (a := 2) (b := 3) (c := 7) q2 q3
    obtain ⟨z2, q4, q5, q6⟩ := T.at (k := k) ns (at_ + 2 * (j : Int) + 2) (by omega) (show 0 < w by omega)
    obtain ⟨z3, q7, q8, q9⟩ := T.at (k := k) ns (at_ + 2 * (j : Int) + 3) (by omega) (show 0 < w by omega)
    have m1 : mulOk 2 (j : Int) := mulOk_l (by decide)
    have d2 : divOk 2 := divOk_of (by decide) (by decide)
    have sz : s.length < SZ := Nat.lt_of_lt_of_le (show s.length < 13 by omega) (by decide)
    refine ⟨[.sh (.scr ns), .sh (.int at_), .sh (.int most), .ow (.lst (s.map pD)), .sh (.int x), .sh (.int y), .sh (.int (0 + (j : Int))), d7],
      [.sh (.scr ns), .sh (.int at_), .sh (.int most), .ow (.lst ((s ++ [(2 * (j : Int) + 1, x, y)]).map pD)), .sh (.int (x + z2 - w / 2)), .sh (.int (y + z3 - w / 2)), .sh (.int (0 + (j : Int))), .sh (.int w)], by simp, ?_, ?_⟩
    · simp [m1, sz, pD, q1, w1, q4, q7, d2]
    · refine ⟨s ++ [(2 * (j : Int) + 1, x, y)], x + z2 - w / 2, y + z3 - w / 2, _, _, rfl, by simp [e1], ?_, ?_, ?_, ?_, ?_, ?_⟩
      · rw [List.all_append, e2]
        simp [okP]
        omega
      · exact rises_app e3 fun w hw => by have := e4 w hw; show w.1 < 2 * (j : Int) + 1; omega
      · intro w' hw'
        rw [List.getLast?_append] at hw'
        simp at hw'
        subst hw'
        show 2 * (j : Int) + 1 < _
        omega
      · rcases w2 with rfl | rfl | rfl <;> omega
      · rcases w2 with rfl | rfl | rfl <;> omega
      · intro q hq
        rcases List.mem_append.mp hq with hq | hq
        · exact e7 q hq
        · rw [List.mem_singleton] at hq; subst hq; dsimp only; omega
  obtain ⟨st', h1, s, x, y, d6, d7, rfl, h2, h3, h4, h5, _, _, h6⟩ := forGo_range (I := I) 0 n 0 [.sh (.scr ns), .sh (.int at_), .sh (.int most), .ow (.lst []), .sh (.int 0), .sh (.int 0), .no, .no] key ⟨[], 0, 0, .no, .no, rfl, rfl, rfl, rfl, (fun w hw => by cases hw), by decide, by decide, fun q hq => by cases hq⟩
  refine ⟨s, ?_, ?_, ?_, ?_, h6⟩
  · rw [← rangeL_eq] at h1
    have hn2 : (1 + z).toNat = n := by omega
    simp [bSmall, List.replicate, hz, iterD, itRange, hrng, hn2, h1, tupleB, sh1, trD]
  · have hl : s.length = n := by omega
    simp only [okT, h3, h4, Bool.and_true, Bool.and_eq_true, decide_eq_true_eq]
    omega
  · omega
  · omega
end
def lDraw (f : Nat) : Ss := (.cons (.asg (.nm 5) (.bin .add (.bin .add (.v 5) (.c (.int 1))) (.call f (.cons (.v 0) (.cons (.bin .add (.v 1) (.bin .mul (.c (.int 5)) (.v 9))) (.cons (.ix (.lst (.cons (.c (.int 2)) (.cons (.c (.int 6)) (.cons (.c (.int 40)) .nil)))) (.call f (.cons (.v 0) (.cons (.bin .add (.bin .add (.v 1) (.c (.int 80))) (.v 9)) (.cons (.c (.int 3)) .nil))))) .nil))))))
    (.cons (.asg (.nm 6) (.bi .max (.cons (.neg (.c (.int 99))) (.cons (.bi .min (.cons (.c (.int 99)) (.cons (.bin .sub (.bin .add (.v 6) (.call f (.cons (.v 0) (.cons (.bin .add (.bin .add (.v 1) (.bin .mul (.c (.int 5)) (.v 9))) (.c (.int 1))) (.cons (.bin .add (.bin .mul (.c (.int 2)) (.v 4)) (.c (.int 1))) .nil))))) (.v 4)) .nil))) .nil))))
    (.cons (.asg (.nm 7) (.bi .max (.cons (.neg (.c (.int 99))) (.cons (.bi .min (.cons (.c (.int 99)) (.cons (.bin .sub (.bin .add (.v 7) (.call f (.cons (.v 0) (.cons (.bin .add (.bin .add (.v 1) (.bin .mul (.c (.int 5)) (.v 9))) (.c (.int 2))) (.cons (.bin .add (.bin .mul (.c (.int 2)) (.v 4)) (.c (.int 1))) .nil))))) (.v 4)) .nil))) .nil))))
    (.cons (.iff (.cmp .eq (.call f (.cons (.v 0) (.cons (.bin .add (.bin .add (.v 1) (.bin .mul (.c (.int 5)) (.v 9))) (.c (.int 3))) (.cons (.c (.int 4)) .nil)))) (.c (.int 0))) (.cons (.asg (.tup (.cons (.nm 6) (.cons (.nm 7) .nil))) (.slF (.ix (.v 8) (.neg (.c (.int 1)))) (.c (.int 1))))
    .nil) .nil)
    (.cons (.app 8 (.tup (.cons (.v 5) (.cons (.v 6) (.cons (.v 7) .nil)))))
    .nil)))))
def bDraw (f : Nat) : Ss := (.cons (.asg (.nm 3) (.bin .add (.c (.int 1)) (.call f (.cons (.v 0) (.cons (.v 1) (.cons (.v 2) .nil))))))
    (.cons (.asg (.nm 4) (.ix (.lst (.cons (.c (.int 2)) (.cons (.c (.int 5)) (.cons (.c (.int 30)) .nil)))) (.call f (.cons (.v 0) (.cons (.bin .add (.v 1) (.c (.int 1))) (.cons (.c (.int 3)) .nil))))))
    (.cons (.asg (.nm 5) (.call f (.cons (.v 0) (.cons (.bin .add (.v 1) (.c (.int 2))) (.cons (.c (.int 20)) .nil)))))
    (.cons (.par (.cons (.nm 6) (.cons (.nm 7) .nil)) (.cons (.bin .sub (.call f (.cons (.v 0) (.cons (.bin .add (.v 1) (.c (.int 3))) (.cons (.c (.int 21)) .nil)))) (.c (.int 10))) (.cons (.bin .sub (.call f (.cons (.v 0) (.cons (.bin .add (.v 1) (.c (.int 4))) (.cons (.c (.int 21)) .nil)))) (.c (.int 10))) .nil)))
    (.cons (.asg (.nm 8) (.lst (.cons (.tup (.cons (.v 5) (.cons (.v 6) (.cons (.v 7) .nil)))) .nil)))
    (.cons (.for_ (.nm 9) .range (.cons (.c (.int 1)) (.cons (.v 3) .nil)) (lDraw f))
    (.cons (.ret (.bi .tuple (.cons (.v 8) .nil)))
    .nil)))))))
section
variable {rows : List DRow} {c f k : Nat}
theorem maxB_int {i j : Int} : maxB [.int i, .int j] = some (false, .int (if j > i then j else i)) := rfl
theorem minB_int {i j : Int} : minB [.int i, .int j] = some (false, .int (if j < i then j else i)) := rfl
theorem run_draw {g : Nat} (T : Drw rows c f) (hg : At rows g ⟨3, 10, bDraw f⟩) (ns : List Int) (at_ most : Int) (ha : 0 ≤ at_) (hm : 1 ≤ most) (hm2 : most ≤ 12) :
    ∃ ps, runL (PTof rows) (k + 3) g [.scr ns, .int at_, .int most] = .ok false (trD ps) ∧ okT ps = true ∧ 1 ≤ ps.length ∧ ps.length ≤ 12 := by
  rw [runL_at hg rfl]
  obtain ⟨z, hz, z0, z1⟩ := T.at (k := k) ns at_ ha (show 0 < most by omega)
  obtain ⟨z2, hz2, z20, z21⟩ := T.at (k := k) ns (at_ + 1) (by omega) (show (0 : Int) < 3 by decide)
  obtain ⟨w, w1, w2⟩ := atD3 (a := 2) (b := 5) (c := 30) z20 z21
  obtain ⟨z3, hz3, z30, z31⟩ := T.at (k := k) ns (at_ + 2) (by omega) (show (0 : Int) < 20 by decide)
  obtain ⟨z4, hz4, z40, z41⟩ := T.at (k := k) ns (at_ + 3) (by omega) (show (0 : Int) < 21 by decide)
  obtain ⟨z5, hz5, z50, z51⟩ := T.at (k := k) ns (at_ + 4) (by omega) (show (0 : Int) < 21 by decide)
  have hr1 : rngOk 1 := rngOk_of (by omega) (by omega)
  have hr2 : rngOk (1 + z) := rngOk_of (by omega) (by omega)
  obtain ⟨n, hn⟩ : ∃ n : Nat, (n : Int) = z := ⟨z.toNat, by omega⟩
  let I : Nat → List Slot → Prop := fun i st => ∃ (s : List Pt) (tm x y : Int) (d9 : Slot), st = [.sh (.scr ns), .sh (.int at_), .sh (.int most), .sh (.int (1 + z)), .sh (.int w), .sh (.int tm), .sh (.int x), .sh (.int y), .ow (.lst (s.map pD)), d9] ∧ s.length = i + 1 ∧ s.all okP = true ∧ risesB s = true ∧
    s.getLast? = some (tm, x, y) ∧ 0 ≤ tm ∧ tm ≤ 19 + 40 * (i : Int) ∧ -99 ≤ x ∧ x ≤ 99 ∧ -99 ≤ y ∧ y ≤ 99
  have key : ∀ j st, 0 ≤ j → j < 0 + n → I j st → ∃ st1 st2, bind (.nm 9) (.int (1 + (j : Int))) st = some st1 ∧ evSs (runL (PTof rows) (k + 2)) (lDraw f) st1 = .ok .nx st2 ∧ I (j + 1) st2 := by
    intro j st _ hj hI
    obtain ⟨s, tm, x, y, d9, rfl, e1, e2, e3, e4, e5, e6, e7, e8, e9, e10⟩ := hI
    obtain ⟨y1, q1, q2, q3⟩ := T.at (k := k) ns (at_ + 80 + (1 + (j : Int))) (by omega) (show (0 : Int) < 3 by decide)
    obtain ⟨v, v1, v2⟩ := atD3 (a := 2) (b := 6) (c := 40) q2 q3
    obtain ⟨y2, q4, q5, q6⟩ := T.at (k := k) ns (at_ + 5 * (1 + (j : Int))) (by omega) (show 0 < v by omega)
    obtain ⟨y3, q7, q8, q9⟩ := T.at (k := k) ns (at_ + 5 * (1 + (j : Int)) + 1) (by omega) (show 0 < 2 * w + 1 by omega)
    obtain ⟨y4, q10, q11, q12⟩ := T.at (k := k) ns (at_ + 5 * (1 + (j : Int)) + 2) (by omega) (show 0 < 2 * w + 1 by omega)
    obtain ⟨y5, q13, q14, q15⟩ := T.at (k := k) ns (at_ + 5 * (1 + (j : Int)) + 3) (by omega) (show (0 : Int) < 4 by decide)
    have m1 : mulOk 5 (1 + (j : Int)) := mulOk_l (by decide)
    have m2 : mulOk 2 w := mulOk_l (by decide)
    have sz : s.length < SZ := Nat.lt_of_lt_of_le (show s.length < 14 by omega) (by decide)
    have al : atD (s.map pD) (-1) = some (pD (tm, x, y)) := atD_last (by rw [List.getLast?_map, e4]; rfl)
    obtain ⟨nx, enx⟩ : ∃ nx : Int, nx = if (if x + y3 - w < 99 then x + y3 - w else 99) > -99 then (if x + y3 - w < 99 then x + y3 - w else 99) else -99 := ⟨_, rfl⟩
    obtain ⟨ny, eny⟩ : ∃ ny : Int, ny = if (if y + y4 - w < 99 then y + y4 - w else 99) > -99 then (if y + y4 - w < 99 then y + y4 - w else 99) else -99 := ⟨_, rfl⟩
    have bx : -99 ≤ nx ∧ nx ≤ 99 := by omega
    have by_ : -99 ≤ ny ∧ ny ≤ 99 := by omega
    have fin : ∀ a b : Int, -99 ≤ a → a ≤ 99 → -99 ≤ b → b ≤ 99 → I (j + 1) [.sh (.scr ns), .sh (.int at_), .sh (.int most), .sh (.int (1 + z)), .sh (.int w), .sh (.int (tm + 1 + y2)), .sh (.int a), .sh (.int b), .ow (.lst ((s ++ [(tm + 1 + y2, a, b)]).map pD)), .sh (.int (1 + (j : Int)))] := by
      intro a b ha1 ha2 hb1 hb2
      refine ⟨s ++ [(tm + 1 + y2, a, b)], _, a, b, _, rfl, by simp [e1], ?_, ?_, by simp, by omega, by omega, ha1, ha2, hb1, hb2⟩
      · rw [List.all_append, e2]
        simp [okP]
        omega
      · exact rises_app e3 fun w' hw' => by rw [e4] at hw'; cases hw'; show tm < tm + 1 + y2; omega
    by_cases h5 : y5 = 0
    · refine ⟨_, _, by simp; rfl, ?_, fin x y e7 e8 e9 e10⟩
      simp [lDraw, m1, m2, sz, pD, q1, v1, q4, q7, q10, q13, h5, al, maxB_int, minB_int]
    · refine ⟨_, _, by simp; rfl, ?_, fin nx ny bx.1 bx.2 by_.1 by_.2⟩
      simp [lDraw, m1, m2, sz, pD, q1, v1, q4, q7, q10, q13, h5, al, maxB_int, minB_int, enx, eny]
  obtain ⟨st', h1, s, tm, x, y, d9, rfl, h2, h3, h4, h5, _⟩ := forGo_range (I := I) 1 n 0 [.sh (.scr ns), .sh (.int at_), .sh (.int most), .sh (.int (1 + z)), .sh (.int w), .sh (.int z3), .sh (.int (z4 - 10)), .sh (.int (z5 - 10)), .ow (.lst ([(z3, z4 - 10, z5 - 10)].map pD)), .no] key
    ⟨[(z3, z4 - 10, z5 - 10)], z3, z4 - 10, z5 - 10, .no, rfl, rfl, by simp [okP]; omega, rfl, rfl, by omega, by omega, by omega, by omega, by omega, by omega⟩
  refine ⟨s, ?_, ?_, ?_, ?_⟩
  · rw [← rangeL_eq] at h1
    have hn2 : (1 + z - 1).toNat = n := by omega
    simp [pD] at h1
    simp [bDraw, List.replicate, hz, hz2, w1, hz3, hz4, hz5, iterD, itRange, hr1, hr2, hn2, tupleB, sh1, trD, h1, pD]
  · have hl : s.length = n + 1 := by omega
    simp only [okT, h3, h4, Bool.and_true, Bool.and_eq_true, decide_eq_true_eq]
    omega
  · omega
  · omega
end
end PD
set_option maxHeartbeats 4000000
set_option maxRecDepth 10000
namespace PD
/-! F12: areas. -/
abbrev P2 := Int × Int
def crP (a b : P2) : Int := a.1 * b.2 - a.2 * b.1
/-- along consecutive ones -/
def sumC (g : P2 → P2 → Int) : List P2 → Int
  | [] => 0
  | [_] => 0
  | a :: b :: r => g a b + sumC g (b :: r)
def lastOf : P2 → List P2 → P2
  | a, [] => a
  | _, b :: r => lastOf b r
def areaL : List P2 → Int
  | [] => 0
  | a :: r => sumC crP (a :: r) + crP (lastOf a r) a
def dueF (f : P2) (l : List P2) : Int := sumC (fun o p => crP (o.1 - f.1, o.2 - f.2) (p.1 - f.1, p.2 - f.2)) l
theorem due_eq (f : P2) : ∀ (a : P2) (r : List P2), dueF f (a :: r) = sumC crP (a :: r) + crP f a - crP f (lastOf a r)
  | a, [] => by simp [dueF, sumC, lastOf]
  | a, b :: r => by
    have ih := due_eq f b r
    unfold dueF at ih ⊢
    simp only [sumC, lastOf]
    rw [ih]
    simp only [crP]
    grind
theorem area_due (a : P2) (r : List P2) : areaL (a :: r) = dueF a r := by
  cases r with
  | nil => simp [areaL, sumC, lastOf, dueF, crP]; grind
  | cons b r =>
    rw [due_eq]
    simp only [areaL, sumC, lastOf, crP]
    grind
theorem sumC_map (g g' : P2 → P2 → Int) (h : P2 → P2) (e : ∀ a b, g' (h a) (h b) = g a b) : ∀ l : List P2, sumC g' (l.map h) = sumC g l
  | [] => rfl
  | [_] => rfl
  | a :: b :: r => by
    have ih := sumC_map g g' h e (b :: r)
    simp only [List.map_cons] at ih
    simp only [List.map_cons, sumC, e, ih]
theorem lastOf_map (h : P2 → P2) : ∀ (a : P2) (r : List P2), lastOf (h a) (r.map h) = h (lastOf a r)
  | _, [] => rfl
  | _, b :: r => lastOf_map h b r
theorem area_turn (l : List P2) : areaL (l.map fun q => (0 - q.2, q.1)) = areaL l := by
  cases l with
  | nil => rfl
  | cons a r =>
    simp only [List.map_cons, areaL]
    have h1 := sumC_map crP crP (fun q : P2 => (0 - q.2, q.1)) (fun a b => by simp only [crP]; grind) (a :: r)
    simp only [List.map_cons] at h1
    rw [h1, lastOf_map (fun q : P2 => (0 - q.2, q.1))]
    simp only [crP]
    grind
theorem area_shift (l : List P2) (x y : Int) : areaL (l.map fun q => (q.1 + x, q.2 + y)) = areaL l := by
  cases l with
  | nil => rfl
  | cons a r =>
    rw [List.map_cons, area_due, area_due]
    unfold dueF
    exact sumC_map _ _ (fun q : P2 => (q.1 + x, q.2 + y)) (fun o p => by simp only [crP]; grind) r
theorem sumC_app (g : P2 → P2 → Int) : ∀ (a : P2) (l : List P2) (b : P2), sumC g (a :: l ++ [b]) = sumC g (a :: l) + g (lastOf a l) b
  | a, [], b => by simp [sumC, lastOf]
  | a, c :: l, b => by
    have ih := sumC_app g c l b
    simp only [List.cons_append] at ih
    simp only [List.cons_append, sumC, lastOf, ih]
    omega
theorem lastOf_app : ∀ (a : P2) (l : List P2) (b : P2), lastOf a (l ++ [b]) = b
  | _, [], _ => rfl
  | _, c :: l, b => lastOf_app c l b
theorem sumC_rev : ∀ l : List P2, sumC crP l.reverse = - sumC crP l
  | [] => rfl
  | [_] => rfl
  | a :: b :: r => by
    have ih := sumC_rev (b :: r)
    rw [List.reverse_cons]
    obtain ⟨c, m, hm⟩ : ∃ c m, (b :: r).reverse = c :: m := by
      cases h : (b :: r).reverse with
      | nil => simp at h
      | cons c m => exact ⟨c, m, rfl⟩
    have hl : lastOf c m = b := by
      rw [List.reverse_cons] at hm
      cases hr : r.reverse with
      | nil => rw [hr] at hm; cases hm; rfl
      | cons d n => rw [hr] at hm; cases hm; exact lastOf_app c n b
    rw [hm] at ih ⊢
    have e := sumC_app crP c m a
    rw [e, ih, hl]
    simp only [sumC, crP]
    grind
theorem area_rev (l : List P2) : areaL l.reverse = - areaL l := by
  cases l with
  | nil => rfl
  | cons a r =>
    obtain ⟨c, m, hm⟩ : ∃ c m, (a :: r).reverse = c :: m := by
      cases h : (a :: r).reverse with
      | nil => simp at h
      | cons c m => exact ⟨c, m, rfl⟩
    have h1 : lastOf c m = a := by
      rw [List.reverse_cons] at hm
      cases hr : r.reverse with
      | nil => rw [hr] at hm; cases hm; rfl
      | cons d n => rw [hr] at hm; cases hm; exact lastOf_app c n a
    have h2 : lastOf a r = c := by
      have hm' : (c :: m).reverse = a :: r := by rw [← hm, List.reverse_reverse]
      rw [List.reverse_cons] at hm'
      cases hr : m.reverse with
      | nil => rw [hr] at hm'; cases hm'; rfl
      | cons d n => rw [hr] at hm'; cases hm'; exact lastOf_app a n c
    have h3 := sumC_rev (a :: r)
    rw [hm] at h3 ⊢
    simp only [areaL, h3, h1, h2, crP]
    grind
theorem sumC_split (g : P2 → P2 → Int) : ∀ (l : List P2) (k : Nat), sumC g (l.take (k + 1)) + sumC g (l.drop k) = sumC g l
  | [], k => by simp [sumC]
  | [a], 0 => by simp [sumC]
  | [a], k + 1 => by simp [sumC]
  | a :: b :: r, 0 => by simp [sumC]
  | a :: b :: r, k + 1 => by
    have ih := sumC_split g (b :: r) k
    simp only [List.take_succ_cons, List.drop_succ_cons] at ih ⊢
    simp only [sumC]
    omega
/-- as the program reckons it -/
theorem area_zip (l : List P2) : ((l.zip (l.drop 1 ++ l.take 1)).map fun q => q.1.1 * q.2.2 - q.1.2 * q.2.1).sum = areaL l := by
  have gen : ∀ (a : P2) (r : List P2) (b : P2), (((a :: r).zip (r ++ [b])).map fun q => q.1.1 * q.2.2 - q.1.2 * q.2.1).sum = sumC crP (a :: r) + crP (lastOf a r) b := by
    intro a r
    induction r generalizing a with
    | nil => intro b; simp [sumC, lastOf, crP]
    | cons c r ih =>
      intro b
      simp only [List.cons_append, List.zip_cons_cons, List.map_cons, List.sum_cons, sumC, lastOf]
      have := ih c b
      rw [this]
      simp only [crP]
      omega
  cases l with
  | nil => rfl
  | cons a r => simpa [areaL] using gen a r a
/-- .. and as the law does -/
theorem due_zip (f : P2) (l : List P2) : (l.zip (l.drop 1)).foldl (fun s q => s + crP (q.1.1 - f.1, q.1.2 - f.2) (q.2.1 - f.1, q.2.2 - f.2)) 0 = dueF f l := by
  have gen : ∀ (l : List P2) (s : Int), (l.zip (l.drop 1)).foldl (fun s q => s + crP (q.1.1 - f.1, q.1.2 - f.2) (q.2.1 - f.1, q.2.2 - f.2)) s = s + dueF f l := by
    intro l
    induction l with
    | nil => intro s; simp [dueF, sumC]
    | cons a r ih =>
      intro s
      cases r with
      | nil => simp [dueF, sumC]
      | cons b r =>
        have := ih (s + crP (a.1 - f.1, a.2 - f.2) (b.1 - f.1, b.2 - f.2))
        simp only [List.drop_succ_cons, List.drop_zero] at this ⊢
        simp only [List.zip_cons_cons, List.foldl_cons]
        rw [this]
        simp only [dueF, sumC]
        omega
  rw [gen l 0]
  omega
end PD
set_option maxHeartbeats 4000000
set_option maxRecDepth 10000
namespace PD
/-! F12b: twice_area, shifted; what the laws' helpers tell. -/
def bArea (l pl : Nat) : Ss := .cons (.ex (.call l (.cons (.v 0) .nil)))
    (.cons (.asg (.nm 1) (.call pl (.cons (.v 0) .nil)))
    (.cons (.ret (.bi .sum (.cons (.lc (.bin .sub (.bin .mul (.ix (.v 2) (.c (.int 0))) (.ix (.v 3) (.c (.int 1)))) (.bin .mul (.ix (.v 2) (.c (.int 1))) (.ix (.v 3) (.c (.int 0))))) (.tup (.cons (.nm 2) (.cons (.nm 3) .nil))) .zip (.cons (.v 1) (.cons (.bin .add (.slF (.v 1) (.c (.int 1))) (.slT (.v 1) (.c (.int 1)))) .nil)) .nil [2, 3]) .nil))) .nil))
def bDet : Ss := .cons (.ret (.bin .sub (.bin .mul (.ix (.v 0) (.c (.int 0))) (.ix (.v 1) (.c (.int 1)))) (.bin .mul (.ix (.v 0) (.c (.int 1))) (.ix (.v 1) (.c (.int 0)))))) .nil
def bWay : Ss := .cons (.ret (.tup (.cons (.bin .sub (.ix (.v 1) (.c (.int 0))) (.ix (.v 0) (.c (.int 0)))) (.cons (.bin .sub (.ix (.v 1) (.c (.int 1))) (.ix (.v 0) (.c (.int 1)))) .nil)))) .nil
def areaT (ps : List Pt) : Int := areaL (ps.map (·.2))
theorem okT_len {ps : List Pt} (h : okT ps = true) : 1 ≤ ps.length ∧ ps.length ≤ 12 := by
  simp only [okT, Bool.and_eq_true, decide_eq_true_eq] at h
  exact h.1.1
theorem okT_pt {ps : List Pt} (h : okT ps = true) {q : Pt} (hq : q ∈ ps) : 0 ≤ q.1 ∧ q.1 ≤ 999 ∧ -99 ≤ q.2.1 ∧ q.2.1 ≤ 99 ∧ -99 ≤ q.2.2 ∧ q.2.2 ≤ 99 := by
  simp only [okT, Bool.and_eq_true, decide_eq_true_eq, List.all_eq_true] at h
  have := h.1.2 q hq
  simp only [okP, Bool.and_eq_true, decide_eq_true_eq] at this
  omega
theorem okT_of {ps : List Pt} (h1 : 1 ≤ ps.length) (h2 : ps.length ≤ 12) (h3 : ∀ q ∈ ps, okP q = true) (h4 : risesB ps = true) : okT ps = true := by
  simp only [okT, Bool.and_eq_true, decide_eq_true_eq, List.all_eq_true]
  exact ⟨⟨⟨h1, h2⟩, h3⟩, h4⟩
theorem okT_rises {ps : List Pt} (h : okT ps = true) : risesB ps = true := by
  simp only [okT, Bool.and_eq_true, decide_eq_true_eq] at h
  exact h.2
theorem okP_iff {q : Pt} : okP q = true ↔ 0 ≤ q.1 ∧ q.1 ≤ 999 ∧ -99 ≤ q.2.1 ∧ q.2.1 ≤ 99 ∧ -99 ≤ q.2.2 ∧ q.2.2 ≤ 99 := by
  simp only [okP, Bool.and_eq_true, decide_eq_true_eq]
  omega
/-- the times alone -/
def incB : List Int → Bool
  | [] => true
  | [_] => true
  | a :: b :: r => decide (a < b) && incB (b :: r)
theorem rises_inc : ∀ ps : List Pt, risesB ps = incB (ps.map (·.1))
  | [] => rfl
  | [_] => rfl
  | a :: b :: r => by
    have := rises_inc (b :: r)
    simp only [List.map_cons] at this
    show (decide (a.1 < b.1) && risesB (b :: r)) = (decide (a.1 < b.1) && incB (b.1 :: r.map (·.1)))
    rw [this]
theorem inc_pair {l : List Int} : incB l = true ↔ l.Pairwise (· < ·) := by
  induction l with
  | nil => simp [incB]
  | cons a r ih =>
    cases r with
    | nil => simp [incB]
    | cons b r =>
      rw [show incB (a :: b :: r) = (decide (a < b) && incB (b :: r)) from rfl, Bool.and_eq_true, decide_eq_true_eq, ih, List.pairwise_cons (a := a)]
      constructor
      · rintro ⟨h1, h2⟩
        refine ⟨fun x hx => ?_, h2⟩
        rcases List.mem_cons.mp hx with rfl | hx
        · exact h1
        · have := (List.pairwise_cons.mp h2).1 x hx
          omega
      · rintro ⟨h1, h2⟩
        exact ⟨h1 b List.mem_cons_self, h2⟩
theorem rises_pair {ps : List Pt} : risesB ps = true ↔ ps.Pairwise (fun a b => a.1 < b.1) := by
  rw [rises_inc, inc_pair, List.pairwise_map]
theorem okT_sub {ps qs : List Pt} (h : okT ps = true) (s : qs.Sublist ps) (h1 : 1 ≤ qs.length) : okT qs = true :=
  okT_of h1 (Nat.le_trans s.length_le (okT_len h).2) (fun q hq => okP_iff.mpr (okT_pt h (s.subset hq))) (rises_pair.mpr ((rises_pair.mp (okT_rises h)).sublist s))
theorem smInt {i : Int} (h : -1000000 ≤ i) (h2 : i ≤ 1000000) : i.natAbs < 2 ^ 64 := by omega
section
variable {rows : List DRow} {w p t l c k : Nat} {ps : List Pt}
theorem run_area {f pl : Nat} (T : Trk rows w p t l c) (hp : At rows pl ⟨1, 4, bPlaces⟩) (hf : At rows f ⟨1, 4, bArea l pl⟩) (h : okT ps = true) : runL (PTof rows) (k + 5) f [trD ps] = .ok false (.int (areaT ps)) := by
  rw [runL_at hf rfl]
  have lk := run_look (k := k) T h
  have pc := run_places (k := k + 3) (ps := ps) hp (okT_len h).2
  have e0 : (ps.map fun q : Pt => plD q.2) = (ps.map (·.2)).map plD := by rw [List.map_map]; rfl
  rw [e0] at pc
  have hb : ∀ q ∈ ps.map (·.2), -99 ≤ q.1 ∧ q.1 ≤ 99 ∧ -99 ≤ q.2 ∧ q.2 ≤ 99 := fun q hq => by
    obtain ⟨z, hz, rfl⟩ := List.mem_map.mp hq
    have := okT_pt h hz
    omega
  have hl : (ps.map (·.2)).length ≤ 12 := by rw [List.length_map]; exact (okT_len h).2
  unfold areaT
  rw [← area_zip]
  generalize ps.map (·.2) = L at *
  have z := zipD_map plD plD L (L.drop 1 ++ L.take 1)
  have m := lcGo_map (tg := .tup (.cons (.nm 2) (.cons (.nm 3) .nil))) (own := [2, 3]) (cond := evC (runL (PTof rows) (k + 4)) .nil) (elt := evE (runL (PTof rows) (k + 4)) (.bin .sub (.bin .mul (.ix (.v 2) (.c (.int 0))) (.ix (.v 3) (.c (.int 1)))) (.bin .mul (.ix (.v 2) (.c (.int 1))) (.ix (.v 3) (.c (.int 0))))))
    (enc := fun q : P2 × P2 => .tup [plD q.1, plD q.2]) (f := fun q => .int (q.1.1 * q.2.2 - q.1.2 * q.2.1)) (w := [.sh (trD ps), .lk (.lst (L.map plD)), .no, .no]) (L.zip (L.drop 1 ++ L.take 1)) []
    fun a ha => by
      obtain ⟨b1, b2⟩ := List.of_mem_zip ha
      have c1 := hb _ b1
      have m1 : mulOk a.1.1 a.2.2 := mulOk_l (smInt (by omega) (by omega))
      have m2 : mulOk a.1.2 a.2.1 := mulOk_l (smInt (by omega) (by omega))
      exact ⟨[.sh (trD ps), .lk (.lst (L.map plD)), .sh (plD a.1), .sh (plD a.2)], false, false, _, [.sh (trD ps), .lk (.lst (L.map plD)), .sh (plD a.1), .sh (plD a.2)], by simp, by rw [evC_nil], by simp [plD, m1, m2], by simp [wipeS]⟩
  have s1 := sumB_map (fun q : P2 × P2 => q.1.1 * q.2.2 - q.1.2 * q.2.1) (L.zip (L.drop 1 ++ L.take 1))
  have sz1 : (L.drop 1).length + (L.take 1).length ≤ SZ := by
    rw [List.length_drop, List.length_take]
    exact Nat.le_trans (by omega : L.length - 1 + min 1 L.length ≤ 13) (by decide)
  have sz2 : (L.zip (L.drop 1 ++ L.take 1)).length ≤ SZ := by rw [List.length_zip]; exact Nat.le_trans (Nat.le_trans (Nat.min_le_left _ _) hl) (by decide)
  rw [List.map_append, List.map_drop, List.map_take] at z
  simp only [List.nil_append] at m
  generalize L.zip (L.drop 1 ++ L.take 1) = Z at *
  have sz1' : ((L.map plD).drop 1).length + ((L.map plD).take 1).length ≤ SZ := by simpa using sz1
  generalize hM : L.map plD = M at *
  simp at sz1' z
  simp [bArea, lk, pc, evE_lc, iterD, itZip, lockAll, lockS, wipeOk, wipeS, Res.noExc, unlockAll, unlockS, backS, sz1', z, sz2, m, s1]
end
end PD
set_option maxHeartbeats 4000000
set_option maxRecDepth 10000
namespace PD
/-! F12c: shifted; draws of places; min and max. -/
def shiftP (x y : Int) (q : Pt) : Pt := (q.1, q.2.1 + x, q.2.2 + y)
section
variable {rows : List DRow} {w p t l c k : Nat} {ps : List Pt}
theorem run_shifted {f kk cN : Nat} (T : Trk rows w p t l c) (hkk : At rows kk ⟨1, 1, bLooked l⟩) (hf : At rows f ⟨3, 7, bShifted l w kk cN⟩) (h : okT ps = true) (x y : Int) (hx : -198 ≤ x ∧ x ≤ 198) (hy : -198 ≤ y ∧ y ≤ 198) (h2 : okT (ps.map (shiftP x y)) = true) :
    runL (PTof rows) (k + 6) f [trD ps, .int x, .int y] = .ok false (trD (ps.map (shiftP x y))) := by
  rw [runL_at hf rfl]
  have lk := run_look (k := k + 1) T h
  have lk2 := run_looked (k := k) T hkk h2
  have wx := run_whole (k := k + 4) T.hw x (-2 * 99) (2 * 99)
  have wy := run_whole (k := k + 4) T.hw y (-2 * 99) (2 * 99)
  have bx : (decide (-2 * 99 ≤ x) && decide (x ≤ 2 * 99)) = true := by simp; omega
  have by_ : (decide (-2 * 99 ≤ y) && decide (y ≤ 2 * 99)) = true := by simp; omega
  rw [bx] at wx
  rw [by_] at wy
  have m1 : mulOk (-2) 99 := mulOk_l (by decide)
  have m2 : mulOk 2 99 := mulOk_l (by decide)
  have sz : (2 : Nat) ≤ SZ := by decide
  have szp := sz_12 (okT_len h).2
  have m := lcGo_map (tg := .tup (.cons (.nm 4) (.cons (.nm 5) (.cons (.nm 6) .nil)))) (own := [4, 5, 6]) (cond := evC (runL (PTof rows) (k + 5)) .nil) (elt := evE (runL (PTof rows) (k + 5)) (.tup (.cons (.v 4) (.cons (.bin .add (.v 5) (.v 1)) (.cons (.bin .add (.v 6) (.v 2)) .nil))))) (enc := pD) (f := fun q => pD (shiftP x y q))
    (w := [.sh (trD ps), .sh (.int x), .sh (.int y), .no, .no, .no, .no]) ps []
    fun a _ => ⟨[.sh (trD ps), .sh (.int x), .sh (.int y), .no, .sh (.int a.1), .sh (.int a.2.1), .sh (.int a.2.2)], false, false, _, [.sh (trD ps), .sh (.int x), .sh (.int y), .no, .sh (.int a.1), .sh (.int a.2.1), .sh (.int a.2.2)], by simp [pD], by rw [evC_nil], by simp [pD, shiftP], by simp [wipeS]⟩
  have e2 : trD (ps.map (shiftP x y)) = .tup (ps.map fun q => pD (shiftP x y q)) := by unfold trD; rw [List.map_map]; rfl
  rw [e2] at lk2 ⊢
  simp only [List.nil_append] at m
  generalize (ps.map fun q => pD (shiftP x y q)) = ys at *
  have szx : (ps.map pD).length ≤ SZ := by rw [List.length_map]; exact szp
  unfold trD at m lk
  generalize hM : ps.map pD = M at *
  simp at wx wy
  simp [bShifted, trD, hM, lk, evE_lc, iterD, itSeq, itemsD, wipeOk, lockAll, wipeS, lcGo, wx, wy, m1, m2, Res.noExc, unlockAll, backS, allB, boolsD, sz, m, szx, tupleB, sh1, lk2]
theorem run_det {f : Nat} (hf : At rows f ⟨2, 2, bDet⟩) (a b : P2) (ha : a.1.natAbs < 2 ^ 64 ∧ a.2.natAbs < 2 ^ 64) : runL (PTof rows) (k + 1) f [plD a, plD b] = .ok false (.int (crP a b)) := by
  rw [runL_at hf rfl]
  have m1 : mulOk a.1 b.2 := mulOk_l ha.1
  have m2 : mulOk a.2 b.1 := mulOk_l ha.2
  simp [bDet, plD, m1, m2, crP]
theorem run_way {f : Nat} (hf : At rows f ⟨2, 2, bWay⟩) (a b : P2) : runL (PTof rows) (k + 1) f [plD a, plD b] = .ok false (plD (b.1 - a.1, b.2 - a.2)) := by
  rw [runL_at hf rfl]
  simp [bWay, plD]
end
/-! ### min and max of whole numbers -/
theorem minI_spec : ∀ (a : Int) (r : List Int), minI (a :: r) ∈ a :: r ∧ ∀ x ∈ a :: r, minI (a :: r) ≤ x := by
  have gen : ∀ (r : List Int) (m : Int), (r.foldl (fun m x => if x < m then x else m) m = m ∨ r.foldl (fun m x => if x < m then x else m) m ∈ r) ∧ r.foldl (fun m x => if x < m then x else m) m ≤ m ∧ ∀ x ∈ r, r.foldl (fun m x => if x < m then x else m) m ≤ x := by
    intro r
    induction r with
    | nil => intro m; simp
    | cons b r ih =>
      intro m
      simp only [List.foldl_cons]
      obtain ⟨h1, h2, h3⟩ := ih (if b < m then b else m)
      have hb : (if b < m then b else m) ≤ m ∧ (if b < m then b else m) ≤ b := by split <;> omega
      refine ⟨?_, ?_, ?_⟩
      · rcases h1 with h1 | h1
        · rw [h1]; split
          · exact .inr List.mem_cons_self
          · exact .inl rfl
        · exact .inr (List.mem_cons_of_mem _ h1)
      · omega
      · intro x hx
        rcases List.mem_cons.mp hx with rfl | hx
        · omega
        · exact h3 x hx
  intro a r
  obtain ⟨h1, h2, h3⟩ := gen r a
  refine ⟨?_, fun x hx => ?_⟩
  · rcases h1 with h1 | h1
    · show r.foldl _ a ∈ _; rw [h1]; exact List.mem_cons_self
    · exact List.mem_cons_of_mem _ h1
  · rcases List.mem_cons.mp hx with rfl | hx
    · exact h2
    · exact h3 x hx
theorem maxI_spec : ∀ (a : Int) (r : List Int), maxI (a :: r) ∈ a :: r ∧ ∀ x ∈ a :: r, x ≤ maxI (a :: r) := by
  have gen : ∀ (r : List Int) (m : Int), (r.foldl (fun m x => if x > m then x else m) m = m ∨ r.foldl (fun m x => if x > m then x else m) m ∈ r) ∧ m ≤ r.foldl (fun m x => if x > m then x else m) m ∧ ∀ x ∈ r, x ≤ r.foldl (fun m x => if x > m then x else m) m := by
    intro r
    induction r with
    | nil => intro m; simp
    | cons b r ih =>
      intro m
      simp only [List.foldl_cons]
      obtain ⟨h1, h2, h3⟩ := ih (if b > m then b else m)
      have hb : m ≤ (if b > m then b else m) ∧ b ≤ (if b > m then b else m) := by split <;> omega
      refine ⟨?_, ?_, ?_⟩
      · rcases h1 with h1 | h1
        · rw [h1]; split
          · exact .inr List.mem_cons_self
          · exact .inl rfl
        · exact .inr (List.mem_cons_of_mem _ h1)
      · omega
      · intro x hx
        rcases List.mem_cons.mp hx with rfl | hx
        · omega
        · exact h3 x hx
  intro a r
  obtain ⟨h1, h2, h3⟩ := gen r a
  refine ⟨?_, fun x hx => ?_⟩
  · rcases h1 with h1 | h1
    · show r.foldl _ a ∈ _; rw [h1]; exact List.mem_cons_self
    · exact List.mem_cons_of_mem _ h1
  · rcases List.mem_cons.mp hx with rfl | hx
    · exact h2
    · exact h3 x hx
theorem minB_map {α : Type} (g : α → Int) (a : α) (r : List α) : minB [.lst ((a :: r).map fun a => D.int (g a))] = some (false, .int (minI ((a :: r).map g))) := by
  simp only [minB, intsD_map]
  rfl
theorem maxB_map {α : Type} (g : α → Int) (a : α) (r : List α) : maxB [.lst ((a :: r).map fun a => D.int (g a))] = some (false, .int (maxI ((a :: r).map g))) := by
  simp only [maxB, intsD_map]
  rfl
/-! ### distinct ones -/
theorem dedI_foldl : ∀ (l acc : List Int), l.Nodup → (∀ x ∈ l, x ∉ acc) → l.foldl (fun σ k => if σ.any (· == k) then σ else σ ++ [k]) acc = acc ++ l
  | [], acc, _, _ => by simp
  | a :: r, acc, h, h2 => by
    rw [List.nodup_cons] at h
    have ha : ¬ acc.any (· == a) = true := by
      rw [List.any_eq_true]
      rintro ⟨x, hx, e⟩
      rw [beq_iff_eq.mp e] at hx
      exact h2 a List.mem_cons_self hx
    rw [List.foldl_cons, if_neg ha, dedI_foldl r (acc ++ [a]) h.2 (fun x hx hm => by
      rcases List.mem_append.mp hm with hm | hm
      · exact h2 x (List.mem_cons_of_mem _ hx) hm
      · rw [List.mem_singleton] at hm; subst hm; exact h.1 hx), List.append_assoc]
    rfl
theorem dedI_nodup {l : List Int} (h : l.Nodup) : dedI l = l := by
  unfold dedI
  rw [dedI_foldl l [] h (fun _ _ h => by cases h)]
  rfl
theorem dedI_len : ∀ (l acc : List Int), (l.foldl (fun σ k => if σ.any (· == k) then σ else σ ++ [k]) acc).length ≤ acc.length + l.length
  | [], acc => by simp
  | a :: r, acc => by
    rw [List.foldl_cons]
    refine Nat.le_trans (dedI_len r _) ?_
    split
    · simp
    · simp; omega
theorem dedI_twice (a : Int) (r : List Int) : (dedI (a :: a :: r)).length < (a :: a :: r).length := by
  unfold dedI
  simp only [List.foldl_cons, List.any_nil, Bool.false_eq_true, if_false, List.nil_append, List.any_cons, beq_self_eq_true, Bool.true_or, if_true]
  have := dedI_len r [a]
  simp at this ⊢
  omega
theorem lenSetB_map {α : Type} (g : α → Int) (l : List α) (h : l.length ≤ 63) : lenSetB [.lst (l.map fun a => D.int (g a))] = some (false, .int (dedI (l.map g)).length) := by
  have e : (l.map g).length ≤ 63 := by rw [List.length_map]; exact h
  simp only [lenSetB, intsD_map, e, if_true]
end PD
set_option maxHeartbeats 4000000
set_option maxRecDepth 10000
namespace PD
/-! F13: bends. -/
mutual
theorem dEq_self : ∀ (d : D) (n : Nat), okN n d = true → dEq d d = true
  | .non, _, _ => rfl
  | .bl b, _, _ => by simp [dEq]
  | .int i, _, _ => by simp [dEq]
  | .str x, _, _ => by simp [dEq]
  | .tup xs, n, h => by obtain ⟨m, rfl, h⟩ := okN_tup h; simp only [dEq]; exact dEqs_self xs m h
  | .lst xs, n, h => by obtain ⟨m, rfl, h⟩ := okN_lst h; simp only [dEq]; exact dEqs_self xs m h
  | .scr _, n, h => by cases n <;> simp [okN] at h
  | .dic _ _, n, h => by cases n <;> simp [okN] at h
  | .exc _, n, h => by cases n <;> simp [okN] at h
theorem dEqs_self : ∀ (ds : List D) (n : Nat), ds.all (okN n) = true → dEqs ds ds = true
  | [], _, _ => rfl
  | d :: r, n, h => by
    rw [List.all_cons, Bool.and_eq_true] at h
    simp only [dEqs, dEq_self d n h.1, dEqs_self r n h.2, Bool.and_self]
end
theorem eqD_self {d : D} (h : okN 60 d = true) : eqD d d = some true := by
  have e : eqD d d = if okN 60 d && okN 60 d then some (dEq d d) else none := by
    cases d <;> first | rfl | (simp [okN] at h)
  rw [e, h, dEq_self d 60 h]
  rfl
def cr3 (p q r : P2) : Int := (q.1 - p.1) * (r.2 - p.2) - (q.2 - p.2) * (r.1 - p.1)
def on3 (p q r : P2) : Int := (q.1 - p.1) * (r.1 - q.1) + (q.2 - p.2) * (r.2 - q.2)
/-- how one turns -/
inductive Bd where
  | rest | left | right | on | back
def bd3 (p q r : P2) : Bd := if p = q ∨ q = r then .rest else if cr3 p q r ≠ 0 then (if 0 < cr3 p q r then .left else .right) else if 0 < on3 p q r then .on else .back
def Bd.word : Bd → PySem.Str
  | .rest => "rest" | .left => "left" | .right => "right" | .on => "on" | .back => "back"
def Bd.swap : Bd → Bd
  | .left => .right | .right => .left | b => b
def bdD (b : Bd) : D := .str b.word
def bCrossed : Ss := .cons (.ret (.bin .sub (.bin .mul (.bin .sub (.ix (.v 1) (.c (.int 0))) (.ix (.v 0) (.c (.int 0)))) (.bin .sub (.ix (.v 2) (.c (.int 1))) (.ix (.v 0) (.c (.int 1))))) (.bin .mul (.bin .sub (.ix (.v 1) (.c (.int 1))) (.ix (.v 0) (.c (.int 1)))) (.bin .sub (.ix (.v 2) (.c (.int 0))) (.ix (.v 0) (.c (.int 0))))))) .nil
def bBend (c : Nat) : Ss := .cons (.iff (.or (.cmp .eq (.v 0) (.v 1)) (.cmp .eq (.v 1) (.v 2))) (.cons (.ret (.c (.str "rest"))) .nil) .nil)
    (.cons (.asg (.nm 3) (.call c (.cons (.v 0) (.cons (.v 1) (.cons (.v 2) .nil)))))
    (.cons (.iff (.cmp .ne (.v 3) (.c (.int 0))) (.cons (.ret (.ite (.cmp .gt (.v 3) (.c (.int 0))) (.c (.str "left")) (.c (.str "right")))) .nil) .nil)
    (.cons (.asg (.nm 4) (.bin .add (.bin .mul (.bin .sub (.ix (.v 1) (.c (.int 0))) (.ix (.v 0) (.c (.int 0)))) (.bin .sub (.ix (.v 2) (.c (.int 0))) (.ix (.v 1) (.c (.int 0))))) (.bin .mul (.bin .sub (.ix (.v 1) (.c (.int 1))) (.ix (.v 0) (.c (.int 1)))) (.bin .sub (.ix (.v 2) (.c (.int 1))) (.ix (.v 1) (.c (.int 1)))))))
    (.cons (.ret (.ite (.cmp .gt (.v 4) (.c (.int 0))) (.c (.str "on")) (.c (.str "back")))) .nil))))
def bBends (l pl b : Nat) : Ss := .cons (.ex (.call l (.cons (.v 0) .nil)))
    (.cons (.asg (.nm 1) (.call pl (.cons (.v 0) .nil)))
    (.cons (.ret (.lc (.call b (.cons (.ix (.v 1) (.bin .sub (.v 2) (.c (.int 1)))) (.cons (.ix (.v 1) (.v 2)) (.cons (.ix (.v 1) (.bin .add (.v 2) (.c (.int 1)))) .nil)))) (.nm 2) .range (.cons (.c (.int 1)) (.cons (.bin .sub (.bi .len (.cons (.v 1) .nil)) (.c (.int 1))) .nil)) .nil [2])) .nil))
/-- small places -/
def smP (q : P2) : Prop := -99 ≤ q.1 ∧ q.1 ≤ 99 ∧ -99 ≤ q.2 ∧ q.2 ≤ 99
theorem eqD_pl {p q : P2} : eqD (plD p) (plD q) = some (decide (p = q)) := by
  unfold plD
  rw [eqD_pair]
  congr 1
  rw [decide_eq_decide]
  exact ⟨fun h => Prod.ext h.1 h.2, fun h => by subst h; exact ⟨rfl, rfl⟩⟩
def bendsL (L : List P2) : List Bd := (List.range (L.length - 2)).map fun j => bd3 (L.getD j (0, 0)) (L.getD (j + 1) (0, 0)) (L.getD (j + 2) (0, 0))
section
variable {rows : List DRow} {k : Nat}
theorem run_crossed {f : Nat} (hf : At rows f ⟨3, 3, bCrossed⟩) (p q r : P2) (hp : smP p) (hq : smP q) (hr : smP r) : runL (PTof rows) (k + 1) f [plD p, plD q, plD r] = .ok false (.int (cr3 p q r)) := by
  rw [runL_at hf rfl]
  unfold smP at *
  have m1 : mulOk (q.1 - p.1) (r.2 - p.2) := mulOk_l (smInt (by omega) (by omega))
  have m2 : mulOk (q.2 - p.2) (r.1 - p.1) := mulOk_l (smInt (by omega) (by omega))
  simp [bCrossed, plD, m1, m2, cr3]
theorem run_bend {f c : Nat} (hc : At rows c ⟨3, 3, bCrossed⟩) (hf : At rows f ⟨3, 5, bBend c⟩) (p q r : P2) (hp : smP p) (hq : smP q) (hr : smP r) : runL (PTof rows) (k + 2) f [plD p, plD q, plD r] = .ok false (bdD (bd3 p q r)) := by
  rw [runL_at hf rfl]
  have c1 := run_crossed (k := k) hc p q r hp hq hr
  have e1 := eqD_pl (p := p) (q := q)
  have e2 := eqD_pl (p := q) (q := r)
  by_cases h1 : p = q
  · simp [bBend, h1, eqD_pl, bd3, bdD, Bd.word]
  by_cases h2 : q = r
  · simp [bBend, h1, h2, eqD_pl, bd3, bdD, Bd.word]
  by_cases h3 : cr3 p q r = 0
  case neg =>
    by_cases h4 : 0 < cr3 p q r
    · simp [bBend, h1, h2, e1, e2, c1, h3, h4, bd3, bdD, Bd.word]
    · simp [bBend, h1, h2, e1, e2, c1, h3, h4, bd3, bdD, Bd.word]
  unfold smP at *
  have m1 : mulOk (q.1 - p.1) (r.1 - q.1) := mulOk_l (smInt (by omega) (by omega))
  have m2 : mulOk (q.2 - p.2) (r.2 - q.2) := mulOk_l (smInt (by omega) (by omega))
  have x0 : ∀ z : P2, ixD (plD z) (.int 0) = some (.int z.1) := fun z => atD0
  have x1 : ∀ z : P2, ixD (plD z) (.int 1) = some (.int z.2) := fun z => atD1
  by_cases h4 : 0 < on3 p q r
  · have h4' := h4
    unfold on3 at h4'
    simp [bBend, h1, h2, e1, e2, c1, h3, h4, bd3, bdD, Bd.word, x0, x1, m1, m2, h4']
  · have h4' := h4
    unfold on3 at h4'
    simp [bBend, h1, h2, e1, e2, c1, h3, h4, bd3, bdD, Bd.word, x0, x1, m1, m2, h4']
theorem ixD_at {L : List P2} {j : Nat} {i : Int} (hi : i = (j : Int)) (h : j < L.length) : ixD (.lst (L.map plD)) (.int i) = some (plD (L.getD j (0, 0))) := by
  subst hi
  rw [ixD_lst, atD_nat, List.getElem?_map, List.getD_eq_getElem?_getD]
  simp [h]
theorem run_bends {w p t l c f pl b cc : Nat} {ps : List Pt} (T : Trk rows w p t l c) (hp : At rows pl ⟨1, 4, bPlaces⟩) (hc : At rows cc ⟨3, 3, bCrossed⟩) (hb : At rows b ⟨3, 5, bBend cc⟩) (hf : At rows f ⟨1, 3, bBends l pl b⟩) (h : okT ps = true) :
    runL (PTof rows) (k + 5) f [trD ps] = .ok true (.lst ((bendsL (ps.map (·.2))).map bdD)) := by
  rw [runL_at hf rfl]
  have lk := run_look (k := k) T h
  have pc := run_places (k := k + 3) (ps := ps) hp (okT_len h).2
  have e0 : (ps.map fun q : Pt => plD q.2) = (ps.map (·.2)).map plD := by rw [List.map_map]; rfl
  rw [e0] at pc
  have hbd : ∀ q ∈ ps.map (·.2), smP q := fun q hq => by
    obtain ⟨z, hz, rfl⟩ := List.mem_map.mp hq
    have := okT_pt h hz
    unfold smP
    omega
  have hl1 : 1 ≤ (ps.map (·.2)).length := by rw [List.length_map]; exact (okT_len h).1
  have hl : (ps.map (·.2)).length ≤ 12 := by rw [List.length_map]; exact (okT_len h).2
  generalize ps.map (·.2) = L at *
  have hg : ∀ j, j < L.length → smP (L.getD j (0, 0)) := fun j hj => hbd _ (by rw [List.getD_eq_getElem?_getD]; simp [hj])
  have m := lcGo_map (tg := .nm 2) (own := [2]) (cond := evC (runL (PTof rows) (k + 4)) .nil) (elt := evE (runL (PTof rows) (k + 4)) (.call b (.cons (.ix (.v 1) (.bin .sub (.v 2) (.c (.int 1)))) (.cons (.ix (.v 1) (.v 2)) (.cons (.ix (.v 1) (.bin .add (.v 2) (.c (.int 1)))) .nil)))))
    (enc := fun j : Nat => .int (1 + (j : Int))) (f := fun j => bdD (bd3 (L.getD j (0, 0)) (L.getD (j + 1) (0, 0)) (L.getD (j + 2) (0, 0)))) (w := [.sh (trD ps), .ow (.lst (L.map plD)), .no]) (List.range (L.length - 2)) []
    fun j hj => by
      have hj := List.mem_range.mp hj
      have i1 := ixD_at (L := L) (j := j) (i := 1 + (j : Int) - 1) (by omega) (by omega)
      have i2 := ixD_at (L := L) (j := j + 1) (i := 1 + (j : Int)) (by omega) (by omega)
      have i3 := ixD_at (L := L) (j := j + 2) (i := 1 + (j : Int) + 1) (by omega) (by omega)
      have r1 := run_bend (k := k + 2) hc hb (L.getD j (0, 0)) (L.getD (j + 1) (0, 0)) (L.getD (j + 2) (0, 0)) (hg _ (by omega)) (hg _ (by omega)) (hg _ (by omega))
      refine ⟨[.sh (trD ps), .ow (.lst (L.map plD)), .sh (.int (1 + (j : Int)))], false, false, _, [.sh (trD ps), .ow (.lst (L.map plD)), .sh (.int (1 + (j : Int)))], by simp, by rw [evC_nil], ?_, by simp [wipeS]⟩
      generalize L.getD j (0, 0) = g1 at *
      generalize L.getD (j + 1) (0, 0) = g2 at *
      generalize L.getD (j + 2) (0, 0) = g3 at *
      generalize L.map plD = M at *
      simp only [ixD_lst] at i1 i2 i3
      simp [i1, i2, i3, r1]
  have hr1 : rngOk 1 := rngOk_of (by omega) (by omega)
  have hr2 : rngOk ((L.length : Int) - 1) := rngOk_of (by omega) (by omega)
  have it : iterD .range [.int 1, .int ((L.length : Int) - 1)] = some ((List.range (L.length - 2)).map fun j : Nat => .int (1 + (j : Int))) := by
    show (if rngOk 1 ∧ rngOk ((L.length : Int) - 1) then some (rangeL 1 (((L.length : Int) - 1) - 1).toNat) else none) = _
    rw [if_pos ⟨hr1, hr2⟩]
    unfold rangeL
    rw [show (((L.length : Int) - 1) - 1).toNat = L.length - 2 by omega]
  have sz : ((List.range (L.length - 2)).map fun j : Nat => D.int (1 + (j : Int))).length ≤ SZ := by rw [List.length_map, List.length_range]; exact Nat.le_trans (show L.length - 2 ≤ 12 by omega) (by decide)
  have lm : (L.map plD).length = L.length := List.length_map ..
  have er : (bendsL L).map bdD = (List.range (L.length - 2)).map fun j => bdD (bd3 (L.getD j (0, 0)) (L.getD (j + 1) (0, 0)) (L.getD (j + 2) (0, 0))) := by unfold bendsL; rw [List.map_map]; rfl
  rw [er]
  simp only [List.nil_append] at m
  generalize ((List.range (L.length - 2)).map fun j => bdD (bd3 (L.getD j (0, 0)) (L.getD (j + 1) (0, 0)) (L.getD (j + 2) (0, 0)))) = R at *
  generalize ((List.range (L.length - 2)).map fun j : Nat => D.int (1 + (j : Int))) = Z at *
  generalize L.map plD = M at *
  simp [bBends, lk, pc, evE_lc, lm, it, lockAll, wipeOk, wipeS, Res.noExc, unlockAll, backS, sz, m]
end
end PD
set_option maxHeartbeats 4000000
set_option maxRecDepth 10000
namespace PD
/-! F14: fractions as rationals. -/
def qD (r : Rat) : D := .tup [.int r.num, .int (r.den : Int)]
theorem qD_fr (r : Rat) : qD r = frD r.num r.den := by
  have hd : r.den ≠ 0 := r.den_nz
  have hg : Int.gcd r.num (r.den : Int) = 1 := r.reduced
  unfold qD frD nU nV
  rw [hg]
  simp
theorem fr_q (u v : Int) (hv : 0 < v) : frD u v = qD ((u : Rat) / (v : Rat)) := by
  rw [← Rat.divInt_eq_div]
  unfold qD frD nU nV
  rw [Rat.num_divInt, Rat.den_divInt, if_neg (by omega), Int.sign_eq_one_of_pos hv, Int.one_mul, Int.gcd_comm v u]
  congr 2
  congr 1
  congr 1
  rw [Int.natCast_ediv]
  congr 1
  omega
theorem fr_parts (u v : Int) (hv : 0 < v) : ((u : Rat) / (v : Rat)).num = nU u v ∧ ((((u : Rat) / (v : Rat)).den : Nat) : Int) = nV u v := by
  have := fr_q u v hv
  unfold frD qD at this
  simp only [D.tup.injEq, List.cons.injEq, D.int.injEq, and_true] at this
  exact ⟨this.1.symm, this.2.symm⟩
/-- both parts below 2 ^ n -/
def SmQ (n : Nat) (r : Rat) : Prop := Sm n r.num ∧ Sm n (r.den : Int)
theorem den_pos (r : Rat) : (0 : Int) < (r.den : Int) := by have := r.den_nz; omega
theorem q_div (r : Rat) : r = (r.num : Rat) / ((r.den : Int) : Rat) := by
  have := Rat.divInt_eq_div r.num (r.den : Int)
  rw [← this]
  exact (Rat.num_divInt_den r).symm
theorem SmQ.of_div {n : Nat} {u v : Int} (hv : 0 < v) (h1 : Sm n u) (h2 : Sm n v) : SmQ n ((u : Rat) / (v : Rat)) := by
  obtain ⟨a, b⟩ := fr_parts u v hv
  unfold SmQ
  rw [a, b]
  exact ⟨h1.nU hv, h2.nV hv⟩
theorem SmQ.mono {n m : Nat} {r : Rat} (h : SmQ n r) (l : n ≤ m) : SmQ m r := ⟨h.1.mono l, h.2.mono l⟩
theorem den_ne (a : Rat) : ((a.den : Int) : Rat) ≠ 0 := by have := a.den_nz; exact fun h => this (by exact_mod_cast h)
theorem q_add (a b : Rat) : (((a.num * b.den + b.num * a.den : Int)) : Rat) / (((a.den : Int) * b.den : Int) : Rat) = a + b := by
  have e1 := q_div a
  have e2 := q_div b
  have n1 := den_ne a
  have n2 := den_ne b
  rw [Rat.intCast_add, Rat.intCast_mul, Rat.intCast_mul, Rat.intCast_mul]
  grind
theorem q_sub (a b : Rat) : (((a.num * b.den - b.num * a.den : Int)) : Rat) / (((a.den : Int) * b.den : Int) : Rat) = a - b := by
  have e1 := q_div a
  have e2 := q_div b
  have n1 := den_ne a
  have n2 := den_ne b
  rw [Rat.intCast_sub, Rat.intCast_mul, Rat.intCast_mul, Rat.intCast_mul]
  grind
theorem q_mul (a b : Rat) : (((a.num * b.num : Int)) : Rat) / (((a.den : Int) * b.den : Int) : Rat) = a * b := by
  have e1 := q_div a
  have e2 := q_div b
  have n1 := den_ne a
  have n2 := den_ne b
  rw [Rat.intCast_mul, Rat.intCast_mul]
  grind
theorem SmQ.add {m n : Nat} {a b : Rat} (ha : SmQ m a) (hb : SmQ n b) : SmQ (m + n + 1) (a + b) := by
  rw [← q_add]
  refine .of_div (Int.mul_pos (den_pos a) (den_pos b)) ((ha.1.mul hb.2).add ((hb.1.mul ha.2).mono (by omega))) ((ha.2.mul hb.2).mono (by omega))
theorem SmQ.sub {m n : Nat} {a b : Rat} (ha : SmQ m a) (hb : SmQ n b) : SmQ (m + n + 1) (a - b) := by
  rw [← q_sub]
  refine .of_div (Int.mul_pos (den_pos a) (den_pos b)) ((ha.1.mul hb.2).sub ((hb.1.mul ha.2).mono (by omega))) ((ha.2.mul hb.2).mono (by omega))
theorem SmQ.mul {m n : Nat} {a b : Rat} (ha : SmQ m a) (hb : SmQ n b) : SmQ (m + n) (a * b) := by
  rw [← q_mul]
  exact .of_div (Int.mul_pos (den_pos a) (den_pos b)) (ha.1.mul hb.1) (ha.2.mul hb.2)
theorem SmQ.int {n : Nat} {i : Int} (h : Sm n i) (hn : 1 ≤ n) : SmQ n (i : Rat) := by
  refine ⟨h, ?_⟩
  show Sm n ((1 : Nat) : Int)
  exact Sm.mono (n := 1) (by unfold Sm; decide) hn
theorem eqD_q {a b : Rat} : eqD (qD a) (qD b) = some (decide (a = b)) := by
  unfold qD
  rw [eqD_pair]
  congr 1
  rw [decide_eq_decide]
  constructor
  · intro h; exact Rat.ext h.1 (by have := h.2; omega)
  · intro h; subst h; exact ⟨rfl, rfl⟩
section
variable {rows : List DRow} {f s k m n : Nat} {a b : Rat}
theorem run_shareQ (hs : At rows s ⟨2, 4, bShare⟩) (u v : Int) (hv : 0 < v) (hb : v.natAbs < BIG) : runL (PTof rows) (k + 1) s [.int u, .int v] = .ok false (qD ((u : Rat) / (v : Rat))) := by
  obtain ⟨r, h1, h2⟩ := hs
  rw [run_share h1 h2 u v hv hb, fr_q u v hv]
theorem run_shareI (hs : At rows s ⟨2, 4, bShare⟩) (u : Int) : runL (PTof rows) (k + 1) s [.int u, .int 1] = .ok false (qD (u : Rat)) := by
  rw [run_shareQ hs u 1 (by decide) (by unfold BIG; exact Nat.one_lt_two_pow (by decide))]
  congr 2
  have : ((1 : Int) : Rat) = 1 := rfl
  rw [this]
  grind
theorem run_plusQ (hf : At rows f ⟨2, 2, bPlus s⟩) (hs : At rows s ⟨2, 4, bShare⟩) (ha : SmQ m a) (hb : SmQ n b) (hn : m + n ≤ 4000) : runL (PTof rows) (k + 2) f [qD a, qD b] = .ok false (qD (a + b)) := by
  rw [runL_at hf rfl]
  have m1 := ha.1.ok hb.2 (by omega) (by omega)
  have m2 := hb.1.ok ha.2 (by omega) (by omega)
  have m3 := ha.2.ok hb.2 (by omega) (by omega)
  have q := run_shareQ (k := k) hs (a.num * b.den + b.num * a.den) ((a.den : Int) * b.den) (Int.mul_pos (den_pos a) (den_pos b)) ((ha.2.mul hb.2).big hn)
  rw [q_add] at q
  simp [bPlus, qD, m1, m2, m3] at q ⊢
  rw [q]
  simp
theorem run_minusQ (hf : At rows f ⟨2, 2, bMinus s⟩) (hs : At rows s ⟨2, 4, bShare⟩) (ha : SmQ m a) (hb : SmQ n b) (hn : m + n ≤ 4000) : runL (PTof rows) (k + 2) f [qD a, qD b] = .ok false (qD (a - b)) := by
  rw [runL_at hf rfl]
  have m1 := ha.1.ok hb.2 (by omega) (by omega)
  have m2 := hb.1.ok ha.2 (by omega) (by omega)
  have m3 := ha.2.ok hb.2 (by omega) (by omega)
  have q := run_shareQ (k := k) hs (a.num * b.den - b.num * a.den) ((a.den : Int) * b.den) (Int.mul_pos (den_pos a) (den_pos b)) ((ha.2.mul hb.2).big hn)
  rw [q_sub] at q
  simp [bMinus, qD, m1, m2, m3] at q ⊢
  rw [q]
  simp
theorem run_timesQ (hf : At rows f ⟨2, 2, bTimes s⟩) (hs : At rows s ⟨2, 4, bShare⟩) (ha : SmQ m a) (hb : SmQ n b) (hn : m + n ≤ 4000) : runL (PTof rows) (k + 2) f [qD a, qD b] = .ok false (qD (a * b)) := by
  rw [runL_at hf rfl]
  have m1 := ha.1.ok hb.1 (by omega) (by omega)
  have m3 := ha.2.ok hb.2 (by omega) (by omega)
  have q := run_shareQ (k := k) hs (a.num * b.num) ((a.den : Int) * b.den) (Int.mul_pos (den_pos a) (den_pos b)) ((ha.2.mul hb.2).big hn)
  rw [q_mul] at q
  simp [bTimes, qD, m1, m3] at q ⊢
  rw [q]
  simp
theorem run_lessQ (hf : At rows f ⟨2, 2, bLess⟩) (ha : SmQ m a) (hb : SmQ n b) (hn : m + n ≤ 4000) : runL (PTof rows) (k + 1) f [qD a, qD b] = .ok false (.bl (decide (a < b))) := by
  rw [runL_at hf rfl]
  have m1 := ha.1.ok hb.2 (by omega) (by omega)
  have m2 := hb.1.ok ha.2 (by omega) (by omega)
  have e := Rat.lt_iff a b
  simp [bLess, qD, m1, m2, e]
end
/-- a for loop, turn by turn -/
theorem forGo_ix {α : Type} {tg : Tg} {b : List Slot → RS} {enc : α → D} {I : Nat → List Slot → Prop} : ∀ (l : List α) (i : Nat) (st : List Slot),
    (∀ j a st, l[j]? = some a → I (i + j) st → ∃ st1 st2, bind tg (enc a) st = some st1 ∧ b st1 = .ok .nx st2 ∧ I (i + j + 1) st2) → I i st → ∃ st', forGo tg b (l.map enc) st = .ok .nx st' ∧ I (i + l.length) st'
  | [], i, st, _, h => ⟨st, rfl, h⟩
  | a :: r, i, st, h, hi => by
    obtain ⟨st1, st2, h1, h2, h3⟩ := h 0 a st rfl hi
    obtain ⟨st', h4, h5⟩ := forGo_ix r (i + 1) st2 (fun j c st hj hc => by
      obtain ⟨s1, s2, q⟩ := h (j + 1) c st (by simpa using hj) (by rw [show i + (j + 1) = i + 1 + j by omega]; exact hc)
      exact ⟨s1, s2, q.1, q.2.1, by rw [show i + 1 + j + 1 = i + (j + 1) + 1 by omega]; exact q.2.2⟩) h3
    refine ⟨st', ?_, by rw [List.length_cons, show i + (r.length + 1) = i + 1 + r.length by omega]; exact h5⟩
    simp only [List.map_cons, forGo, h1, h2, th_ok']
    exact h4
/-- .. which may end with an answer -/
theorem forGo_find {α : Type} {tg : Tg} {b : List Slot → RS} {enc : α → D} {I : List Slot → Prop} {p : α → Bool} {fr : Bool} {d : D} : ∀ (l : List α) (st : List Slot),
    (∀ a st, a ∈ l → I st → ∃ st1 st2, bind tg (enc a) st = some st1 ∧ b st1 = (if p a then .ok (.rt fr d) st2 else .ok .nx st2) ∧ I st2) → I st → ∃ st', forGo tg b (l.map enc) st = (if l.any p then .ok (.rt fr d) st' else .ok .nx st') ∧ I st'
  | [], st, _, h => ⟨st, rfl, h⟩
  | a :: r, st, h, hi => by
    obtain ⟨st1, st2, h1, h2, h3⟩ := h a st List.mem_cons_self hi
    cases e : p a with
    | true =>
      rw [e] at h2
      exact ⟨st2, by simp [forGo, h1, h2, e], h3⟩
    | false =>
      rw [e] at h2
      obtain ⟨st', h4, h5⟩ := forGo_find r st2 (fun c st hc => h c st (List.mem_cons_of_mem _ hc)) h3
      exact ⟨st', by simp [forGo, h1, h2, e, h4], h5⟩
theorem foldl_take {α β : Type} (f : β → α → β) (s : β) {l : List α} {j : Nat} {a : α} (h : l[j]? = some a) : (l.take (j + 1)).foldl f s = f ((l.take j).foldl f s) a := by
  rw [List.take_add_one, h, List.foldl_append]
  rfl
end PD
set_option maxHeartbeats 4000000
set_option maxRecDepth 10000
namespace PD
/-! F50: any things: is_whole, is_point, is_track, the law's own walks. -/
/-- things of whole numbers, truths, None, texts, lists and tuples -/
def clean (d : D) : Prop := okN 60 d = true
theorem clean_int {i : Int} : clean (.int i) := okN_int
theorem clean_bl {b : Bool} : clean (.bl b) := okN_bl
theorem clean_non : clean .non := okN_non
@[simp] theorem biD_isInt {d : D} (h : clean d) : biD .isInt [d] = some (false, .bl (isD .isInt d)) := by cases d <;> first | rfl | (simp [clean, okN] at h; done)
@[simp] theorem biD_isBool {d : D} (h : clean d) : biD .isBool [d] = some (false, .bl (isD .isBool d)) := by cases d <;> first | rfl | (simp [clean, okN] at h; done)
@[simp] theorem biD_isTuple {d : D} (h : clean d) : biD .isTuple [d] = some (false, .bl (isD .isTuple d)) := by cases d <;> first | rfl | (simp [clean, okN] at h; done)
@[simp] theorem biD_isList {d : D} (h : clean d) : biD .isList [d] = some (false, .bl (isD .isList d)) := by cases d <;> first | rfl | (simp [clean, okN] at h; done)
@[simp] theorem biD_isStr {d : D} (h : clean d) : biD .isStr [d] = some (false, .bl (isD .isStr d)) := by cases d <;> first | rfl | (simp [clean, okN] at h; done)
/-- a whole number within bounds -/
def isWh (lo hi : Int) : D → Bool
  | .int i => decide (lo ≤ i) && decide (i ≤ hi)
  | _ => false
theorem isWh_e {lo hi : Int} {d : D} (h : isWh lo hi d = true) : ∃ i, d = .int i ∧ lo ≤ i ∧ i ≤ hi := by
  cases d <;> simp [isWh] at h
  exact ⟨_, rfl, h⟩
def toPt : D → Option Pt
  | .tup [.int a, .int b, .int c] => some (a, b, c)
  | _ => none
theorem toPt_e {d : D} {p : Pt} (h : toPt d = some p) : d = pD p := by
  unfold toPt at h
  split at h
  · cases h; rfl
  · cases h
/-- a point -/
def isPtD (d : D) : Bool := match toPt d with | some p => okP p | none => false
def toPts : List D → Option (List Pt)
  | [] => some []
  | d :: r => match toPt d, toPts r with
    | some p, some ps => some (p :: ps)
    | _, _ => none
theorem toPts_e : ∀ {ds : List D} {ps : List Pt}, toPts ds = some ps → ds = ps.map pD
  | [], ps, h => by simp [toPts] at h; subst h; rfl
  | d :: r, ps, h => by
    simp only [toPts] at h
    split at h
    · rename_i p qs h1 h2
      cases h
      rw [toPt_e h1, toPts_e h2]; rfl
    · cases h
theorem toPts_map : ∀ ps : List Pt, toPts (ps.map pD) = some ps
  | [] => rfl
  | p :: ps => by simp [toPts, toPts_map ps, toPt, pD]
theorem toPts_all : ∀ {ds : List D}, ds.all isPtD = true → ∃ ps, toPts ds = some ps ∧ ps.all okP = true
  | [], _ => ⟨[], rfl, rfl⟩
  | d :: r, h => by
    rw [List.all_cons, Bool.and_eq_true] at h
    obtain ⟨ps, h1, h2⟩ := toPts_all h.2
    have h3 := h.1
    unfold isPtD at h3
    split at h3
    · rename_i p e
      exact ⟨p :: ps, by simp [toPts, e, h1], by simp [h3, h2]⟩
    · cases h3
/-- a track -/
def isTrD : D → Bool
  | .tup xs => match toPts xs with | some ps => okT ps | none => false
  | _ => false
theorem isTrD_e {d : D} (h : isTrD d = true) : ∃ ps, d = trD ps ∧ okT ps = true := by
  cases d <;> simp [isTrD] at h
  split at h
  · rename_i ps e
    exact ⟨ps, by rw [toPts_e e]; rfl, h⟩
  · cases h
theorem isTrD_tr (ps : List Pt) : isTrD (trD ps) = okT ps := by simp [isTrD, trD, toPts_map]
theorem clean_tup {xs : List D} (h : clean (.tup xs)) : ∀ x ∈ xs, clean x := by
  obtain ⟨m, e, h⟩ := okN_tup h
  intro x hx
  have := okN_up (List.all_eq_true.mp h x hx)
  have e : m + 1 = 60 := e.symm
  rw [e] at this; exact this
theorem clean_lst {xs : List D} (h : clean (.lst xs)) : ∀ x ∈ xs, clean x := by
  obtain ⟨m, e, h⟩ := okN_lst h
  intro x hx
  have := okN_up (List.all_eq_true.mp h x hx)
  have e : m + 1 = 60 := e.symm
  rw [e] at this; exact this
section
variable {rows : List DRow} {w p t l c k : Nat}
theorem run_wholeD (h : At rows w ⟨3, 3, bWhole⟩) {d : D} (hd : clean d) (lo hi : Int) : runL (PTof rows) (k + 1) w [d, .int lo, .int hi] = .ok false (.bl (isWh lo hi d)) := by
  cases d with
  | int i => exact run_whole h i lo hi
  | _ => rw [runL_at h rfl]; simp [bWhole, hd, isD, isWh]
theorem isPtD_3 {a b c : D} : isPtD (.tup [a, b, c]) = (isWh 0 999 a && (isWh (-99) 99 b && isWh (-99) 99 c)) := by
  cases a with
  | int i => cases b with
    | int j => cases c with
      | int n => simp [isPtD, toPt, okP, isWh, Bool.and_assoc]
      | _ => simp [isPtD, toPt, isWh]
    | _ => cases c <;> simp [isPtD, toPt, isWh]
  | _ => simp [isPtD, toPt, isWh]
theorem isPtD_len {xs : List D} (h : xs.length ≠ 3) : isPtD (.tup xs) = false := by
  unfold isPtD toPt
  split
  · rename_i p e
    split at e
    · rename_i e2; cases e2; simp at h
    · cases e
  · rfl
theorem isPtD_no {d : D} (h : isD .isTuple d = false) : isPtD d = false := by
  cases d <;> first | rfl | simp [isD] at h
theorem run_pointD (hw : At rows w ⟨3, 3, bWhole⟩) (h : At rows p ⟨1, 2, bPoint w⟩) {d : D} (hd : clean d) : runL (PTof rows) (k + 2) p [d] = .ok false (.bl (isPtD d)) := by
  rw [runL_at h rfl]
  cases ht : isD .isTuple d with
  | false => rw [isPtD_no ht]; simp [bPoint, hd, ht]
  | true =>
    cases d <;> simp [isD] at ht
    rename_i xs
    by_cases h3 : xs.length = 3
    · obtain ⟨a, b, c, rfl⟩ : ∃ a b c, xs = [a, b, c] := by
        match xs, h3 with
        | [a, b, c], _ => exact ⟨a, b, c, rfl⟩
      have hc := clean_tup hd
      have h1 := run_wholeD (k := k) hw (hc a (by simp)) 0 999
      have h2 := run_wholeD (k := k) hw (hc b (by simp)) (-99) 99
      have h3 := run_wholeD (k := k) hw (hc c (by simp)) (-99) 99
      rw [isPtD_3]
      generalize isWh 0 999 a = u at *
      generalize isWh (-99) 99 b = v at *
      generalize isWh (-99) 99 c = z at *
      have sz : (2 : Nat) ≤ SZ := by decide
      have it : isD .isTuple (.tup [a, b, c]) = true := rfl
      cases u <;> simp [bPoint, hd, it, h1, evE_lc, iterD, itSeq, itemsD, wipeOk, lockAll, wipeS, lcGo, h2, h3, Res.noExc, unlockAll, backS, allB, boolsD, sz]
    · have it : isD .isTuple (.tup xs) = true := rfl
      have h3' : ¬ (xs.length : Int) = 3 := by omega
      rw [isPtD_len h3]
      simp [bPoint, hd, it, h3, h3']
theorem run_trackD (T : Trk rows w p t l c) {d : D} (hd : clean d) : runL (PTof rows) (k + 3) t [d] = .ok false (.bl (isTrD d)) := by
  by_cases htr : ∃ ps, d = trD ps
  · obtain ⟨ps, rfl⟩ := htr
    rw [isTrD_tr]
    exact run_track T ps
  rw [runL_at T.ht rfl]
  cases ht : isD .isTuple d with
  | false =>
    have e : isTrD d = false := by cases d <;> first | rfl | simp [isD] at ht
    rw [e]; simp [bTrack, hd, ht]
  | true =>
    cases d <;> simp [isD] at ht
    rename_i xs
    have hn : toPts xs = none := by
      cases e : toPts xs with
      | none => rfl
      | some ps => exact absurd ⟨ps, by rw [toPts_e e]; rfl⟩ htr
    have e : isTrD (.tup xs) = false := by simp [isTrD, hn]
    have ea : xs.all isPtD = false := by
      cases e2 : xs.all isPtD with
      | false => rfl
      | true =>
        obtain ⟨ps, h1, _⟩ := toPts_all e2
        rw [hn] at h1; cases h1
    rw [e]
    have it : isD .isTuple (.tup xs) = true := rfl
    by_cases h1 : 1 ≤ xs.length
    case neg =>
      have h1' : xs.length = 0 := by omega
      simp [bTrack, hd, it, h1']
    by_cases h2 : xs.length ≤ 12
    case neg =>
      have h1' : (1 : Int) ≤ (xs.length : Int) := by omega
      have h2' : ¬ (xs.length : Int) ≤ 12 := by omega
      simp [bTrack, hd, it, h1', h2', h1, h2]
    have h1' : (1 : Int) ≤ (xs.length : Int) := by omega
    have h2' : (xs.length : Int) ≤ 12 := by omega
    have sz := sz_12 h2
    have m1 := lcGo_map (tg := .nm 1) (own := [1]) (cond := evC (runL (PTof rows) (k + 2)) .nil) (elt := evE (runL (PTof rows) (k + 2)) (.call p (.cons (.v 1) .nil))) (enc := fun d : D => d) (f := fun q => .bl (isPtD q)) (w := [.sh (.tup xs), .no, .no, .no]) xs []
      fun a ha => by simp [run_pointD (k := k) T.hw T.hp (clean_tup hd a ha), wipeS]
    have a1 := allB_map isPtD xs
    rw [ea] at a1
    simp only [List.nil_append, List.map_id'] at m1
    simp [bTrack, hd, it, h1, h2, h1', h2', evE_lc, iterD, itSeq, itemsD, wipeOk, lockAll, wipeS, sz, m1, Res.noExc, unlockAll, backS, a1]
theorem run_lookD (T : Trk rows w p t l c) {d : D} (hd : clean d) (h : isTrD d = false) : runL (PTof rows) (k + 4) l [d] = .exc c := by
  rw [runL_at T.hl rfl]
  have := run_trackD (k := k) T hd
  rw [h] at this
  simp [bLook, this]
theorem evE_lc_of {FT : Nat → List D → FR} {elt : E} {tg : Tg} {k : Itk} {es cond : Es} {own : List Nat} {st st1 w : List Slot} {os : List Opd} {ds items : List D} {fr : Bool} {d : D} (h1 : evO FT es st = .ok os st1) (h2 : rsAll st1 os = some ds) (h3 : iterD k ds = some items) (h4 : (wipeOk (lockAll os st1) own && decide (items.length ≤ SZ)) = true) (h5 : lcGo tg own (evC FT cond) (evE FT elt) items [] (wipeS (lockAll os st1) own) = .ok (fr, d) w) :
    evE FT (.lc elt tg k es cond own) st = .ok (true, d) (unlockAll st1 os (backS (lockAll os st1) w own)) := by
  rw [evE_lc, h1, th_ok', h2]
  simp only [h3, h4, if_true, h5, Res.noExc, th_ok']
/-! ### the law's own walks -/
def bLPt (f_l_whole : Nat) : Ss :=
    (.cons (.iff (.or (.not (.bi .isTuple (.cons (.v 0) .nil))) (.or (.cmp .ne (.bi .len (.cons (.v 0) .nil)) (.c (.int 3))) (.not (.call f_l_whole (.cons (.ix (.v 0) (.c (.int 0))) (.cons (.c (.int 0)) (.cons (.c (.int 999)) .nil))))))) (.cons (.ret (.c (.bl false)))
    .nil) .nil)
    (.cons (.ret (.and (.call f_l_whole (.cons (.ix (.v 0) (.c (.int 1))) (.cons (.neg (.c (.int 99))) (.cons (.c (.int 99)) .nil)))) (.call f_l_whole (.cons (.ix (.v 0) (.c (.int 2))) (.cons (.neg (.c (.int 99))) (.cons (.c (.int 99)) .nil))))))
    .nil))
theorem run_lpoint {f : Nat} (hw : At rows w ⟨3, 3, bWhole⟩) (h : At rows f ⟨1, 1, bLPt w⟩) {d : D} (hd : clean d) : runL (PTof rows) (k + 2) f [d] = .ok false (.bl (isPtD d)) := by
  rw [runL_at h rfl]
  cases ht : isD .isTuple d with
  | false => rw [isPtD_no ht]; simp [bLPt, hd, ht]
  | true =>
    cases d <;> simp [isD] at ht
    rename_i xs
    by_cases h3 : xs.length = 3
    · obtain ⟨a, b, c, rfl⟩ : ∃ a b c, xs = [a, b, c] := by
        match xs, h3 with
        | [a, b, c], _ => exact ⟨a, b, c, rfl⟩
      have hc := clean_tup hd
      have h1 := run_wholeD (k := k) hw (hc a (by simp)) 0 999
      have h2 := run_wholeD (k := k) hw (hc b (by simp)) (-99) 99
      have h3 := run_wholeD (k := k) hw (hc c (by simp)) (-99) 99
      rw [isPtD_3]
      generalize isWh 0 999 a = u at *
      generalize isWh (-99) 99 b = v at *
      generalize isWh (-99) 99 c = z at *
      have it : isD .isTuple (.tup [a, b, c]) = true := rfl
      cases u <;> cases v <;> cases z <;> simp [bLPt, hd, it, h1, h2, h3]
    · have it : isD .isTuple (.tup xs) = true := rfl
      have h3' : ¬ (xs.length : Int) = 3 := by omega
      rw [isPtD_len h3]
      simp [bLPt, hd, it, h3, h3']
def bLTr (f_l_is_point : Nat) : Ss :=
    (.cons (.iff (.or (.not (.bi .isTuple (.cons (.v 0) .nil))) (.not (.chain .le .le (.c (.int 1)) (.bi .len (.cons (.v 0) .nil)) (.c (.int 12))))) (.cons (.ret (.c (.bl false)))
    .nil) .nil)
    (.cons (.iff (.cmp .ne (.lc (.v 1) (.nm 1) .seq (.cons (.v 0) .nil) (.cons (.not (.call f_l_is_point (.cons (.v 1) .nil))) .nil) [1]) (.lst .nil)) (.cons (.ret (.c (.bl false)))
    .nil) .nil)
    (.cons (.ret (.cmp .eq (.lc (.v 2) (.nm 2) .range (.cons (.c (.int 1)) (.cons (.bi .len (.cons (.v 0) .nil)) .nil)) (.cons (.cmp .le (.ix (.ix (.v 0) (.v 2)) (.c (.int 0))) (.ix (.ix (.v 0) (.bin .sub (.v 2) (.c (.int 1)))) (.c (.int 0)))) .nil) [2]) (.lst .nil)))
    .nil)))
theorem eqD_nil {ys : List D} (h : clean (.lst ys)) : eqD (.lst ys) (.lst []) = some ys.isEmpty := by
  show (if okN 60 (.lst ys) && okN 60 (.lst []) then some (dEq (.lst ys) (.lst [])) else none) = _
  rw [show okN 60 (.lst ys) = true from h, show okN 60 (.lst []) = true from rfl]
  cases ys <;> rfl
theorem clean_sub {xs ys : List D} (h : clean (.tup xs)) (hs : ∀ y ∈ ys, y ∈ xs) : clean (.lst ys) := by
  obtain ⟨m, e, h⟩ := okN_tup h
  have e : m = 59 := by omega
  subst e
  show ys.all (okN 59) = true
  exact List.all_eq_true.mpr fun y hy => List.all_eq_true.mp h y (hs y hy)
theorem clean_ints (ns : List Int) : clean (.lst (ns.map .int)) := by
  show (ns.map D.int).all (okN 59) = true
  rw [List.all_map]
  exact List.all_eq_true.mpr fun n _ => okN_int
theorem risesB_iff : ∀ {ps : List Pt}, risesB ps = true ↔ ∀ (i : Nat) (a b : Pt), ps[i]? = some a → ps[i + 1]? = some b → a.1 < b.1
  | [] => by simp [risesB]
  | [a] => by simp [risesB]
  | a :: b :: r => by
    have e : risesB (a :: b :: r) = (decide (a.1 < b.1) && risesB (b :: r)) := rfl
    rw [e, Bool.and_eq_true, decide_eq_true_eq, risesB_iff (ps := b :: r)]
    constructor
    · rintro ⟨h1, h2⟩ i x y hx hy
      cases i with
      | zero => simp at hx hy; subst hx hy; exact h1
      | succ i => exact h2 i x y (by simpa using hx) (by simpa using hy)
    · intro h
      exact ⟨h 0 a b rfl rfl, fun i x y hx hy => h (i + 1) x y (by simpa using hx) (by simpa using hy)⟩
/-- a place where the times do not rise -/
def notUp (ps : List Pt) (j : Nat) : Bool := decide ((ps.getD (j + 1) (0, 0, 0)).1 ≤ (ps.getD j (0, 0, 0)).1)
theorem notUp_none {ps : List Pt} : ((List.range (ps.length - 1)).filter (notUp ps)).isEmpty = risesB ps := by
  cases h : risesB ps with
  | true =>
    rw [risesB_iff] at h
    rw [List.isEmpty_iff, List.filter_eq_nil_iff]
    intro j hj
    have hj := List.mem_range.mp hj
    have h1 : ps[j]? = some ps[j] := List.getElem?_eq_getElem (by omega)
    have h2 : ps[j + 1]? = some ps[j + 1] := List.getElem?_eq_getElem (by omega)
    have := h j _ _ h1 h2
    simp only [notUp, List.getD_eq_getElem?_getD, h1, h2, Option.getD_some, decide_eq_true_eq]
    omega
  | false =>
    cases he : ((List.range (ps.length - 1)).filter (notUp ps)).isEmpty with
    | false => rfl
    | true =>
      rw [List.isEmpty_iff, List.filter_eq_nil_iff] at he
      have : risesB ps = true := by
        rw [risesB_iff]
        intro i a b ha hb
        have hi : i + 1 < ps.length := (List.getElem?_eq_some_iff.mp hb).1
        have := he i (List.mem_range.mpr (by omega))
        simp only [notUp, List.getD_eq_getElem?_getD, ha, hb, Option.getD_some, decide_eq_true_eq] at this
        omega
      rw [h] at this; cases this
theorem itRange_one {n : Nat} (h1 : 1 ≤ n) (h : n ≤ 1000) : itRange [.int 1, .int (n : Int)] = some ((List.range (n - 1)).map fun j : Nat => .int (1 + (j : Int))) := by
  simp only [itRange]
  rw [if_pos ⟨rngOk_of (by decide) (by decide), rngOk_of (by omega) (by omega)⟩, show ((n : Int) - 1).toNat = n - 1 by omega]
  rfl
theorem run_ltrack {f g : Nat} (hw : At rows w ⟨3, 3, bWhole⟩) (hg : At rows g ⟨1, 1, bLPt w⟩) (h : At rows f ⟨1, 3, bLTr g⟩) {d : D} (hd : clean d) : runL (PTof rows) (k + 3) f [d] = .ok false (.bl (isTrD d)) := by
  rw [runL_at h rfl]
  cases ht : isD .isTuple d with
  | false =>
    have e : isTrD d = false := by cases d <;> first | rfl | simp [isD] at ht
    rw [e]; simp [bLTr, hd, ht]
  | true =>
    cases d <;> simp [isD] at ht
    rename_i xs
    have it : isD .isTuple (.tup xs) = true := rfl
    have tl : ∀ ps, toPts xs = some ps → xs.length = ps.length := fun ps e => by rw [toPts_e e, List.length_map]
    by_cases h1 : 1 ≤ xs.length
    case neg =>
      have h1' : xs.length = 0 := by omega
      have e : isTrD (.tup xs) = false := by
        cases e : toPts xs with
        | none => simp [isTrD, e]
        | some ps => have := tl ps e; simp [isTrD, e, okT, show ps.length = 0 by omega]
      rw [e]
      simp [bLTr, hd, it, h1']
    by_cases h2 : xs.length ≤ 12
    case neg =>
      have h1' : (1 : Int) ≤ (xs.length : Int) := by omega
      have h2' : ¬ (xs.length : Int) ≤ 12 := by omega
      have e : isTrD (.tup xs) = false := by
        cases e : toPts xs with
        | none => simp [isTrD, e]
        | some ps => have := tl ps e; simp [isTrD, e, okT, show ¬ ps.length ≤ 12 by omega]
      rw [e]
      simp [bLTr, hd, it, h1', h2', h1, h2]
    have h1' : (1 : Int) ≤ (xs.length : Int) := by omega
    have h2' : (xs.length : Int) ≤ 12 := by omega
    have sz := sz_12 h2
    have m1 := lcGo_filter (tg := .nm 1) (own := [1]) (cond := evC (runL (PTof rows) (k + 2)) (.cons (.not (.call g (.cons (.v 1) .nil))) .nil)) (elt := evE (runL (PTof rows) (k + 2)) (.v 1)) (enc := fun d : D => d) (f := fun d : D => d) (p := fun q => !isPtD q) (w := [.sh (.tup xs), .no, .no]) xs []
      fun a ha => ⟨[.sh (.tup xs), .sh a, .no], false, false, [.sh (.tup xs), .sh a, .no], [.sh (.tup xs), .sh a, .no], by simp, by
        rw [evC_one]
        cases hp : isPtD a <;> simp [run_lpoint (k := k) hw hg (clean_tup hd a ha), hp], by simp [wipeS], fun _ => ⟨by simp, by simp [wipeS]⟩⟩
    have c1 := eqD_nil (clean_sub (ys := xs.filter fun q => !isPtD q) hd fun y hy => (List.mem_filter.mp hy).1)
    simp only [List.nil_append, List.map_id'] at m1
    cases ea : xs.all isPtD with
    | false =>
      have e0 : (xs.filter fun q => !isPtD q).isEmpty = false := by
        rw [List.all_eq_false] at ea
        obtain ⟨x, hx, hp⟩ := ea
        cases hq : (xs.filter fun q => !isPtD q) with
        | nil => exact absurd (show x ∈ xs.filter (fun q => !isPtD q) from List.mem_filter.mpr ⟨hx, by simp [hp]⟩) (by rw [hq]; simp)
        | cons _ _ => rfl
      have e : isTrD (.tup xs) = false := by
        cases e : toPts xs with
        | none => simp [isTrD, e]
        | some ps =>
          have : xs.all isPtD = ps.all okP := by rw [toPts_e e, List.all_map]; congr 1
          simp [isTrD, e, okT, ← this, ea]
      rw [e]
      rw [e0] at c1
      simp [bLTr, hd, it, h1, h2, h1', h2', evE_lc, iterD, itSeq, itemsD, wipeOk, lockAll, wipeS, sz, m1, Res.noExc, unlockAll, backS, c1]
    | true =>
      have e0 : (xs.filter fun q => !isPtD q) = [] := by
        rw [List.filter_eq_nil_iff]
        intro a ha
        have := List.all_eq_true.mp ea a ha
        simp [this]
      obtain ⟨ps, hp, hok⟩ := toPts_all ea
      have ex := toPts_e hp
      have lx := tl ps hp
      have e : isTrD (.tup xs) = risesB ps := by simp [isTrD, hp, okT, hok, show 1 ≤ ps.length by omega, show ps.length ≤ 12 by omega]
      rw [e]
      rw [e0] at m1 c1
      have m2 := lcGo_filter (tg := .nm 2) (own := [2]) (cond := evC (runL (PTof rows) (k + 2)) (.cons (.cmp .le (.ix (.ix (.v 0) (.v 2)) (.c (.int 0))) (.ix (.ix (.v 0) (.bin .sub (.v 2) (.c (.int 1)))) (.c (.int 0)))) .nil)) (elt := evE (runL (PTof rows) (k + 2)) (.v 2))
        (enc := fun j : Nat => .int (1 + (j : Int))) (f := fun j : Nat => .int (1 + (j : Int))) (p := notUp ps) (w := [.sh (.tup xs), .no, .no]) (List.range (ps.length - 1)) []
        fun j hj => ⟨[.sh (.tup xs), .no, .sh (.int (1 + (j : Int)))], false, false, [.sh (.tup xs), .no, .sh (.int (1 + (j : Int)))], [.sh (.tup xs), .no, .sh (.int (1 + (j : Int)))], by simp, by
          have hj := List.mem_range.mp hj
          obtain ⟨p0, g1⟩ : ∃ p0, ps[j]? = some p0 := ⟨_, List.getElem?_eq_getElem (by omega)⟩
          obtain ⟨p1, g2⟩ : ∃ p1, ps[j + 1]? = some p1 := ⟨_, List.getElem?_eq_getElem (by omega)⟩
          have x1 : ixD (.tup xs) (.int (1 + (j : Int))) = some (pD p1) := by
            show atD xs _ = _
            rw [show 1 + (j : Int) = ((j + 1 : Nat) : Int) by omega, atD_nat, ex, List.getElem?_map, g2]; rfl
          have x2 : ixD (.tup xs) (.int (1 + (j : Int) - 1)) = some (pD p0) := by
            show atD xs _ = _
            rw [show 1 + (j : Int) - 1 = ((j : Nat) : Int) by omega, atD_nat, ex, List.getElem?_map, g1]; rfl
          have x3 : ixD (pD p1) (.int 0) = some (.int p1.1) := atD0
          have x4 : ixD (pD p0) (.int 0) = some (.int p0.1) := atD0
          rw [evC_one]
          have en : notUp ps j = decide (p1.1 ≤ p0.1) := by simp only [notUp, List.getD_eq_getElem?_getD, g1, g2, Option.getD_some]
          rw [en]
          simp [-ixD_tup, x1, x2, x3, x4], by simp [wipeS], fun _ => ⟨by simp, by simp [wipeS]⟩⟩
      have c2 : eqD (.lst (((List.range (ps.length - 1)).filter (notUp ps)).map fun j : Nat => D.int (1 + (j : Int)))) (.lst []) = some (risesB ps) := by
        have := eqD_nil (clean_ints (((List.range (ps.length - 1)).filter (notUp ps)).map fun j : Nat => 1 + (j : Int)))
        rw [List.map_map] at this
        rw [← notUp_none]
        refine this.trans ?_
        congr 1
        cases (List.range (ps.length - 1)).filter (notUp ps) <;> rfl
      have hr : itRange [.int 1, .int (xs.length : Int)] = some ((List.range (ps.length - 1)).map fun j : Nat => .int (1 + (j : Int))) := by
        rw [← lx]; exact itRange_one h1 (by omega)
      have sz2 : (List.range (ps.length - 1)).length ≤ SZ := by rw [List.length_range]; omega
      simp only [List.nil_append] at m2
      generalize (((List.range (ps.length - 1)).filter (notUp ps)).map fun j : Nat => D.int (1 + (j : Int))) = Y at *
      have sz3 : ((List.range (ps.length - 1)).map fun j : Nat => D.int (1 + (j : Int))).length ≤ SZ := by rw [List.length_map]; exact sz2
      generalize ((List.range (ps.length - 1)).map fun j : Nat => D.int (1 + (j : Int))) = Z at *
      simp only [List.isEmpty_nil, List.map_nil] at c1 m1
      have E1 := evE_lc_of (FT := runL (PTof rows) (k + 2)) (k := .seq) (es := .cons (.v 0) .nil) (st := [.sh (.tup xs), .no, .no]) (st1 := [.sh (.tup xs), .no, .no]) (os := [.val (.tup xs)]) (ds := [.tup xs]) (by simp) (by simp) rfl (by simp [wipeOk, lockAll, sz]) m1
      have E2 := evE_lc_of (FT := runL (PTof rows) (k + 2)) (k := .range) (es := .cons (.c (.int 1)) (.cons (.bi .len (.cons (.v 0) .nil)) .nil)) (st := [.sh (.tup xs), .no, .no]) (st1 := [.sh (.tup xs), .no, .no]) (os := [.val (.int 1), .val (.int (xs.length : Int))]) (by simp) rfl hr (by rw [Bool.and_eq_true]; exact ⟨rfl, decide_eq_true sz3⟩) m2
      simp only [lockAll, backS, unlockAll, List.getElem?_cons_zero, List.getElem?_cons_succ, Option.getD_some, List.set] at E1 E2
      have O1 : ∀ e, opnd (.lc (.v 1) (.nm 1) .seq (.cons (.v 0) .nil) (.cons (.not (.call g (.cons (.v 1) .nil))) .nil) [1]) e = fun st => (e st).th fun a st => .ok (.val a.2) st := fun e => rfl
      have O2 : ∀ e, opnd (.lc (.v 2) (.nm 2) .range (.cons (.c (.int 1)) (.cons (.bi .len (.cons (.v 0) .nil)) .nil)) (.cons (.cmp .le (.ix (.ix (.v 0) (.v 2)) (.c (.int 0))) (.ix (.ix (.v 0) (.bin .sub (.v 2) (.c (.int 1)))) (.c (.int 0)))) .nil) [2]) e = fun st => (e st).th fun a st => .ok (.val a.2) st := fun e => rfl
      unfold bLTr
      generalize E.lc (.v 1) (.nm 1) .seq (.cons (.v 0) .nil) (.cons (.not (.call g (.cons (.v 1) .nil))) .nil) [1] = L1 at *
      generalize E.lc (.v 2) (.nm 2) .range (.cons (.c (.int 1)) (.cons (.bi .len (.cons (.v 0) .nil)) .nil)) (.cons (.cmp .le (.ix (.ix (.v 0) (.v 2)) (.c (.int 0))) (.ix (.ix (.v 0) (.bin .sub (.v 2) (.c (.int 1)))) (.c (.int 0)))) .nil) [2] = L2 at *
      have q1 : evS (runL (PTof rows) (k + 2)) (.iff (.or (.not (.bi .isTuple (.cons (.v 0) .nil))) (.not (.chain .le .le (.c (.int 1)) (.bi .len (.cons (.v 0) .nil)) (.c (.int 12))))) (.cons (.ret (.c (.bl false))) .nil) .nil) [.sh (.tup xs), .no, .no] = .ok .nx [.sh (.tup xs), .no, .no] := by simp [hd, it, h1, h2, h1', h2']
      have q2 : evS (runL (PTof rows) (k + 2)) (.iff (.cmp .ne L1 (.lst .nil)) (.cons (.ret (.c (.bl false))) .nil) .nil) [.sh (.tup xs), .no, .no] = .ok .nx [.sh (.tup xs), .no, .no] := by simp [O1, E1, c1]
      have q3 : evSs (runL (PTof rows) (k + 2)) (.cons (.ret (.cmp .eq L2 (.lst .nil))) .nil) [.sh (.tup xs), .no, .no] = .ok (.rt false (.bl (risesB ps))) [.sh (.tup xs), .no, .no] := by simp [O2, E2, c2]
      show endOf (evSs (runL (PTof rows) (k + 2)) _ [.sh (.tup xs), .no, .no]) = _
      rw [evSs_cons, q1, th_ok', evSs_cons, q2, th_ok', q3]
      rfl
end
end PD
set_option maxHeartbeats 4000000
set_option maxRecDepth 10000
namespace PD
/-! F51: a thing spoilt. -/
def atP : D → List Nat → Option D
  | d, [] => some d
  | .tup xs, k :: r => match xs[k]? with | some x => atP x r | none => none
  | _, _ :: _ => none
def plN (p : List Nat) : D := .tup (p.map fun (k : Nat) => .int (k : Int))
/-- tuples of whole numbers, n deep -/
def shp : Nat → D → Bool
  | _, .int _ => true
  | n + 1, .tup xs => decide (xs.length ≤ 12) && xs.all (shp n)
  | _, _ => false
theorem shp_tup {n : Nat} {xs : List D} (h : shp n (.tup xs) = true) : ∃ m, n = m + 1 ∧ xs.length ≤ 12 ∧ ∀ x ∈ xs, shp m x = true := by
  cases n with
  | zero => simp [shp] at h
  | succ m =>
    simp only [shp, Bool.and_eq_true, decide_eq_true_eq, List.all_eq_true] at h
    exact ⟨m, rfl, h.1, h.2⟩
theorem shp_okN : ∀ (n : Nat) (d : D), shp n d = true → okN n d = true
  | n, .int _, _ => okN_int
  | n, .tup xs, h => by
    obtain ⟨m, rfl, _, h⟩ := shp_tup h
    show xs.all (okN m) = true
    exact List.all_eq_true.mpr fun x hx => shp_okN m x (h x hx)
  | n, .non, h => by cases n <;> simp [shp] at h
  | n, .bl _, h => by cases n <;> simp [shp] at h
  | n, .str _, h => by cases n <;> simp [shp] at h
  | n, .lst _, h => by cases n <;> simp [shp] at h
  | n, .dic _ _, h => by cases n <;> simp [shp] at h
  | n, .exc _, h => by cases n <;> simp [shp] at h
  | n, .scr _, h => by cases n <;> simp [shp] at h
theorem okN_le {n m : Nat} {d : D} (h : okN n d = true) (hm : n ≤ m) : okN m d = true := by
  induction hm with
  | refl => exact h
  | step _ ih => exact okN_up ih
theorem shp_clean {n : Nat} {d : D} (h : shp n d = true) (hn : n ≤ 60) : clean d := okN_le (shp_okN n d h) hn
def BP : Nat → Nat
  | 0 => 1
  | n + 1 => 1 + 12 * BP n
def bLPl (f_l_places : Nat) : Ss :=
    (.cons (.asg (.nm 1) (.lst (.cons (.tup .nil) .nil)))
    (.cons (.iff (.bi .isTuple (.cons (.v 0) .nil)) (.cons (.for_ (.nm 2) .range (.cons (.bi .len (.cons (.v 0) .nil)) .nil) (.cons (.ext 1 (.lc (.bin .add (.tup (.cons (.v 2) .nil)) (.v 3)) (.nm 3) .seq (.cons (.call f_l_places (.cons (.ix (.v 0) (.v 2)) .nil)) .nil) .nil [3]))
    .nil))
    .nil) .nil)
    (.cons (.ret (.v 1))
    .nil)))
theorem evS_for_nx {FT : Nat → List D → FR} {t : Tg} {k : Itk} {es : Es} {b : Ss} {st st1 st2 : List Slot} {ds items : List D} (h1 : evA FT es st = .ok ds st1) (h2 : iterD k ds = some items) (h3 : forGo t (evSs FT b) items st1 = .ok .nx st2) : evS FT (.for_ t k es b) st = .ok .nx st2 := by
  rw [evS_for, h1, th_ok', h2]; exact h3
theorem iterD_range (ds : List D) : iterD .range ds = itRange ds := rfl
theorem itRange_0 {n : Nat} (h : n ≤ 1000) : itRange [.int (n : Int)] = some ((List.range' 0 n).map fun (j : Nat) => D.int (0 + (j : Int))) := by
  simp only [itRange]
  rw [if_pos (rngOk_of (by omega) (by omega)), rangeL_eq, Int.toNat_natCast]
section
variable {rows : List DRow}
theorem run_lplaces {f : Nat} (hf : At rows f ⟨1, 4, bLPl f⟩) : ∀ (n : Nat) (d : D), n ≤ 3 → shp n d = true → ∀ k, ∃ ps : List (List Nat), runL (PTof rows) (k + n + 1) f [d] = .ok true (.lst (ps.map plN)) ∧ ps ≠ [] ∧ ps.length ≤ BP n ∧
    ∀ p ∈ ps, p.length ≤ n ∧ ∃ e, atP d p = some e ∧ shp n e = true := by
  intro n
  induction n with
  | zero =>
    intro d _ hd k
    refine ⟨[[]], ?_, by simp, by simp [BP], fun p hp => ?_⟩
    · rw [runL_at hf rfl]
      cases d <;> simp [shp] at hd
      simp [bLPl, plN, List.replicate, clean_int, isD]
    · simp at hp; subst hp
      exact ⟨Nat.le_refl _, d, by cases d <;> rfl, hd⟩
  | succ n ih =>
    intro d hn hd k
    cases d with
    | int i =>
      refine ⟨[[]], ?_, by simp, by simp [BP], fun p hp => ?_⟩
      · rw [runL_at hf rfl]
        simp [bLPl, plN, List.replicate, clean_int, isD]
      · simp at hp; subst hp
        exact ⟨by simp, .int i, rfl, rfl⟩
    | tup xs =>
      obtain ⟨m, e, hl, hx⟩ := shp_tup hd
      cases e
      rw [runL_at hf rfl]
      have hb : BP n ≤ 157 := by
        have : n = 0 ∨ n = 1 ∨ n = 2 := by omega
        rcases this with rfl | rfl | rfl <;> decide
      let I : Nat → List Slot → Prop := fun j st => ∃ (ps : List (List Nat)) (s2 : Slot), st = [.sh (.tup xs), .ow (.lst (ps.map plN)), s2, .no] ∧ (∀ s, s2 = s → isOw s = false) ∧ ps ≠ [] ∧ ps.length ≤ 1 + j * BP n ∧ ∀ p ∈ ps, p.length ≤ n + 1 ∧ ∃ e, atP (.tup xs) p = some e ∧ shp (n + 1) e = true
      have key : ∀ j st, 0 ≤ j → j < 0 + xs.length → I j st → ∃ st1 st2, bind (.nm 2) (.int (0 + (j : Int))) st = some st1 ∧ evSs (runL (PTof rows) (k + n + 1)) (.cons (.ext 1 (.lc (.bin .add (.tup (.cons (.v 2) .nil)) (.v 3)) (.nm 3) .seq (.cons (.call f (.cons (.ix (.v 0) (.v 2)) .nil)) .nil) .nil [3])) .nil) st1 = .ok .nx st2 ∧ I (j + 1) st2 := by
        rintro j st _ hj ⟨ps, s2, rfl, _, h1, h2, h3⟩
        obtain ⟨x, ex⟩ : ∃ x, xs[j]? = some x := ⟨_, List.getElem?_eq_getElem (by omega)⟩
        obtain ⟨qs, g1, g2, g3, g4⟩ := ih x (by omega) (hx x (List.mem_of_getElem? ex)) k
        have e1 : ixD (.tup xs) (.int (j : Int)) = some x := by
          show atD xs _ = _
          rw [atD_nat, ex]
        have m := lcGo_map (tg := .nm 3) (own := [3]) (cond := evC (runL (PTof rows) (k + n + 1)) .nil) (elt := evE (runL (PTof rows) (k + n + 1)) (.bin .add (.tup (.cons (.v 2) .nil)) (.v 3))) (enc := plN) (f := fun p => plN (j :: p)) (w := [.sh (.tup xs), .ow (.lst (ps.map plN)), .sh (.int (j : Int)), .no]) qs []
          fun p hp => ⟨[.sh (.tup xs), .ow (.lst (ps.map plN)), .sh (.int (j : Int)), .sh (plN p)], false, false, _, [.sh (.tup xs), .ow (.lst (ps.map plN)), .sh (.int (j : Int)), .sh (plN p)], by simp, by rw [evC_nil], by
            have hp := (g4 p hp).1
            have sz : 1 + p.length ≤ SZ := Nat.le_trans (show 1 + p.length ≤ 10 by omega) (by decide)
            simp [plN, sz], by simp [wipeS]⟩
        have szq : (qs.map plN).length ≤ SZ := by rw [List.length_map]; exact Nat.le_trans g3 (Nat.le_trans hb (by decide))
        have E1 := evE_lc_of (FT := runL (PTof rows) (k + n + 1)) (k := .seq) (es := .cons (.call f (.cons (.ix (.v 0) (.v 2)) .nil)) .nil) (st := [.sh (.tup xs), .ow (.lst (ps.map plN)), .sh (.int (j : Int)), .no]) (st1 := [.sh (.tup xs), .ow (.lst (ps.map plN)), .sh (.int (j : Int)), .no])
          (os := [.val (.lst (qs.map plN))]) (ds := [.lst (qs.map plN)]) (by simp [-ixD_tup, e1, g1]) rfl rfl (by rw [Bool.and_eq_true]; exact ⟨rfl, decide_eq_true szq⟩) m
        simp only [lockAll, backS, unlockAll, List.nil_append, List.getElem?_cons_zero, List.getElem?_cons_succ, Option.getD_some, List.set] at E1
        have lb : (j + 1) * BP n = j * BP n + BP n := by rw [Nat.add_mul, Nat.one_mul]
        have ls : (ps.map plN).length + (qs.map fun p => plN (j :: p)).length < SZ := by
          rw [List.length_map, List.length_map]
          have : j * BP n ≤ 12 * 157 := Nat.mul_le_mul (by omega) hb
          exact Nat.lt_of_le_of_lt (show _ ≤ 2 * 157 + 12 * 157 by omega) (by decide)
        refine ⟨[.sh (.tup xs), .ow (.lst (ps.map plN)), .sh (.int (j : Int)), .no], _, by simp, by simp [E1]; rw [if_pos (by simpa using ls)]; simp; rfl, ps ++ qs.map fun p => j :: p, .sh (.int (j : Int)), ?_, by rintro s rfl; rfl, ?_, ?_, ?_⟩
        · simp
        · simp [h1]
        · rw [List.length_append, List.length_map]; omega
        · intro p hp
          rcases List.mem_append.mp hp with hp | hp
          · exact h3 p hp
          · obtain ⟨q, hq, rfl⟩ := List.mem_map.mp hp
            obtain ⟨l1, e, l2, l3⟩ := g4 q hq
            refine ⟨by simp; omega, e, by simp only [atP, ex]; exact l2, ?_⟩
            have up : ∀ (n : Nat) (d : D), shp n d = true → shp (n + 1) d = true := by
              intro n
              induction n with
              | zero => intro d h; cases d <;> simp [shp] at h ⊢
              | succ n ih =>
                intro d h
                cases d <;> simp [shp] at h ⊢
                exact ⟨h.1, fun x hx => by have := ih x (h.2 x hx); simpa [shp] using this⟩
            exact up n e l3
      obtain ⟨st', h1, ps, s2, rfl, hs2, h2, h3, h4⟩ := forGo_range (I := I) 0 xs.length 0 [.sh (.tup xs), .ow (.lst ([[]].map plN)), .no, .no] key ⟨[[]], .no, rfl, by rintro s rfl; rfl, by simp, by simp, fun p hp => by
        simp at hp; subst hp
        exact ⟨by simp, .tup xs, rfl, hd⟩⟩
      rw [Nat.zero_add] at h3
      refine ⟨ps, ?_, h2, ?_, h4⟩
      · have f1 := evS_for_nx (FT := runL (PTof rows) (k + n + 1)) (t := .nm 2) (k := .range) (es := .cons (.bi .len (.cons (.v 0) .nil)) .nil) (st := [.sh (.tup xs), .ow (.lst ([[]].map plN)), .no, .no]) (st1 := [.sh (.tup xs), .ow (.lst ([[]].map plN)), .no, .no]) (ds := [.int (xs.length : Int)]) (by simp) ((iterD_range _).trans (itRange_0 (by omega))) h1
        have q1 : evS (runL (PTof rows) (k + n + 1)) (.asg (.nm 1) (.lst (.cons (.tup .nil) .nil))) [.sh (.tup xs), .no, .no, .no] = .ok .nx [.sh (.tup xs), .ow (.lst ([[]].map plN)), .no, .no] := by simp [plN]
        show endOf (evSs (runL (PTof rows) (k + n + 1)) _ [.sh (.tup xs), .no, .no, .no]) = _
        simp only [bLPl]
        rw [evSs_cons, q1, th_ok']
        generalize ([[]] : List (List Nat)).map plN = L0 at f1 ⊢
        generalize S.for_ (.nm 2) .range (.cons (.bi .len (.cons (.v 0) .nil)) .nil) (.cons (.ext 1 (.lc (.bin .add (.tup (.cons (.v 2) .nil)) (.v 3)) (.nm 3) .seq (.cons (.call f (.cons (.ix (.v 0) (.v 2)) .nil)) .nil) .nil [3])) .nil) = FS at *
        have q2 : evS (runL (PTof rows) (k + n + 1)) (.iff (.bi .isTuple (.cons (.v 0) .nil)) (.cons FS .nil) .nil) [.sh (.tup xs), .ow (.lst L0), .no, .no] = .ok .nx [.sh (.tup xs), .ow (.lst (ps.map plN)), s2, .no] := by
          have it : evE (runL (PTof rows) (k + n + 1)) (.bi .isTuple (.cons (.v 0) .nil)) [.sh (.tup xs), .ow (.lst L0), .no, .no] = .ok (false, .bl true) [.sh (.tup xs), .ow (.lst L0), .no, .no] := by simp
          rw [evS_iff, it, th_ok', br_bl, if_pos rfl, evSs_cons, f1, th_ok']
          exact evSs_nil
        dsimp only
        rw [evSs_cons, q2, th_ok']
        simp
      · have : xs.length * BP n ≤ 12 * BP n := Nat.mul_le_mul_right _ hl
        simp only [BP]; omega
    | _ => simp [shp] at hd
def bLPut (f_l_put : Nat) : Ss :=
    (.cons (.iff (.cmp .eq (.v 1) (.tup .nil)) (.cons (.ret (.v 2))
    .nil) .nil)
    (.cons (.asg (.nm 3) (.ix (.v 1) (.c (.int 0))))
    (.cons (.ret (.bin .add (.bin .add (.slT (.v 0) (.v 3)) (.tup (.cons (.call f_l_put (.cons (.ix (.v 0) (.v 3)) (.cons (.slF (.v 1) (.c (.int 1))) (.cons (.v 2) .nil)))) .nil))) (.slF (.v 0) (.bin .add (.v 3) (.c (.int 1))))))
    .nil)))
theorem eqD_tn {ys : List D} (h : clean (.tup ys)) : eqD (.tup ys) (.tup []) = some ys.isEmpty := by
  show (if okN 60 (.tup ys) && okN 60 (.tup []) then some (dEq (.tup ys) (.tup [])) else none) = _
  rw [show okN 60 (.tup ys) = true from h, show okN 60 (.tup []) = true from rfl]
  cases ys <;> rfl
theorem clean_plN (p : List Nat) : clean (plN p) := by
  show (p.map fun (k : Nat) => D.int (k : Int)).all (okN 59) = true
  rw [List.all_map]
  exact List.all_eq_true.mpr fun n _ => okN_int
theorem run_lput {f : Nat} (hf : At rows f ⟨3, 4, bLPut f⟩) {m : Nat} {new : D} (hn : okN m new = true) : ∀ (p : List Nat) (n : Nat) (d e : D), n ≤ m → shp n d = true → atP d p = some e → ∀ k, ∃ d', runL (PTof rows) (k + p.length + 1) f [d, plN p, new] = .ok false d' ∧ okN (m + p.length) d' = true := by
  intro p
  induction p with
  | nil =>
    intro n d e _ _ _ k
    refine ⟨new, ?_, hn⟩
    rw [runL_at hf rfl]
    have e1 := eqD_tn (clean_plN [])
    simp only [plN, List.map_nil, List.isEmpty_nil] at e1
    simp [bLPut, plN, e1, List.replicate]
  | cons j r ih =>
    intro n d e hnm hd he k
    cases d with
    | tup xs =>
      simp only [atP] at he
      obtain ⟨q, rfl, hl, hx⟩ := shp_tup hd
      split at he
      case h_2 => cases he
      rename_i x ex
      obtain ⟨d', h1, h2⟩ := ih q x e (by omega) (hx x (List.mem_of_getElem? ex)) he k
      have hj : j < xs.length := (List.getElem?_eq_some_iff.mp ex).1
      have e1 := eqD_tn (clean_plN (j :: r))
      simp only [plN, List.map_cons, List.isEmpty_cons] at e1
      have x1 : ixD (.tup xs) (.int (j : Int)) = some x := by show atD xs _ = _; rw [atD_nat, ex]
      have s1 : slTD (.tup xs) (.int (j : Int)) = some (false, .tup (xs.take j)) := slTD_tupn j
      have s2 : slFD (.tup xs) (.int ((j : Int) + 1)) = some (false, .tup (xs.drop (j + 1))) := by rw [show (j : Int) + 1 = ((j + 1 : Nat) : Int) by omega]; exact slFD_tupn (j + 1)
      refine ⟨.tup (xs.take j ++ [d'] ++ xs.drop (j + 1)), ?_, ?_⟩
      · rw [runL_at hf rfl]
        have z1 : (xs.take j).length + 1 ≤ SZ := by rw [List.length_take]; exact Nat.le_trans (show _ ≤ 13 by omega) (by decide)
        have z2 : (xs.take j ++ [d']).length + (xs.drop (j + 1)).length ≤ SZ := by
          rw [List.length_append, List.length_take, List.length_drop, List.length_singleton]; exact Nat.le_trans (show _ ≤ 13 by omega) (by decide)
        rw [List.length_append, List.length_singleton] at z2
        have h1 : runL (PTof rows) (k + r.length + 1) f [x, .tup (r.map fun (k : Nat) => .int (k : Int)), new] = .ok false d' := h1
        generalize xs.take j = A at *
        generalize xs.drop (j + 1) = B at *
        have A1 : evE (runL (PTof rows) (k + r.length + 1)) (.slT (.v 0) (.v 3)) [.sh (.tup xs), .sh (.tup (.int (j : Int) :: r.map fun (k : Nat) => .int (k : Int))), .sh new, .sh (.int (j : Int))] = .ok (false, .tup A) [.sh (.tup xs), .sh (.tup (.int (j : Int) :: r.map fun (k : Nat) => .int (k : Int))), .sh new, .sh (.int (j : Int))] := by simp [s1]
        have A2 : evE (runL (PTof rows) (k + r.length + 1)) (.ix (.v 0) (.v 3)) [.sh (.tup xs), .sh (.tup (.int (j : Int) :: r.map fun (k : Nat) => .int (k : Int))), .sh new, .sh (.int (j : Int))] = .ok (false, x) [.sh (.tup xs), .sh (.tup (.int (j : Int) :: r.map fun (k : Nat) => .int (k : Int))), .sh new, .sh (.int (j : Int))] := by simp [-ixD_tup, x1]
        have A3 : evE (runL (PTof rows) (k + r.length + 1)) (.slF (.v 1) (.c (.int 1))) [.sh (.tup xs), .sh (.tup (.int (j : Int) :: r.map fun (k : Nat) => .int (k : Int))), .sh new, .sh (.int (j : Int))] = .ok (false, .tup (r.map fun (k : Nat) => .int (k : Int))) [.sh (.tup xs), .sh (.tup (.int (j : Int) :: r.map fun (k : Nat) => .int (k : Int))), .sh new, .sh (.int (j : Int))] := by simp
        have A4 : evE (runL (PTof rows) (k + r.length + 1)) (.slF (.v 0) (.bin .add (.v 3) (.c (.int 1)))) [.sh (.tup xs), .sh (.tup (.int (j : Int) :: r.map fun (k : Nat) => .int (k : Int))), .sh new, .sh (.int (j : Int))] = .ok (false, .tup B) [.sh (.tup xs), .sh (.tup (.int (j : Int) :: r.map fun (k : Nat) => .int (k : Int))), .sh new, .sh (.int (j : Int))] := by simp [s2]
        have qa : evS (runL (PTof rows) (k + r.length + 1)) (.iff (.cmp .eq (.v 1) (.tup .nil)) (.cons (.ret (.v 2)) .nil) .nil) [.sh (.tup xs), .sh (.tup (.int (j : Int) :: r.map fun (k : Nat) => .int (k : Int))), .sh new, .no] = .ok .nx [.sh (.tup xs), .sh (.tup (.int (j : Int) :: r.map fun (k : Nat) => .int (k : Int))), .sh new, .no] := by simp [e1]
        have qb : evS (runL (PTof rows) (k + r.length + 1)) (.asg (.nm 3) (.ix (.v 1) (.c (.int 0)))) [.sh (.tup xs), .sh (.tup (.int (j : Int) :: r.map fun (k : Nat) => .int (k : Int))), .sh new, .no] = .ok .nx [.sh (.tup xs), .sh (.tup (.int (j : Int) :: r.map fun (k : Nat) => .int (k : Int))), .sh new, .sh (.int (j : Int))] := by simp
        show endOf (evSs (runL (PTof rows) (k + (r.length + 1))) _ [.sh (.tup xs), .sh (.tup (.int (j : Int) :: r.map fun (k : Nat) => .int (k : Int))), .sh new, .no]) = _
        rw [show k + (r.length + 1) = k + r.length + 1 by omega]
        simp only [bLPut]
        rw [evSs_cons, qa, th_ok', evSs_cons, qb, th_ok']
        have O1 : ∀ st, opnd (E.slT (.v 0) (.v 3)) (evE (runL (PTof rows) (k + r.length + 1)) (.slT (.v 0) (.v 3))) st = (evE (runL (PTof rows) (k + r.length + 1)) (.slT (.v 0) (.v 3)) st).th fun a st => .ok (.val a.2) st := fun _ => rfl
        have O4 : ∀ st, opnd (E.slF (.v 0) (.bin .add (.v 3) (.c (.int 1)))) (evE (runL (PTof rows) (k + r.length + 1)) (.slF (.v 0) (.bin .add (.v 3) (.c (.int 1))))) st = (evE (runL (PTof rows) (k + r.length + 1)) (.slF (.v 0) (.bin .add (.v 3) (.c (.int 1)))) st).th fun a st => .ok (.val a.2) st := fun _ => rfl
        generalize E.slT (.v 0) (.v 3) = X1 at *
        generalize E.ix (.v 0) (.v 3) = X2 at *
        generalize E.slF (.v 1) (.c (.int 1)) = X3 at *
        generalize E.slF (.v 0) (.bin .add (.v 3) (.c (.int 1))) = X4 at *
        simp [O1, O4, A1, A2, A3, A4, h1, z1, z2]
      · have ox : ∀ y ∈ xs, okN (m + r.length) y = true := fun y hy => okN_le (shp_okN q y (hx y hy)) (by omega)
        show (xs.take j ++ [d'] ++ xs.drop (j + 1)).all (okN (m + r.length)) = true
        simp only [List.all_append, Bool.and_eq_true, List.all_eq_true, List.mem_singleton]
        exact ⟨⟨fun y hy => ox y (List.mem_of_mem_take hy), fun y hy => by rw [hy]; exact h2⟩, fun y hy => ox y (List.mem_of_mem_drop hy)⟩
    | _ => simp [atP] at he
end
end PD
set_option maxHeartbeats 4000000
set_option maxRecDepth 10000
namespace PD
/-! F52: a thing spoilt at a drawn place. -/
def bLSp (f_l_places fp f_l_put : Nat) : Ss :=
    (.cons (.asg (.nm 3) (.call f_l_places (.cons (.v 2) .nil)))
    (.cons (.asg (.nm 4) (.ix (.v 3) (.call fp (.cons (.v 0) (.cons (.v 1) (.cons (.bi .len (.cons (.v 3) .nil)) .nil))))))
    (.cons (.asg (.nm 5) (.v 2))
    (.cons (.for_ (.nm 6) .seq (.cons (.v 4) .nil) (.cons (.asg (.nm 5) (.ix (.v 5) (.v 6)))
    .nil))
    (.cons (.asg (.nm 7) (.lst (.cons (.c (.int 0)) (.cons (.c (.int 1)) (.cons (.c (.int 2)) (.cons (.c (.int 99)) (.cons (.c (.int 100)) (.cons (.neg (.c (.int 99))) (.cons (.neg (.c (.int 100))) (.cons (.c (.int 999)) (.cons (.c (.int 1000)) (.cons (.c (.bl true)) (.cons (.c .non) (.cons (.c (.str "1")) (.cons (.tup .nil) (.cons (.tup (.cons (.c (.int 0)) (.cons (.c (.int 0)) (.cons (.c (.int 0)) .nil)))) (.cons (.lst (.cons (.c (.int 0)) .nil)) (.cons (.tup (.cons (.v 5) .nil)) (.cons (.tup (.cons (.v 5) (.cons (.v 5) .nil))) .nil)))))))))))))))))))
    (.cons (.asg (.nm 8) (.call fp (.cons (.v 0) (.cons (.bin .add (.v 1) (.c (.int 1))) (.cons (.c (.int 23)) .nil)))))
    (.cons (.iff (.cmp .lt (.v 8) (.c (.int 17))) (.cons (.ret (.call f_l_put (.cons (.v 2) (.cons (.v 4) (.cons (.ix (.v 7) (.v 8)) .nil)))))
    .nil) .nil)
    (.cons (.iff (.and (.bi .isTuple (.cons (.v 5) .nil)) (.cmp .ne (.v 5) (.tup .nil))) (.cons (.asg (.nm 6) (.call fp (.cons (.v 0) (.cons (.bin .add (.v 1) (.c (.int 2))) (.cons (.bi .len (.cons (.v 5) .nil)) .nil)))))
    (.cons (.ret (.call f_l_put (.cons (.v 2) (.cons (.v 4) (.cons (.ite (.cmp .lt (.v 8) (.c (.int 20))) (.bin .add (.slT (.v 5) (.v 6)) (.slF (.v 5) (.bin .add (.v 6) (.c (.int 1))))) (.bin .add (.slT (.v 5) (.bin .add (.v 6) (.c (.int 1)))) (.slF (.v 5) (.v 6)))) .nil)))))
    .nil)) .nil)
    (.cons (.ret (.call f_l_put (.cons (.v 2) (.cons (.v 4) (.cons (.ite (.bi .isInt (.cons (.v 5) .nil)) (.bin .sub (.bin .add (.v 5) (.v 8)) (.c (.int 21))) (.c (.int 7))) .nil)))))
    .nil)))))))))
/-- what may be laid there -/
def someL (e : D) : List D := [.int 0, .int 1, .int 2, .int 99, .int 100, .int (-99), .int (-100), .int 999, .int 1000, .bl true, .non, .str (PySem.Str.ofString "1"), .tup [], .tup [.int 0, .int 0, .int 0], .lst [.int 0], .tup [e], .tup [e, e]]
theorem someL_ok {n : Nat} {e : D} (hn : 1 ≤ n) (h : okN n e = true) : ∀ x ∈ someL e, okN (n + 1) x = true := by
  obtain ⟨m, rfl⟩ : ∃ m, n = m + 1 := ⟨n - 1, by omega⟩
  intro x hx
  simp only [someL, List.mem_cons, List.not_mem_nil, or_false] at hx
  rcases hx with rfl | rfl | rfl | rfl | rfl | rfl | rfl | rfl | rfl | rfl | rfl | rfl | rfl | rfl | rfl | rfl | rfl <;> first | rfl | (simp [okN, h]; done) | (simp only [okN]; decide +kernel)
section
variable {rows : List DRow}
theorem walk_place {FT : Nat → List D → FR} {n : Nat} (s0 s1 s2 s3 s4 : Slot) : ∀ (p : List Nat) (d e : D), shp n d = true → atP d p = some e → shp n e = true → ∀ s6, isOw s6 = false → ∃ s6', isOw s6' = false ∧
    forGo (.nm 6) (evSs FT (.cons (.asg (.nm 5) (.ix (.v 5) (.v 6))) .nil)) (p.map fun (k : Nat) => .int (k : Int)) [s0, s1, s2, s3, s4, .sh d, s6, .no, .no] = .ok .nx [s0, s1, s2, s3, s4, .sh e, s6', .no, .no]
  | [], d, e, _, h, _, s6, h6 => by
    cases d <;> cases h <;> exact ⟨s6, h6, rfl⟩
  | j :: r, d, e, hd, h, he, s6, h6 => by
    cases d with
    | tup xs =>
      simp only [atP] at h
      split at h
      case h_2 => cases h
      rename_i x ex
      obtain ⟨q, rfl, _, hx⟩ := shp_tup hd
      have hx := hx x (List.mem_of_getElem? ex)
      have x1 : ixD (.tup xs) (.int (j : Int)) = some x := by show atD xs _ = _; rw [atD_nat, ex]
      have up : ∀ (n : Nat) (d : D), shp n d = true → shp (n + 1) d = true := by
        intro n
        induction n with
        | zero => intro d h; cases d <;> simp [shp] at h ⊢
        | succ n ih =>
          intro d h
          cases d <;> simp [shp] at h ⊢
          exact ⟨h.1, fun x hx => by have := ih x (h.2 x hx); simpa [shp] using this⟩
      obtain ⟨s6', g1, g2⟩ := walk_place (FT := FT) s0 s1 s2 s3 s4 r x e (up q x hx) h he (.sh (.int (j : Int))) rfl
      refine ⟨s6', g1, ?_⟩
      simp only [List.map_cons, forGo]
      have b1 : bind (.nm 6) (.int (j : Int)) [s0, s1, s2, s3, s4, .sh (.tup xs), s6, .no, .no] = some [s0, s1, s2, s3, s4, .sh (.tup xs), .sh (.int (j : Int)), .no, .no] := by simp
      have b2 : evSs FT (.cons (.asg (.nm 5) (.ix (.v 5) (.v 6))) .nil) [s0, s1, s2, s3, s4, .sh (.tup xs), .sh (.int (j : Int)), .no, .no] = .ok .nx [s0, s1, s2, s3, s4, .sh x, .sh (.int (j : Int)), .no, .no] := by simp [-ixD_tup, x1]
      simp only [b1, b2, th_ok']
      exact g2
    | _ => simp [atP] at h
theorem run_spoil {c p pl pu f : Nat} (W : Drw rows c p) (hpl : At rows pl ⟨1, 4, bLPl pl⟩) (hpu : At rows pu ⟨3, 4, bLPut pu⟩) (hf : At rows f ⟨3, 9, bLSp pl p pu⟩) {n : Nat} (hn : 1 ≤ n) (hn3 : n ≤ 3) {d : D} (hd : shp n d = true) (ns : List Int) (a : Int) (ha : 0 ≤ a) (k : Nat) :
    ∃ d', runL (PTof rows) (k + 6) f [.scr ns, .int a, d] = .ok false d' ∧ clean d' := by
  obtain ⟨ps, h1, h2, h3, h4⟩ := run_lplaces hpl n d hn3 hd (k + 4 - n)
  rw [show k + 4 - n + n + 1 = k + 5 by omega] at h1
  have lp : 0 < (ps.length : Int) := by
    have : 0 < ps.length := List.length_pos_iff.mpr h2
    omega
  obtain ⟨v, qv, lv, uv⟩ := W.at (k := k + 3) ns a ha lp
  obtain ⟨j, rfl⟩ : ∃ j : Nat, v = j := ⟨v.toNat, by omega⟩
  obtain ⟨q, eq⟩ : ∃ q, ps[j]? = some q := ⟨_, List.getElem?_eq_getElem (by omega)⟩
  obtain ⟨lq, e, he, hse⟩ := h4 q (List.mem_of_getElem? eq)
  obtain ⟨s6, h6, fg⟩ := walk_place (FT := runL (PTof rows) (k + 5)) (.sh (.scr ns)) (.sh (.int a)) (.sh d) (.ow (.lst (ps.map plN))) (.sh (plN q)) q d e hd he hse .no rfl
  have oe : okN n e = true := shp_okN n e hse
  obtain ⟨w, qw, lw, uw⟩ := W.at (k := k + 3) ns (a + 1) (by omega) (show (0 : Int) < 23 by decide)
  have put : ∀ new, okN 5 new = true → ∃ d', runL (PTof rows) (k + 5) pu [d, plN q, new] = .ok false d' ∧ clean d' := fun new hnew => by
    obtain ⟨d', g1, g2⟩ := run_lput hpu hnew q n d e (by omega) hd he (k + 4 - q.length)
    rw [show k + 4 - q.length + q.length + 1 = k + 5 by omega] at g1
    exact ⟨d', g1, okN_le g2 (by omega)⟩
  have x1 : ixD (.lst (ps.map plN)) (.int (j : Int)) = some (plN q) := by
    show atD _ _ = _
    rw [atD_nat, List.getElem?_map, eq]; rfl
  rw [runL_at hf rfl]
  show ∃ d', endOf (evSs (runL (PTof rows) (k + 5)) _ [.sh (.scr ns), .sh (.int a), .sh d, .no, .no, .no, .no, .no, .no]) = _ ∧ _
  have q1 : evS (runL (PTof rows) (k + 5)) (.asg (.nm 3) (.call pl (.cons (.v 2) .nil))) [.sh (.scr ns), .sh (.int a), .sh d, .no, .no, .no, .no, .no, .no] = .ok .nx [.sh (.scr ns), .sh (.int a), .sh d, .ow (.lst (ps.map plN)), .no, .no, .no, .no, .no] := by simp [h1]
  have q2 : evS (runL (PTof rows) (k + 5)) (.asg (.nm 4) (.ix (.v 3) (.call p (.cons (.v 0) (.cons (.v 1) (.cons (.bi .len (.cons (.v 3) .nil)) .nil)))))) [.sh (.scr ns), .sh (.int a), .sh d, .ow (.lst (ps.map plN)), .no, .no, .no, .no, .no] = .ok .nx [.sh (.scr ns), .sh (.int a), .sh d, .ow (.lst (ps.map plN)), .sh (plN q), .no, .no, .no, .no] := by simp [-ixD_lst, x1, qv]
  have q3 : evS (runL (PTof rows) (k + 5)) (.asg (.nm 5) (.v 2)) [.sh (.scr ns), .sh (.int a), .sh d, .ow (.lst (ps.map plN)), .sh (plN q), .no, .no, .no, .no] = .ok .nx [.sh (.scr ns), .sh (.int a), .sh d, .ow (.lst (ps.map plN)), .sh (plN q), .sh d, .no, .no, .no] := by simp
  have q4 := evS_for_nx (FT := runL (PTof rows) (k + 5)) (t := .nm 6) (k := .seq) (es := .cons (.v 4) .nil) (st := [.sh (.scr ns), .sh (.int a), .sh d, .ow (.lst (ps.map plN)), .sh (plN q), .sh d, .no, .no, .no]) (ds := [plN q]) (by simp) (by rfl) fg
  generalize Slot.ow (.lst (ps.map plN)) = s3 at *
  have q5 : evS (runL (PTof rows) (k + 5)) (.asg (.nm 7) (.lst (.cons (.c (.int 0)) (.cons (.c (.int 1)) (.cons (.c (.int 2)) (.cons (.c (.int 99)) (.cons (.c (.int 100)) (.cons (.neg (.c (.int 99))) (.cons (.neg (.c (.int 100))) (.cons (.c (.int 999)) (.cons (.c (.int 1000)) (.cons (.c (.bl true)) (.cons (.c .non) (.cons (.c (.str "1")) (.cons (.tup .nil) (.cons (.tup (.cons (.c (.int 0)) (.cons (.c (.int 0)) (.cons (.c (.int 0)) .nil)))) (.cons (.lst (.cons (.c (.int 0)) .nil)) (.cons (.tup (.cons (.v 5) .nil)) (.cons (.tup (.cons (.v 5) (.cons (.v 5) .nil))) .nil))))))))))))))))))) [.sh (.scr ns), .sh (.int a), .sh d, s3, .sh (plN q), .sh e, s6, .no, .no] = .ok .nx [.sh (.scr ns), .sh (.int a), .sh d, s3, .sh (plN q), .sh e, s6, .ow (.lst (someL e)), .no] := by simp [someL]
  have q6 : evS (runL (PTof rows) (k + 5)) (.asg (.nm 8) (.call p (.cons (.v 0) (.cons (.bin .add (.v 1) (.c (.int 1))) (.cons (.c (.int 23)) .nil))))) [.sh (.scr ns), .sh (.int a), .sh d, s3, .sh (plN q), .sh e, s6, .ow (.lst (someL e)), .no] = .ok .nx [.sh (.scr ns), .sh (.int a), .sh d, s3, .sh (plN q), .sh e, s6, .ow (.lst (someL e)), .sh (.int w)] := by simp [qw]
  simp only [bLSp]
  rw [evSs_cons, q1, th_ok']; dsimp only
  rw [evSs_cons, q2, th_ok']; dsimp only
  rw [evSs_cons, q3, th_ok']; dsimp only
  rw [evSs_cons, q4, th_ok']; dsimp only
  rw [evSs_cons, q5, th_ok']; dsimp only
  rw [evSs_cons, q6, th_ok']; dsimp only
  have so := someL_ok hn oe
  have sl : (someL e).length = 17 := rfl
  generalize someL e = SL at *
  by_cases hw : w < 17
  · obtain ⟨i, rfl⟩ : ∃ i : Nat, w = i := ⟨w.toNat, by omega⟩
    obtain ⟨x, ex⟩ : ∃ x, SL[i]? = some x := ⟨_, List.getElem?_eq_getElem (by omega)⟩
    obtain ⟨d', g1, g2⟩ := put x (okN_le (so x (List.mem_of_getElem? ex)) (by omega))
    have x2 : ixD (.lst SL) (.int (i : Int)) = some x := by show atD _ _ = _; rw [atD_nat, ex]
    refine ⟨d', ?_, g2⟩
    simp [hw, -ixD_lst, x2, g1]
  · have q7 : evS (runL (PTof rows) (k + 5)) (.iff (.cmp .lt (.v 8) (.c (.int 17))) (.cons (.ret (.call pu (.cons (.v 2) (.cons (.v 4) (.cons (.ix (.v 7) (.v 8)) .nil))))) .nil) .nil) [.sh (.scr ns), .sh (.int a), .sh d, s3, .sh (plN q), .sh e, s6, .ow (.lst SL), .sh (.int w)] = .ok .nx [.sh (.scr ns), .sh (.int a), .sh d, s3, .sh (plN q), .sh e, s6, .ow (.lst SL), .sh (.int w)] := by simp [hw]
    rw [evSs_cons, q7, th_ok']; dsimp only
    cases e with
    | int i =>
      have ci : clean (.int i) := clean_int
      obtain ⟨d', g1, g2⟩ := put (.int (i + w - 21)) okN_int
      refine ⟨d', ?_, g2⟩
      simp [ci, isD, g1]
    | tup xs =>
      have ce : clean (.tup xs) := okN_le oe (by omega)
      have e1 := eqD_tn ce
      by_cases hx : xs = []
      · obtain ⟨d', g1, g2⟩ := put (.int 7) okN_int
        refine ⟨d', ?_, g2⟩
        subst hx
        have ii : isD .isInt (.tup []) = false := rfl
        have it : isD .isTuple (.tup []) = true := rfl
        simp only [List.isEmpty_nil] at e1
        simp [ce, ii, it, g1, e1]
      · have xe : xs.isEmpty = false := by cases xs with | nil => exact absurd rfl hx | cons a r => rfl
        rw [xe] at e1
        have lx : 0 < xs.length := List.length_pos_iff.mpr hx
        obtain ⟨z, qz, lz, uz⟩ := W.at (k := k + 3) ns (a + 2) (by omega) (show (0 : Int) < (xs.length : Int) by omega)
        obtain ⟨i, rfl⟩ : ∃ i : Nat, z = i := ⟨z.toNat, by omega⟩
        obtain ⟨m, em, hxs⟩ := okN_tup oe
        subst em
        have hxs := List.all_eq_true.mp hxs
        obtain ⟨m', _, hl12, _⟩ := shp_tup hse
        have s1 := slTD_tupn (xs := xs) i
        have s2 := slFD_tupn (xs := xs) (i + 1)
        have s3' := slTD_tupn (xs := xs) (i + 1)
        have s4 := slFD_tupn (xs := xs) i
        have ei : ((i + 1 : Nat) : Int) = (i : Int) + 1 := by omega
        rw [ei] at s2 s3'
        obtain ⟨d1, g1, g2⟩ := put (.tup (xs.take i ++ xs.drop (i + 1))) (okN_le (n := m + 1) (by
          show (xs.take i ++ xs.drop (i + 1)).all (okN m) = true
          rw [List.all_append, Bool.and_eq_true, List.all_eq_true, List.all_eq_true]
          exact ⟨fun y hy => hxs y (List.mem_of_mem_take hy), fun y hy => hxs y (List.mem_of_mem_drop hy)⟩) (by omega))
        obtain ⟨d2, g3, g4⟩ := put (.tup (xs.take (i + 1) ++ xs.drop i)) (okN_le (n := m + 1) (by
          show (xs.take (i + 1) ++ xs.drop i).all (okN m) = true
          rw [List.all_append, Bool.and_eq_true, List.all_eq_true, List.all_eq_true]
          exact ⟨fun y hy => hxs y (List.mem_of_mem_take hy), fun y hy => hxs y (List.mem_of_mem_drop hy)⟩) (by omega))
        have z1 : (xs.take i).length + (xs.drop (i + 1)).length ≤ SZ := by rw [List.length_take, List.length_drop]; exact Nat.le_trans (show _ ≤ 30 by omega) (by decide)
        have z2 : (xs.take (i + 1)).length + (xs.drop i).length ≤ SZ := by rw [List.length_take, List.length_drop]; exact Nat.le_trans (show _ ≤ 30 by omega) (by decide)
        have it : isD .isTuple (.tup xs) = true := rfl
        generalize xs.take i = A1 at *
        generalize xs.drop (i + 1) = A2 at *
        generalize xs.take (i + 1) = A3 at *
        generalize xs.drop i = A4 at *
        by_cases hw2 : w < 20
        · refine ⟨d1, ?_, g2⟩
          simp [ce, it, e1, qz, hw2, s1, s2, g1, z1]
        · refine ⟨d2, ?_, g4⟩
          simp [ce, it, e1, qz, hw2, s3', s4, g3, z2]
    | _ => cases n <;> simp [shp] at hse
end
end PD
set_option maxHeartbeats 4000000
set_option maxRecDepth 10000
namespace PD
/-! F53: refusals told by a word; of_points. -/
def bLWord : Ss :=
    (.cons (.asg (.nm 1) (.lst (.cons (.bi (.isExc 4 7) (.cons (.v 0) .nil)) (.cons (.bi (.isExc 3 7) (.cons (.v 0) .nil)) (.cons (.bi (.isExc 5 7) (.cons (.v 0) .nil)) (.cons (.bi (.isExc 6 7) (.cons (.v 0) .nil)) .nil))))))
    (.cons (.ext 1 (.lst (.cons (.bi (.isExc 2 7) (.cons (.v 0) .nil)) (.cons (.bi (.isExc 1 7) (.cons (.v 0) .nil)) .nil))))
    (.cons (.iff (.or (.cmp .ne (.mt .count (.v 1) (.cons (.c (.bl true)) .nil)) (.c (.int 1))) (.not (.bi (.isExc 100 7) (.cons (.v 0) .nil)))) (.cons (.ret (.c (.str "wrong")))
    .nil) .nil)
    (.cons (.ret (.ix (.lst (.cons (.c (.str "no fit")) (.cons (.c (.str "no number")) (.cons (.c (.str "no point")) (.cons (.c (.str "no text")) (.cons (.c (.str "no time")) (.cons (.c (.str "no track")) .nil))))))) (.mt .index (.v 1) (.cons (.c (.bl true)) .nil))))
    .nil))))
def sD (x : String) : D := .str (PySem.Str.ofString x)
/-- the word of a refusal -/
def wordOf : Nat → D
  | 1 => sD "no track"
  | 2 => sD "no time"
  | 3 => sD "no number"
  | 4 => sD "no fit"
  | 5 => sD "no point"
  | 6 => sD "no text"
  | _ => sD "wrong"
theorem isExc_is {c n k : Nat} : biD (.isExc c n) [.exc k] = (if decide (k < n) then some (false, .bl (excIs c k)) else none) := by
  first | rfl | (simp [biD, isD]; done)
section
variable {a b c d e g : D}
theorem at60 : atD [a, b, c, d, e, g] 0 = some a := rfl
theorem at61 : atD [a, b, c, d, e, g] 1 = some b := rfl
theorem at62 : atD [a, b, c, d, e, g] 2 = some c := rfl
theorem at63 : atD [a, b, c, d, e, g] 3 = some d := rfl
theorem at64 : atD [a, b, c, d, e, g] 4 = some e := rfl
theorem at65 : atD [a, b, c, d, e, g] 5 = some g := rfl
end
section
variable {rows : List DRow}
theorem run_word {f k : Nat} (hf : At rows f ⟨1, 2, bLWord⟩) {c : Nat} (h1 : 1 ≤ c) (h2 : c ≤ 6) : runL (PTof rows) (k + 1) f [.exc c] = .ok false (wordOf c) := by
  rw [runL_at hf rfl]
  have : c = 1 ∨ c = 2 ∨ c = 3 ∨ c = 4 ∨ c = 5 ∨ c = 6 := by omega
  have z : 6 < SZ := by decide
  rcases this with rfl | rfl | rfl | rfl | rfl | rfl
  · have m1 : mtD .count (.lst [.bl false, .bl false, .bl false, .bl false, .bl false, .bl true]) [.bl true] = some (false, .int 1) := rfl
    have m2 : mtD .index (.lst [.bl false, .bl false, .bl false, .bl false, .bl false, .bl true]) [.bl true] = some (false, .int 5) := rfl
    simp [bLWord, isExc_is, excIs, evE_mt, mtOk, isLstO, List.replicate, wordOf, sD, z, m1, m2, at60, at61, at62, at63, at64, at65]
  · have m1 : mtD .count (.lst [.bl false, .bl false, .bl false, .bl false, .bl true, .bl false]) [.bl true] = some (false, .int 1) := rfl
    have m2 : mtD .index (.lst [.bl false, .bl false, .bl false, .bl false, .bl true, .bl false]) [.bl true] = some (false, .int 4) := rfl
    simp [bLWord, isExc_is, excIs, evE_mt, mtOk, isLstO, List.replicate, wordOf, sD, z, m1, m2, at60, at61, at62, at63, at64, at65]
  · have m1 : mtD .count (.lst [.bl false, .bl true, .bl false, .bl false, .bl false, .bl false]) [.bl true] = some (false, .int 1) := rfl
    have m2 : mtD .index (.lst [.bl false, .bl true, .bl false, .bl false, .bl false, .bl false]) [.bl true] = some (false, .int 1) := rfl
    simp [bLWord, isExc_is, excIs, evE_mt, mtOk, isLstO, List.replicate, wordOf, sD, z, m1, m2, at60, at61, at62, at63, at64, at65]
  · have m1 : mtD .count (.lst [.bl true, .bl false, .bl false, .bl false, .bl false, .bl false]) [.bl true] = some (false, .int 1) := rfl
    have m2 : mtD .index (.lst [.bl true, .bl false, .bl false, .bl false, .bl false, .bl false]) [.bl true] = some (false, .int 0) := rfl
    simp [bLWord, isExc_is, excIs, evE_mt, mtOk, isLstO, List.replicate, wordOf, sD, z, m1, m2, at60, at61, at62, at63, at64, at65]
  · have m1 : mtD .count (.lst [.bl false, .bl false, .bl true, .bl false, .bl false, .bl false]) [.bl true] = some (false, .int 1) := rfl
    have m2 : mtD .index (.lst [.bl false, .bl false, .bl true, .bl false, .bl false, .bl false]) [.bl true] = some (false, .int 2) := rfl
    simp [bLWord, isExc_is, excIs, evE_mt, mtOk, isLstO, List.replicate, wordOf, sD, z, m1, m2, at60, at61, at62, at63, at64, at65]
  · have m1 : mtD .count (.lst [.bl false, .bl false, .bl false, .bl true, .bl false, .bl false]) [.bl true] = some (false, .int 1) := rfl
    have m2 : mtD .index (.lst [.bl false, .bl false, .bl false, .bl true, .bl false, .bl false]) [.bl true] = some (false, .int 3) := rfl
    simp [bLWord, isExc_is, excIs, evE_mt, mtOk, isLstO, List.replicate, wordOf, sD, z, m1, m2, at60, at61, at62, at63, at64, at65]
variable {w p t l c k : Nat}
theorem run_lookedD {f : Nat} (T : Trk rows w p t l c) (hf : At rows f ⟨1, 1, bLooked l⟩) {d : D} (hd : clean d) (h : isTrD d = false) : runL (PTof rows) (k + 5) f [d] = .exc c := by
  rw [runL_at hf rfl]
  have := run_lookD (k := k) T hd h
  simp [bLooked, this]
theorem run_turnedD {f : Nat} (T : Trk rows w p t l c) (hf : At rows f ⟨1, 4, bTurned l⟩) {d : D} (hd : clean d) (h : isTrD d = false) : runL (PTof rows) (k + 5) f [d] = .exc c := by
  rw [runL_at hf rfl]
  have := run_lookD (k := k) T hd h
  simp [bTurned, this, List.replicate]
def bOfP (fpt fld cx0 : Nat) : Ss :=
    (.cons (.iff (.or (.not (.bi .isList (.cons (.v 0) .nil))) (.not (.bi .all (.cons (.lc (.call fpt (.cons (.v 1) .nil)) (.nm 1) .seq (.cons (.v 0) .nil) .nil [1]) .nil)))) (.cons (.raise cx0)
    .nil) .nil)
    (.cons (.ret (.call fld (.cons (.bi .tuple (.cons (.bi .sorted (.cons (.v 0) .nil)) .nil)) .nil)))
    .nil))
theorem isPtD_pt (p : Pt) : isPtD (pD p) = okP p := rfl
theorem clean_pD (p : Pt) : clean (pD p) := rfl
theorem clean_pts (ps : List Pt) : clean (.lst (ps.map pD)) := by
  show (ps.map pD).all (okN 59) = true
  rw [List.all_map]
  exact List.all_eq_true.mpr fun n _ => rfl
theorem clean_trD (ps : List Pt) : clean (trD ps) := clean_pts ps
theorem sort_pts : ∀ (ps : List Pt), ps.length ≤ 63 → ∃ qs : List Pt, sortD (ps.map pD) = some (qs.map pD) ∧ qs.Perm ps ∧ qs.Pairwise fun a b => a.1 ≤ b.1
  | [], _ => ⟨[], by simp [sortD, sortD2, intsD], .refl _, .nil⟩
  | a :: r, hl => by
    obtain ⟨ps, eps⟩ : ∃ ps, ps = a :: r := ⟨_, rfl⟩
    rw [← eps] at hl ⊢
    have n1 : sortD2 (ps.map pD) = none := by
      subst eps
      unfold sortD2
      rw [if_neg (by rw [List.length_map]; omega)]
      rfl
    have o1 : okSort (ps.map pD) = true := by
      unfold okSort
      simp only [Bool.and_eq_true, List.all_eq_true, List.mem_map]
      refine ⟨⟨?_, ?_⟩, ?_⟩
      · rintro _ ⟨p, _, rfl⟩; rfl
      · rintro _ ⟨p, _, rfl⟩ _ ⟨q, _, rfl⟩; rfl
      · rintro _ ⟨p, _, rfl⟩; rfl
    have pm := List.mergeSort_perm (ps.map pD) leQ
    have pw := List.pairwise_mergeSort (le := leQ) leQ_trans leQ_total (ps.map pD)
    have e : sortD (ps.map pD) = some ((ps.map pD).mergeSort leQ) := by
      unfold sortD
      rw [n1]
      simp [o1, hl]
    generalize (ps.map pD).mergeSort leQ = L at *
    have hL : ∀ L : List D, (∀ x ∈ L, ∃ p : Pt, x = pD p) → ∃ qs : List Pt, L = qs.map pD := by
      intro L
      induction L with
      | nil => exact fun _ => ⟨[], rfl⟩
      | cons x r ih =>
        intro h
        obtain ⟨p, rfl⟩ := h x List.mem_cons_self
        obtain ⟨qs, rfl⟩ := ih fun y hy => h y (List.mem_cons_of_mem _ hy)
        exact ⟨p :: qs, rfl⟩
    obtain ⟨qs, rfl⟩ := hL L fun x hx => by
      have := pm.mem_iff.mp hx
      obtain ⟨p, _, rfl⟩ := List.mem_map.mp this
      exact ⟨p, rfl⟩
    refine ⟨qs, e, ?_, ?_⟩
    · have hf : ∀ l : List Pt, (l.map pD).filterMap toPt = l := by
        intro l
        induction l with
        | nil => rfl
        | cons a r ih => rw [List.map_cons, List.filterMap_cons, ih]; rfl
      have := pm.filterMap toPt
      rwa [hf, hf] at this
    · rw [List.pairwise_map] at pw
      refine pw.imp fun {a b} h => ?_
      simp only [leQ, Bool.not_eq_true'] at h
      by_cases hh : a.1 ≤ b.1
      · exact hh
      · exfalso
        have : ltQ (pD b) (pD a) = true := by
          simp only [pD, ltQ, ltQs, Bool.or_eq_true, decide_eq_true_eq]
          left; omega
        rw [this] at h; cases h
theorem pts_all (ps : List Pt) : (ps.map pD).all isPtD = ps.all okP := by rw [List.all_map]; rfl
theorem run_ofp_bad {f fl : Nat} (T : Trk rows w p t l c) (hl : At rows fl ⟨1, 1, bLooked l⟩) (hf : At rows f ⟨1, 2, bOfP p fl c⟩) {d : D} (hd : clean d) (h : ∀ xs, d = .lst xs → xs.length ≤ 40 ∧ xs.all isPtD = false) : runL (PTof rows) (k + 6) f [d] = .exc c := by
  rw [runL_at hf rfl]
  cases it : isD .isList d with
  | false => simp [bOfP, hd, it]
  | true =>
    cases d <;> simp [isD] at it
    rename_i xs
    obtain ⟨hx, ea⟩ := h xs rfl
    have hi : isD .isList (.lst xs) = true := rfl
    have sz : xs.length ≤ SZ := Nat.le_trans hx (by decide)
    have m1 := lcGo_map (tg := .nm 1) (own := [1]) (cond := evC (runL (PTof rows) (k + 5)) .nil) (elt := evE (runL (PTof rows) (k + 5)) (.call p (.cons (.v 1) .nil))) (enc := fun d : D => d) (f := fun q => .bl (isPtD q)) (w := [.sh (.lst xs), .no]) xs []
      fun a ha => by simp [run_pointD (k := k + 3) T.hw T.hp (clean_lst hd a ha), wipeS]
    have a1 := allB_map isPtD xs
    rw [ea] at a1
    simp only [List.nil_append, List.map_id'] at m1
    simp [bOfP, hd, hi, evE_lc, iterD, itSeq, itemsD, wipeOk, lockAll, wipeS, sz, m1, Res.noExc, unlockAll, backS, a1]
theorem run_ofp_pts {f fl : Nat} (T : Trk rows w p t l c) (hl : At rows fl ⟨1, 1, bLooked l⟩) (hf : At rows f ⟨1, 2, bOfP p fl c⟩) {ps : List Pt} (ho : ps.all okP = true) (hn : ps.length ≤ 40) : ∃ qs : List Pt, qs.Perm ps ∧ qs.Pairwise (fun a b => a.1 ≤ b.1) ∧ runL (PTof rows) (k + 6) f [.lst (ps.map pD)] = if okT qs then .ok false (trD qs) else .exc c := by
  obtain ⟨qs, h1, h2, h3⟩ := sort_pts ps (by omega)
  refine ⟨qs, h2, h3, ?_⟩
  rw [runL_at hf rfl]
  have hd := clean_pts ps
  have hi : isD .isList (.lst (ps.map pD)) = true := rfl
  have ea := pts_all ps
  rw [ho] at ea
  have sz : (ps.map pD).length ≤ SZ := by rw [List.length_map]; exact Nat.le_trans hn (by decide)
  have m1 := lcGo_map (tg := .nm 1) (own := [1]) (cond := evC (runL (PTof rows) (k + 5)) .nil) (elt := evE (runL (PTof rows) (k + 5)) (.call p (.cons (.v 1) .nil))) (enc := fun d : D => d) (f := fun q => .bl (isPtD q)) (w := [.sh (.lst (ps.map pD)), .no]) (ps.map pD) []
    fun a ha => by simp [run_pointD (k := k + 3) T.hw T.hp (clean_lst hd a ha), wipeS]
  have a1 := allB_map isPtD (ps.map pD)
  rw [ea] at a1
  rw [List.nil_append, List.map_id'] at m1
  have lk : runL (PTof rows) (k + 5) fl [trD qs] = if okT qs then .ok false (trD qs) else .exc c := by
    cases e : okT qs with
    | true => rw [if_pos rfl]; exact run_looked T hl e
    | false => rw [if_neg (by simp)]; exact run_lookedD T hl (clean_trD qs) (by rw [isTrD_tr, e])
  generalize ps.map pD = L at *
  unfold trD at lk ⊢
  generalize qs.map pD = M at *
  have bs : biD .sorted [.lst L] = some (true, .lst M) := by
    show (sortD L).map _ = _
    rw [h1]; rfl
  have bs2 : sortedB [.lst L] = some (true, .lst M) := bs
  cases e : okT qs <;> rw [e] at lk <;> simp at lk <;>
  simp [bOfP, hd, hi, evE_lc, iterD, itSeq, itemsD, wipeOk, lockAll, wipeS, sz, m1, Res.noExc, unlockAll, backS, a1, bs, bs2, tupleB, seqD, sh1, lk]
theorem perm_track : ∀ {qs ps : List Pt}, qs.Perm ps → qs.Pairwise (fun a b => a.1 ≤ b.1) → ps.Pairwise (fun a b => a.1 < b.1) → qs = ps
  | [], ps, h, _, _ => by rw [List.nil_perm.mp h]
  | a :: r, [], h, _, _ => by have := h.length_eq; simp at this
  | a :: r, b :: s, h, h1, h2 => by
    have ha : a ∈ b :: s := h.mem_iff.mp List.mem_cons_self
    have hb : b ∈ a :: r := h.mem_iff.mpr List.mem_cons_self
    have h1' := List.pairwise_cons.mp h1
    have h2' := List.pairwise_cons.mp h2
    have e : a = b := by
      rcases List.mem_cons.mp ha with e | ha
      · exact e
      rcases List.mem_cons.mp hb with e | hb
      · exact e.symm
      have := h1'.1 b hb
      have := h2'.1 a ha
      omega
    subst e
    rw [perm_track (List.Perm.cons_inv h) h1'.2 h2'.2]
end
end PD
set_option maxHeartbeats 4000000
set_option maxRecDepth 10000
namespace PD
/-! F54: what tracks measure. -/
def bLim (fw cx0 : Nat) : Ss :=
    (.cons (.iff (.not (.call fw (.cons (.v 0) (.cons (.c (.int 0)) (.cons (.c (.int 999)) .nil))))) (.cons (.raise cx0)
    .nil) .nil)
    .nil)
def bFastQ : Ss :=
    (.cons (.asg (.tup (.cons (.nm 3) (.cons (.nm 4) (.cons (.nm 5) .nil)))) (.lc (.bin .sub (.v 7) (.v 6)) (.tup (.cons (.nm 6) (.cons (.nm 7) .nil))) .zip (.cons (.v 0) (.cons (.v 1) .nil)) .nil [6, 7]))
    (.cons (.ret (.cmp .gt (.bin .add (.bin .mul (.v 4) (.v 4)) (.bin .mul (.v 5) (.v 5))) (.bin .mul (.bin .mul (.bin .mul (.v 2) (.v 2)) (.v 3)) (.v 3))))
    .nil))
def bFast (flk flim ftf : Nat) : Ss :=
    (.cons (.ex (.call flk (.cons (.v 0) .nil)))
    (.cons (.ex (.call flim (.cons (.v 1) .nil)))
    (.cons (.ret (.lc (.v 2) (.nm 2) .range (.cons (.bin .sub (.bi .len (.cons (.v 0) .nil)) (.c (.int 1))) .nil) (.cons (.call ftf (.cons (.ix (.v 0) (.v 2)) (.cons (.ix (.v 0) (.bin .add (.v 2) (.c (.int 1)))) (.cons (.v 1) .nil)))) .nil) [2]))
    .nil)))
def bStepsM (flk : Nat) : Ss :=
    (.cons (.ex (.call flk (.cons (.v 0) .nil)))
    (.cons (.ret (.lc (.bi .tuple (.cons (.lc (.bin .sub (.v 4) (.v 3)) (.tup (.cons (.nm 3) (.cons (.nm 4) .nil))) .zip (.cons (.v 1) (.cons (.v 2) .nil)) .nil [3, 4]) .nil)) (.tup (.cons (.nm 1) (.cons (.nm 2) .nil))) .zip (.cons (.v 0) (.cons (.slF (.v 0) (.c (.int 1))) .nil)) .nil [1, 2]))
    .nil))
def bBoxM (flk : Nat) : Ss :=
    (.cons (.ex (.call flk (.cons (.v 0) .nil)))
    (.cons (.asg (.nm 1) (.lc (.lc (.ix (.v 3) (.v 2)) (.nm 3) .seq (.cons (.v 0) .nil) .nil [3]) (.nm 2) .seq (.cons (.tup (.cons (.c (.int 1)) (.cons (.c (.int 2)) .nil))) .nil) .nil [2]))
    (.cons (.ret (.tup (.cons (.bi .min (.cons (.ix (.v 1) (.c (.int 0))) .nil)) (.cons (.bi .min (.cons (.ix (.v 1) (.c (.int 1))) .nil)) (.cons (.bi .max (.cons (.ix (.v 1) (.c (.int 0))) .nil)) (.cons (.bi .max (.cons (.ix (.v 1) (.c (.int 1))) .nil)) .nil))))))
    .nil)))
def bWholeM (f_steps : Nat) : Ss :=
    (.cons (.ret (.bi .sum (.cons (.lc (.bin .add (.bi .abs (.cons (.v 2) .nil)) (.bi .abs (.cons (.v 3) .nil))) (.tup (.cons (.nm 1) (.cons (.nm 2) (.cons (.nm 3) .nil)))) .seq (.cons (.call f_steps (.cons (.v 0) .nil)) .nil) .nil [1, 2, 3]) .nil)))
    .nil)
def bLeast (flk ftf : Nat) : Ss :=
    (.cons (.ex (.call flk (.cons (.v 0) .nil)))
    (.cons (.asg (.nm 1) (.c (.int 0)))
    (.cons (.for_ (.tup (.cons (.nm 2) (.cons (.nm 3) .nil))) .zip (.cons (.v 0) (.cons (.slF (.v 0) (.c (.int 1))) .nil)) (.cons (.whl (.call ftf (.cons (.v 2) (.cons (.v 3) (.cons (.v 1) .nil)))) (.cons (.asg (.nm 1) (.bin .add (.v 1) (.c (.int 1))))
    .nil))
    .nil))
    (.cons (.ret (.v 1))
    .nil))))
/-- a step -/
def stP (a b : Pt) : Pt := (b.1 - a.1, b.2.1 - a.2.1, b.2.2 - a.2.2)
/-- a step's square way and square time -/
def sqW (s : Pt) : Int := s.2.1 * s.2.1 + s.2.2 * s.2.2
def tfP (s : Pt) (L : Int) : Bool := decide (L * L * s.1 * s.1 < sqW s)
def stepsL (ps : List Pt) : List Pt := (ps.zip (ps.drop 1)).map fun q => stP q.1 q.2
/-- a small point -/
def smT (a : Pt) : Prop := (0 ≤ a.1 ∧ a.1 ≤ 999) ∧ (-99 ≤ a.2.1 ∧ a.2.1 ≤ 99) ∧ -99 ≤ a.2.2 ∧ a.2.2 ≤ 99
theorem smT_of {ps : List Pt} (h : okT ps = true) {q : Pt} (hq : q ∈ ps) : smT q := by
  have := okT_pt h hq
  unfold smT; omega
def stepAt (ps : List Pt) (j : Nat) : Pt := stP (ps.getD j (0, 0, 0)) (ps.getD (j + 1) (0, 0, 0))
/-- numbers of steps beyond a limit -/
def fastL (ps : List Pt) (L : Int) : List Nat := (List.range (ps.length - 1)).filter fun j => tfP (stepAt ps j) L
def nsD (l : List Nat) : D := .lst (l.map fun (j : Nat) => .int (j : Int))
section
variable {rows : List DRow} {w p t l c k : Nat} {ps : List Pt}
theorem run_lim {f cx : Nat} (hw : At rows w ⟨3, 3, bWhole⟩) (hf : At rows f ⟨1, 1, bLim w cx⟩) {d : D} (hd : clean d) : runL (PTof rows) (k + 2) f [d] = if isWh 0 999 d then .ok false .non else .exc cx := by
  rw [runL_at hf rfl]
  have := run_wholeD (k := k) hw hd 0 999
  cases h : isWh 0 999 d <;> rw [h] at this <;> simp [bLim, this]
theorem run_tf {f : Nat} (hf : At rows f ⟨3, 8, bFastQ⟩) {a b : Pt} (ha : smT a) (hb : smT b) {L : Int} (hL : -10000 ≤ L ∧ L ≤ 10000) : runL (PTof rows) (k + 1) f [pD a, pD b, .int L] = .ok false (.bl (tfP (stP a b) L)) := by
  rw [runL_at hf rfl]
  unfold smT at ha hb
  have z : (3 : Nat) ≤ SZ := by decide
  have m1 : mulOk (b.2.1 - a.2.1) (b.2.1 - a.2.1) := mulOk_l (by omega)
  have m2 : mulOk (b.2.2 - a.2.2) (b.2.2 - a.2.2) := mulOk_l (by omega)
  have m3 : mulOk L L := mulOk_l (by omega)
  have m4 : mulOk (L * L) (b.1 - a.1) := mulOk_r (by omega)
  have m5 : mulOk (L * L * (b.1 - a.1)) (b.1 - a.1) := mulOk_r (by omega)
  have e : tfP (stP a b) L = decide (L * L * (b.1 - a.1) * (b.1 - a.1) < (b.2.1 - a.2.1) * (b.2.1 - a.2.1) + (b.2.2 - a.2.2) * (b.2.2 - a.2.2)) := rfl
  rw [e]
  simp [bFastQ, pD, evE_lc, iterD, itZip, zipD, wipeOk, lockAll, wipeS, lcGo, Res.noExc, unlockAll, backS, z, m1, m2, m3, m4, m5, List.replicate]
theorem getD_mem {ps : List Pt} {j : Nat} (h : j < ps.length) : ps.getD j (0, 0, 0) ∈ ps := by
  rw [List.getD_eq_getElem?_getD, List.getElem?_eq_getElem h]
  exact List.getElem_mem h
theorem ixD_tr {ps : List Pt} {j : Nat} {i : Int} (hi : i = (j : Int)) (h : j < ps.length) : ixD (trD ps) (.int i) = some (pD (ps.getD j (0, 0, 0))) := by
  subst hi
  show atD (ps.map pD) _ = _
  rw [atD_nat, List.getElem?_map, List.getD_eq_getElem?_getD, List.getElem?_eq_getElem h]
  rfl
theorem run_fast {f fl ft cx : Nat} (T : Trk rows w p t l c) (hl : At rows fl ⟨1, 1, bLim w cx⟩) (ht : At rows ft ⟨3, 8, bFastQ⟩) (hf : At rows f ⟨2, 3, bFast l fl ft⟩) (h : okT ps = true) {L : Int} (hL : 0 ≤ L ∧ L ≤ 999) : runL (PTof rows) (k + 5) f [trD ps, .int L] = .ok true (nsD (fastL ps L)) := by
  rw [runL_at hf rfl]
  have lk := run_look (k := k) T h
  have lm := run_lim (k := k + 2) T.hw hl (clean_int (i := L))
  have wh : isWh 0 999 (.int L) = true := by simp [isWh]; omega
  rw [wh, if_pos rfl] at lm
  have hn := okT_len h
  have tl : (ps.map pD).length = ps.length := List.length_map ..
  have m := lcGo_filter (tg := .nm 2) (own := [2]) (cond := evC (runL (PTof rows) (k + 4)) (.cons (.call ft (.cons (.ix (.v 0) (.v 2)) (.cons (.ix (.v 0) (.bin .add (.v 2) (.c (.int 1)))) (.cons (.v 1) .nil)))) .nil)) (elt := evE (runL (PTof rows) (k + 4)) (.v 2)) (enc := fun (j : Nat) => .int (0 + (j : Int))) (f := fun (j : Nat) => .int (j : Int)) (p := fun j => tfP (stepAt ps j) L) (w := [.sh (trD ps), .sh (.int L), .no]) (List.range' 0 (ps.length - 1)) []
    fun j hj => by
      have hj : j < ps.length - 1 := by have := List.mem_range'.mp hj; obtain ⟨i, h1, h2⟩ := this; omega
      have x1 := ixD_tr (ps := ps) (j := j) (i := (j : Int)) rfl (by omega)
      have x2 := ixD_tr (ps := ps) (j := j + 1) (i := (j : Int) + 1) (by omega) (by omega)
      have q := run_tf (k := k + 3) ht (smT_of h (getD_mem (ps := ps) (j := j) (by omega))) (smT_of h (getD_mem (ps := ps) (j := j + 1) (by omega))) (L := L) (by omega)
      have e : stP (ps.getD j (0, 0, 0)) (ps.getD (j + 1) (0, 0, 0)) = stepAt ps j := rfl
      rw [e] at q
      generalize ps.getD j (0, 0, 0) = g1 at *
      generalize ps.getD (j + 1) (0, 0, 0) = g2 at *
      generalize trD ps = tr at *
      exact ⟨[.sh tr, .sh (.int L), .sh (.int (j : Int))], false, false, [.sh tr, .sh (.int L), .sh (.int (j : Int))], [.sh tr, .sh (.int L), .sh (.int (j : Int))], by simp, by
        rw [evC_one]
        cases hp : tfP (stepAt ps j) L <;> rw [hp] at q <;> simp [x1, x2, q], by simp [wipeS], fun _ => ⟨by simp, by simp [wipeS]⟩⟩
  have EE := evE_lc_of (FT := runL (PTof rows) (k + 4)) (k := .range) (es := .cons (.bin .sub (.bi .len (.cons (.v 0) .nil)) (.c (.int 1))) .nil) (st := [.sh (trD ps), .sh (.int L), .no]) (st1 := [.sh (trD ps), .sh (.int L), .no]) (os := [.val (.int ((ps.length - 1 : Nat) : Int))]) (ds := [.int ((ps.length - 1 : Nat) : Int)]) (by
    have e : (ps.length : Int) - 1 = ((ps.length - 1 : Nat) : Int) := by omega
    unfold trD
    simp [e]) rfl ((iterD_range _).trans (itRange_0 (by omega))) (by
      rw [Bool.and_eq_true]; refine ⟨rfl, decide_eq_true ?_⟩
      rw [List.length_map, List.length_range']; exact Nat.le_trans (show _ ≤ 12 by omega) (by decide)) m
  rw [← List.range_eq_range'] at EE
  simp only [lockAll, backS, unlockAll, List.nil_append, List.getElem?_cons_zero, List.getElem?_cons_succ, Option.getD_some, List.set] at EE
  show endOf (evSs (runL (PTof rows) (k + 4)) _ [.sh (trD ps), .sh (.int L), .no]) = _
  unfold bFast
  have R : ∀ st, evR (runL (PTof rows) (k + 4)) (E.lc (.v 2) (.nm 2) .range (.cons (.bin .sub (.bi .len (.cons (.v 0) .nil)) (.c (.int 1))) .nil) (.cons (.call ft (.cons (.ix (.v 0) (.v 2)) (.cons (.ix (.v 0) (.bin .add (.v 2) (.c (.int 1)))) (.cons (.v 1) .nil)))) .nil) [2]) st = _ := fun st => evR_e (by simp)
  generalize E.lc (.v 2) (.nm 2) .range (.cons (.bin .sub (.bi .len (.cons (.v 0) .nil)) (.c (.int 1))) .nil) (.cons (.call ft (.cons (.ix (.v 0) (.v 2)) (.cons (.ix (.v 0) (.bin .add (.v 2) (.c (.int 1)))) (.cons (.v 1) .nil)))) .nil) [2] = C at *
  have q1 : evS (runL (PTof rows) (k + 4)) (.ex (.call l (.cons (.v 0) .nil))) [.sh (trD ps), .sh (.int L), .no] = .ok .nx [.sh (trD ps), .sh (.int L), .no] := by simp [lk]
  have q2 : evS (runL (PTof rows) (k + 4)) (.ex (.call fl (.cons (.v 1) .nil))) [.sh (trD ps), .sh (.int L), .no] = .ok .nx [.sh (trD ps), .sh (.int L), .no] := by simp [lm]
  rw [evSs_cons, q1, th_ok']; dsimp only
  rw [evSs_cons, q2, th_ok']; dsimp only
  rw [evSs_cons, evS_ret, R, EE, th_ok', th_ok']
  rfl
theorem trD_drop1 (ps : List Pt) (st : List Slot) (FT : Nat → List D → FR) (j : Nat) (h : st[j]? = some (.sh (trD ps))) : evA FT (.cons (.v j) (.cons (.slF (.v j) (.c (.int 1))) .nil)) st = .ok [trD ps, trD (ps.drop 1)] st := by
  unfold trD at h ⊢
  simp [h, slFD_tup1]
theorem iter_zip (ps : List Pt) : iterD .zip [trD ps, trD (ps.drop 1)] = some ((ps.zip (ps.drop 1)).map fun q => .tup [pD q.1, pD q.2]) := by
  show some (zipD (ps.map pD) ((ps.drop 1).map pD)) = _
  rw [zipD_map]
theorem zip_len (ps : List Pt) (h : ps.length ≤ 12) : ((ps.zip (ps.drop 1)).map fun q : Pt × Pt => D.tup [pD q.1, pD q.2]).length ≤ SZ := by
  rw [List.length_map, List.length_zip]
  exact Nat.le_trans (Nat.min_le_left _ _) (sz_12 h)
theorem run_stepsM {f : Nat} (T : Trk rows w p t l c) (hf : At rows f ⟨1, 5, bStepsM l⟩) (h : okT ps = true) : runL (PTof rows) (k + 5) f [trD ps] = .ok true (.lst ((stepsL ps).map pD)) := by
  rw [runL_at hf rfl]
  have lk := run_look (k := k) T h
  have hn := okT_len h
  have z : (3 : Nat) ≤ SZ := by decide
  have m := lcGo_map (tg := .tup (.cons (.nm 1) (.cons (.nm 2) .nil))) (own := [1, 2]) (cond := evC (runL (PTof rows) (k + 4)) .nil) (elt := evE (runL (PTof rows) (k + 4)) (.bi .tuple (.cons (.lc (.bin .sub (.v 4) (.v 3)) (.tup (.cons (.nm 3) (.cons (.nm 4) .nil))) .zip (.cons (.v 1) (.cons (.v 2) .nil)) .nil [3, 4]) .nil))) (enc := fun q : Pt × Pt => .tup [pD q.1, pD q.2]) (f := fun q => pD (stP q.1 q.2)) (w := [.sh (trD ps), .no, .no, .no, .no]) (ps.zip (ps.drop 1)) []
    fun q _ => ⟨[.sh (trD ps), .sh (pD q.1), .sh (pD q.2), .no, .no], false, false, _, [.sh (trD ps), .sh (pD q.1), .sh (pD q.2), .no, .no], by simp, by rw [evC_nil], by
      unfold pD
      simp [stP, evE_lc, iterD, itZip, zipD, wipeOk, lockAll, wipeS, lcGo, Res.noExc, unlockAll, backS, z, tupleB, seqD, sh1], by simp [wipeS]⟩
  have EE := evE_lc_of (FT := runL (PTof rows) (k + 4)) (k := .zip) (es := .cons (.v 0) (.cons (.slF (.v 0) (.c (.int 1))) .nil)) (st := [.sh (trD ps), .no, .no, .no, .no]) (st1 := [.sh (trD ps), .no, .no, .no, .no]) (os := [.val (trD ps), .val (trD (ps.drop 1))]) (ds := [trD ps, trD (ps.drop 1)]) (by
    have s1 := slFD_tup1 (xs := ps.map pD)
    unfold trD
    simp [s1]) rfl (iter_zip ps) (by rw [Bool.and_eq_true]; exact ⟨rfl, decide_eq_true (zip_len ps hn.2)⟩) m
  have e : ((ps.zip (ps.drop 1)).map fun q : Pt × Pt => pD (stP q.1 q.2)) = (stepsL ps).map pD := by rw [stepsL, List.map_map]; rfl
  rw [e] at EE
  simp only [lockAll, backS, unlockAll, List.nil_append, List.getElem?_cons_zero, List.getElem?_cons_succ, Option.getD_some, List.set] at EE
  show endOf (evSs (runL (PTof rows) (k + 4)) _ [.sh (trD ps), .no, .no, .no, .no]) = _
  unfold bStepsM
  have R := fun st => evR_e (FT := runL (PTof rows) (k + 4)) (st := st) (e := .lc (.bi .tuple (.cons (.lc (.bin .sub (.v 4) (.v 3)) (.tup (.cons (.nm 3) (.cons (.nm 4) .nil))) .zip (.cons (.v 1) (.cons (.v 2) .nil)) .nil [3, 4]) .nil)) (.tup (.cons (.nm 1) (.cons (.nm 2) .nil))) .zip (.cons (.v 0) (.cons (.slF (.v 0) (.c (.int 1))) .nil)) .nil [1, 2]) (by simp)
  have q1 : evS (runL (PTof rows) (k + 4)) (.ex (.call l (.cons (.v 0) .nil))) [.sh (trD ps), .no, .no, .no, .no] = .ok .nx [.sh (trD ps), .no, .no, .no, .no] := by simp [lk]
  rw [evSs_cons, q1, th_ok']; dsimp only
  rw [evSs_cons, evS_ret, R, EE, th_ok', th_ok']
  rfl
theorem run_boxM {f : Nat} (T : Trk rows w p t l c) (hf : At rows f ⟨1, 4, bBoxM l⟩) (h : okT ps = true) :
    runL (PTof rows) (k + 5) f [trD ps] = .ok false (.tup [.int (minI (ps.map (·.2.1))), .int (minI (ps.map (·.2.2))), .int (maxI (ps.map (·.2.1))), .int (maxI (ps.map (·.2.2)))]) := by
  rw [runL_at hf rfl]
  have lk := run_look (k := k) T h
  have hl := okT_len h
  have szp := sz_12 hl.2
  have m := fun (j : D) (fj : Pt → Int) (hj : ∀ q : Pt, ixD (pD q) j = some (.int (fj q))) (s1 : Slot) => lcGo_map (tg := .nm 3) (own := [3]) (cond := evC (runL (PTof rows) (k + 4)) .nil) (elt := evE (runL (PTof rows) (k + 4)) (.ix (.v 3) (.v 2))) (enc := pD) (f := fun q => .int (fj q))
    (w := [.sh (trD ps), s1, .sh j, .no]) ps []
    fun q _ => ⟨[.sh (trD ps), s1, .sh j, .sh (pD q)], false, false, _, [.sh (trD ps), s1, .sh j, .sh (pD q)], by simp, by rw [evC_nil], by simp [hj], by simp [wipeS]⟩
  have m1 := m (.int 1) (fun q => q.2.1) (fun q => rfl)
  have m2 := m (.int 2) (fun q => q.2.2) (fun q => rfl)
  obtain ⟨a, r, rfl⟩ : ∃ a r, ps = a :: r := by cases ps with | nil => simp at hl | cons a r => exact ⟨a, r, rfl⟩
  have x1 := minB_map (fun q : Pt => q.2.1) a r
  have x2 := minB_map (fun q : Pt => q.2.2) a r
  have x3 := maxB_map (fun q : Pt => q.2.1) a r
  have x4 := maxB_map (fun q : Pt => q.2.2) a r
  simp only [List.nil_append] at m1 m2
  have szx : ((a :: r).map pD).length ≤ SZ := by rw [List.length_map]; exact szp
  have it : iterD .seq [trD (a :: r)] = some ((a :: r).map pD) := rfl
  have it2 : iterD .seq [.tup [.int 1, .int 2]] = some [.int 1, .int 2] := rfl
  have sz2 : (2 : Nat) ≤ SZ := by decide
  generalize ((a :: r).map fun q : Pt => D.int q.2.1) = X at *
  generalize ((a :: r).map fun q : Pt => D.int q.2.2) = Y at *
  generalize minI ((a :: r).map fun q : Pt => q.2.1) = v1 at *
  generalize minI ((a :: r).map fun q : Pt => q.2.2) = v2 at *
  generalize maxI ((a :: r).map fun q : Pt => q.2.1) = v3 at *
  generalize maxI ((a :: r).map fun q : Pt => q.2.2) = v4 at *
  generalize (a :: r).map pD = M at *
  generalize trD (a :: r) = TD at *
  simp [bBoxM, lk, evE_lc, it, it2, wipeOk, lockAll, wipeS, Res.noExc, unlockAll, backS, lcGo, m1, m2, szx, sz2, x1, x2, x3, x4, List.replicate]
abbrev abI (i : Int) : Int := (i.natAbs : Int)
def wayL (ps : List Pt) : Int := ((stepsL ps).map fun s => (abI s.2.1 + abI s.2.2)).sum
theorem steps_len (ps : List Pt) : (stepsL ps).length ≤ ps.length := by
  unfold stepsL
  rw [List.length_map, List.length_zip]
  exact Nat.min_le_left _ _
theorem run_wholeM {f fs : Nat} (T : Trk rows w p t l c) (hs : At rows fs ⟨1, 5, bStepsM l⟩) (hf : At rows f ⟨1, 4, bWholeM fs⟩) (h : okT ps = true) : runL (PTof rows) (k + 6) f [trD ps] = .ok false (.int (wayL ps)) := by
  rw [runL_at hf rfl]
  have q := run_stepsM (k := k) T hs h
  have hn := okT_len h
  have m := lcGo_map (tg := .tup (.cons (.nm 1) (.cons (.nm 2) (.cons (.nm 3) .nil)))) (own := [1, 2, 3]) (cond := evC (runL (PTof rows) (k + 5)) .nil) (elt := evE (runL (PTof rows) (k + 5)) (.bin .add (.bi .abs (.cons (.v 2) .nil)) (.bi .abs (.cons (.v 3) .nil)))) (enc := pD) (f := fun s : Pt => .int (abI s.2.1 + abI s.2.2)) (w := [.sh (trD ps), .no, .no, .no]) (stepsL ps) []
    fun q _ => ⟨[.sh (trD ps), .sh (.int q.1), .sh (.int q.2.1), .sh (.int q.2.2)], false, false, _, [.sh (trD ps), .sh (.int q.1), .sh (.int q.2.1), .sh (.int q.2.2)], by simp [pD], by rw [evC_nil], by simp, by simp [wipeS]⟩
  have sz : ((stepsL ps).map pD).length ≤ SZ := by rw [List.length_map]; exact Nat.le_trans (steps_len ps) (sz_12 hn.2)
  have sm := sumB_map (fun s : Pt => abI s.2.1 + abI s.2.2) (stepsL ps)
  have EE := evE_lc_of (FT := runL (PTof rows) (k + 5)) (k := .seq) (es := .cons (.call fs (.cons (.v 0) .nil)) .nil) (st := [.sh (trD ps), .no, .no, .no]) (st1 := [.sh (trD ps), .no, .no, .no]) (os := [.val (.lst ((stepsL ps).map pD))]) (ds := [.lst ((stepsL ps).map pD)]) (by simp [q]) rfl rfl (by rw [Bool.and_eq_true]; exact ⟨rfl, decide_eq_true sz⟩) m
  simp only [lockAll, backS, unlockAll, List.nil_append, List.getElem?_cons_zero, List.getElem?_cons_succ, Option.getD_some, List.set] at EE
  show endOf (evSs (runL (PTof rows) (k + 5)) _ [.sh (trD ps), .no, .no, .no]) = _
  have e : ((stepsL ps).map fun s => (abI s.2.1 + abI s.2.2)).sum = wayL ps := rfl
  rw [e] at sm
  generalize ((stepsL ps).map fun s : Pt => D.int (abI s.2.1 + abI s.2.2)) = M at *
  unfold bWholeM
  have O := fun st => opnd_lc (e := .bin .add (.bi .abs (.cons (.v 2) .nil)) (.bi .abs (.cons (.v 3) .nil))) (t := .tup (.cons (.nm 1) (.cons (.nm 2) (.cons (.nm 3) .nil)))) (k := .seq) (es := .cons (.call fs (.cons (.v 0) .nil)) .nil) (c := .nil) (o := [1, 2, 3]) (f := evE (runL (PTof rows) (k + 5)) (.lc (.bin .add (.bi .abs (.cons (.v 2) .nil)) (.bi .abs (.cons (.v 3) .nil))) (.tup (.cons (.nm 1) (.cons (.nm 2) (.cons (.nm 3) .nil)))) .seq (.cons (.call fs (.cons (.v 0) .nil)) .nil) .nil [1, 2, 3])) (st := st)
  generalize E.lc (.bin .add (.bi .abs (.cons (.v 2) .nil)) (.bi .abs (.cons (.v 3) .nil))) (.tup (.cons (.nm 1) (.cons (.nm 2) (.cons (.nm 3) .nil)))) .seq (.cons (.call fs (.cons (.v 0) .nil)) .nil) .nil [1, 2, 3] = C at *
  simp [O, EE, sm]
theorem zip_get {ps : List Pt} {j : Nat} {q : Pt × Pt} (h : (ps.zip (ps.drop 1))[j]? = some q) : j + 1 < ps.length ∧ q = (ps.getD j (0, 0, 0), ps.getD (j + 1) (0, 0, 0)) := by
  rw [List.getElem?_zip_eq_some, List.getElem?_drop] at h
  obtain ⟨h1, h2⟩ := h
  have e : 1 + j = j + 1 := by omega
  rw [e] at h2
  have hj := (List.getElem?_eq_some_iff.mp h2).1
  refine ⟨hj, ?_⟩
  rw [List.getD_eq_getElem?_getD, List.getD_eq_getElem?_getD, h1, h2]
  rfl
theorem zip_ix {ps : List Pt} {j : Nat} (h : j + 1 < ps.length) : (ps.zip (ps.drop 1))[j]? = some (ps.getD j (0, 0, 0), ps.getD (j + 1) (0, 0, 0)) := by
  rw [List.getElem?_zip_eq_some, List.getElem?_drop, show 1 + j = j + 1 by omega]
  rw [List.getD_eq_getElem?_getD, List.getD_eq_getElem?_getD, List.getElem?_eq_getElem (show j < ps.length by omega), List.getElem?_eq_getElem h]
  exact ⟨rfl, rfl⟩
/-- a good step -/
def okS (s : Pt) : Prop := 1 ≤ s.1 ∧ s.1 ≤ 999 ∧ (-198 ≤ s.2.1 ∧ s.2.1 ≤ 198) ∧ -198 ≤ s.2.2 ∧ s.2.2 ≤ 198
theorem stepAt_ok {ps : List Pt} (h : okT ps = true) {j : Nat} (hj : j + 1 < ps.length) : okS (stepAt ps j) := by
  have h1 := smT_of h (getD_mem (ps := ps) (j := j) (by omega))
  have h2 := smT_of h (getD_mem (ps := ps) (j := j + 1) (by omega))
  have h3 := (risesB_iff.mp (okT_rises h)) j _ _ (by rw [List.getElem?_eq_getElem (show j < ps.length by omega)]) (by rw [List.getElem?_eq_getElem hj])
  have e1 : ps.getD j (0, 0, 0) = ps[j] := by rw [List.getD_eq_getElem?_getD, List.getElem?_eq_getElem (show j < ps.length by omega)]; rfl
  have e2 : ps.getD (j + 1) (0, 0, 0) = ps[j + 1] := by rw [List.getD_eq_getElem?_getD, List.getElem?_eq_getElem hj]; rfl
  rw [← e1, ← e2] at h3
  unfold okS stepAt stP
  unfold smT at h1 h2
  dsimp only
  omega
theorem sq_le {x : Int} (h : -198 ≤ x ∧ x ≤ 198) : x * x ≤ 39204 := by
  have h1 : 0 ≤ (198 - x) * (198 + x) := Int.mul_nonneg (by omega) (by omega)
  have e : (198 - x) * (198 + x) = 39204 - x * x := by
    rw [Int.sub_mul, Int.mul_add, Int.mul_add, Int.mul_comm x 198]; omega
  omega
theorem tf_281 {s : Pt} (h : okS s) : tfP s 281 = false := by
  unfold okS at h
  have h1 := sq_le h.2.2.1
  have h2 := sq_le h.2.2.2
  have h3 : 281 * 281 * 1 * 1 ≤ 281 * 281 * s.1 * s.1 := Int.mul_le_mul (Int.mul_le_mul_of_nonneg_left h.1 (by decide)) h.1 (by decide) (Int.mul_nonneg (by decide) (by omega))
  unfold tfP sqW
  rw [decide_eq_false_iff_not]
  omega
theorem tf_mono {s : Pt} (h : okS s) {L M : Int} (h0 : 0 ≤ L) (hm : L ≤ M) (hf : tfP s L = false) : tfP s M = false := by
  unfold okS at h
  have h1 : L * L ≤ M * M := Int.mul_le_mul hm hm h0 (by omega)
  have h2 : L * L * s.1 ≤ M * M * s.1 := Int.mul_le_mul_of_nonneg_right h1 (by omega)
  have h3 : L * L * s.1 * s.1 ≤ M * M * s.1 * s.1 := Int.mul_le_mul_of_nonneg_right h2 (by omega)
  unfold tfP at hf ⊢
  rw [decide_eq_false_iff_not] at hf ⊢
  omega
def cLeast (ft : Nat) : E := .call ft (.cons (.v 2) (.cons (.v 3) (.cons (.v 1) .nil)))
def dLeast : Ss := .cons (.asg (.nm 1) (.bin .add (.v 1) (.c (.int 1)))) .nil
theorem least_while {ft : Nat} (ht : At rows ft ⟨3, 8, bFastQ⟩) (tr : D) {a b : Pt} (ha : smT a) (hb : smT b) (hs : okS (stP a b)) : ∀ (n : Nat) (L : Int), 0 ≤ L → L + n = 281 → ∃ (m : Nat) (M : Int),
    whileF (evE (runL (PTof rows) (k + 1)) (cLeast ft)) (evSs (runL (PTof rows) (k + 1)) dLeast) m [.sh tr, .sh (.int L), .sh (pD a), .sh (pD b)] = .ok .nx [.sh tr, .sh (.int M), .sh (pD a), .sh (pD b)] ∧ L ≤ M ∧ M ≤ 281 ∧ tfP (stP a b) M = false ∧ (M = L ∨ tfP (stP a b) (M - 1) = true)
  | n, L, h0, hn => by
    have q := run_tf (k := k) ht ha hb (L := L) (by omega)
    cases hc : tfP (stP a b) L with
    | false =>
      rw [hc] at q
      refine ⟨1, L, ?_, Int.le_refl _, by omega, hc, .inl rfl⟩
      have e1 : evE (runL (PTof rows) (k + 1)) (cLeast ft) [.sh tr, .sh (.int L), .sh (pD a), .sh (pD b)] = .ok (false, .bl false) [.sh tr, .sh (.int L), .sh (pD a), .sh (pD b)] := by simp [cLeast, q]
      rw [whileF, e1, th_ok', br_bl]
      rfl
    | true =>
      cases n with
      | zero =>
        have e : L = 281 := by omega
        rw [e, tf_281 hs] at hc; cases hc
      | succ n =>
        rw [hc] at q
        obtain ⟨m, M, g1, g2, g3, g4, g5⟩ := least_while ht tr ha hb hs n (L + 1) (by omega) (by omega)
        refine ⟨m + 1, M, ?_, by omega, g3, g4, ?_⟩
        · have e1 : evE (runL (PTof rows) (k + 1)) (cLeast ft) [.sh tr, .sh (.int L), .sh (pD a), .sh (pD b)] = .ok (false, .bl true) [.sh tr, .sh (.int L), .sh (pD a), .sh (pD b)] := by simp [cLeast, q]
          have e2 : evSs (runL (PTof rows) (k + 1)) dLeast [.sh tr, .sh (.int L), .sh (pD a), .sh (pD b)] = .ok .nx [.sh tr, .sh (.int (L + 1)), .sh (pD a), .sh (pD b)] := by simp [dLeast]
          rw [whileF, e1, th_ok', br_bl, if_pos rfl, e2, th_ok']
          exact g1
        · rcases g5 with rfl | g5
          · right; rw [show L + 1 - 1 = L by omega]; exact hc
          · exact .inr g5
theorem run_least {f ft : Nat} (T : Trk rows w p t l c) (ht : At rows ft ⟨3, 8, bFastQ⟩) (hf : At rows f ⟨1, 4, bLeast l ft⟩) (h : okT ps = true) :
    ∃ L : Int, runL (PTof rows) (k + 5) f [trD ps] = .ok false (.int L) ∧ 0 ≤ L ∧ L ≤ 281 ∧ fastL ps L = [] ∧ (0 < L → fastL ps (L - 1) ≠ []) := by
  rw [runL_at hf rfl]
  have lk := run_look (k := k) T h
  have hn := okT_len h
  obtain ⟨st', f1, L, s2, s3, h0, h1, hs2, hs3, rfl, h2, h3⟩ := forGo_ix (tg := .tup (.cons (.nm 2) (.cons (.nm 3) .nil))) (b := evSs (runL (PTof rows) (k + 4)) (.cons (.whl (cLeast ft) dLeast) .nil)) (enc := fun q : Pt × Pt => .tup [pD q.1, pD q.2])
    (I := fun i st => ∃ (L : Int) (s2 s3 : Slot), 0 ≤ L ∧ L ≤ 281 ∧ isOw s2 = false ∧ isOw s3 = false ∧ st = [.sh (trD ps), .sh (.int L), s2, s3] ∧ (∀ j, j < i → j + 1 < ps.length → tfP (stepAt ps j) L = false) ∧ (0 < L → ∃ j, j < i ∧ j + 1 < ps.length ∧ tfP (stepAt ps j) (L - 1) = true))
    (ps.zip (ps.drop 1)) 0 [.sh (trD ps), .sh (.int 0), .no, .no]
    (fun j q st hj hI => by
      rw [Nat.zero_add] at hI ⊢
      obtain ⟨L, s2, s3, h0, h1, hs2, hs3, rfl, h2, h3⟩ := hI
      obtain ⟨lj, rfl⟩ := zip_get hj
      obtain ⟨m, M, g1, g2, g3, g4, g5⟩ := least_while (k := k + 3) ht (trD ps) (smT_of h (getD_mem (ps := ps) (j := j) (by omega))) (smT_of h (getD_mem (ps := ps) (j := j + 1) (by omega))) (stepAt_ok h lj) (281 - L).toNat L h0 (by omega)
      have w := whileD_eq g1 (by exact fun z => nomatch z)
      refine ⟨[.sh (trD ps), .sh (.int L), .sh (pD (ps.getD j (0, 0, 0))), .sh (pD (ps.getD (j + 1) (0, 0, 0)))], _, by simp, by rw [evSs_cons, evS_whl, w, th_ok']; exact evSs_nil, M, _, _, by omega, g3, rfl, rfl, rfl, fun i hi li => ?_, fun hM => ?_⟩
      · by_cases e : i = j
        · subst e; exact g4
        · exact tf_mono (stepAt_ok h li) h0 g2 (h2 i (by omega) li)
      · rcases g5 with rfl | g5
        · obtain ⟨i, a1, a2, a3⟩ := h3 hM
          exact ⟨i, by omega, a2, a3⟩
        · exact ⟨j, by omega, lj, g5⟩)
    ⟨0, .no, .no, by decide, by decide, rfl, rfl, rfl, fun j hj => absurd hj (by omega), fun z => absurd z (by decide)⟩
  have lz : (ps.zip (ps.drop 1)).length = ps.length - 1 := by rw [List.length_zip, List.length_drop]; omega
  rw [Nat.zero_add, lz] at h2 h3
  refine ⟨L, ?_, h0, h1, ?_, fun hL => ?_⟩
  · have f2 := evS_for_nx (FT := runL (PTof rows) (k + 4)) (t := .tup (.cons (.nm 2) (.cons (.nm 3) .nil))) (k := .zip) (es := .cons (.v 0) (.cons (.slF (.v 0) (.c (.int 1))) .nil)) (st := [.sh (trD ps), .sh (.int 0), .no, .no]) (ds := [trD ps, trD (ps.drop 1)]) (by
      have s1 := slFD_tup1 (xs := ps.map pD)
      unfold trD
      simp [s1]) (iter_zip ps) f1
    show endOf (evSs (runL (PTof rows) (k + 4)) _ [.sh (trD ps), .no, .no, .no]) = _
    unfold bLeast
    have q1 : evS (runL (PTof rows) (k + 4)) (.ex (.call l (.cons (.v 0) .nil))) [.sh (trD ps), .no, .no, .no] = .ok .nx [.sh (trD ps), .no, .no, .no] := by simp [lk]
    have q2 : evS (runL (PTof rows) (k + 4)) (.asg (.nm 1) (.c (.int 0))) [.sh (trD ps), .no, .no, .no] = .ok .nx [.sh (trD ps), .sh (.int 0), .no, .no] := by simp
    rw [evSs_cons, q1, th_ok']; dsimp only
    rw [evSs_cons, q2, th_ok']; dsimp only
    unfold cLeast dLeast at f2
    rw [evSs_cons, f2, th_ok']; dsimp only
    simp
  · unfold fastL
    rw [List.filter_eq_nil_iff]
    intro j hj
    have hj := List.mem_range.mp hj
    rw [h2 j hj (by omega)]
    decide
  · obtain ⟨j, a1, a2, a3⟩ := h3 hL
    intro z
    unfold fastL at z
    rw [List.filter_eq_nil_iff] at z
    exact z j (List.mem_range.mpr a1) a3
end
end PD
set_option maxHeartbeats 4000000
set_option maxRecDepth 10000
namespace PD
/-! F58: tracks at even times. -/
def bBetw (fsh fpl : Nat) : Ss :=
    (.cons (.iff (.cmp .eq (.ix (.v 1) (.c (.int 0))) (.ix (.v 0) (.c (.int 0)))) (.cons (.ret (.tup (.cons (.tup (.cons (.ix (.v 0) (.c (.int 1))) (.cons (.c (.int 1)) .nil))) (.cons (.tup (.cons (.ix (.v 0) (.c (.int 2))) (.cons (.c (.int 1)) .nil))) .nil))))
    .nil) .nil)
    (.cons (.asg (.nm 3) (.call fsh (.cons (.bin .sub (.v 2) (.ix (.v 0) (.c (.int 0)))) (.cons (.bin .sub (.ix (.v 1) (.c (.int 0))) (.ix (.v 0) (.c (.int 0)))) .nil))))
    (.cons (.asg (.nm 4) (.lst .nil))
    (.cons (.for_ (.nm 5) .seq (.cons (.tup (.cons (.c (.int 1)) (.cons (.c (.int 2)) .nil))) .nil) (.cons (.app 4 (.call fpl (.cons (.tup (.cons (.ix (.v 0) (.v 5)) (.cons (.c (.int 1)) .nil))) (.cons (.call fsh (.cons (.bin .mul (.ix (.v 3) (.c (.int 0))) (.bin .sub (.ix (.v 1) (.v 5)) (.ix (.v 0) (.v 5)))) (.cons (.ix (.v 3) (.c (.int 1))) .nil))) .nil))))
    .nil))
    (.cons (.ret (.tup (.cons (.ix (.v 4) (.c (.int 0))) (.cons (.ix (.v 4) (.c (.int 1))) .nil))))
    .nil)))))
def bPos (flk fw f_between cx0 : Nat) : Ss :=
    (.cons (.ex (.call flk (.cons (.v 0) .nil)))
    (.cons (.iff (.not (.call fw (.cons (.v 1) (.cons (.ix (.ix (.v 0) (.c (.int 0))) (.c (.int 0))) (.cons (.ix (.ix (.v 0) (.neg (.c (.int 1)))) (.c (.int 0))) .nil))))) (.cons (.raise cx0)
    .nil) .nil)
    (.cons (.asg (.nm 2) (.ix (.lc (.v 4) (.nm 4) .seq (.cons (.v 0) .nil) (.cons (.cmp .le (.ix (.v 4) (.c (.int 0))) (.v 1)) .nil) [4]) (.neg (.c (.int 1)))))
    (.cons (.asg (.nm 3) (.ix (.lc (.v 4) (.nm 4) .seq (.cons (.v 0) .nil) (.cons (.cmp .ge (.ix (.v 4) (.c (.int 0))) (.v 1)) .nil) [4]) (.c (.int 0))))
    (.cons (.ret (.call f_between (.cons (.v 2) (.cons (.v 3) (.cons (.v 1) .nil)))))
    .nil)))))
def bRnd : Ss :=
    (.cons (.asg (.tup (.cons (.nm 1) (.cons (.nm 2) .nil))) (.v 0))
    (.cons (.ret (.bin .fdiv (.bin .add (.bin .mul (.c (.int 2)) (.v 1)) (.v 2)) (.bin .mul (.c (.int 2)) (.v 2))))
    .nil))
def bEvery (flk fw f_position f_rounded cx0 cx1 : Nat) : Ss :=
    (.cons (.ex (.call flk (.cons (.v 0) .nil)))
    (.cons (.iff (.not (.call fw (.cons (.v 1) (.cons (.c (.int 1)) (.cons (.g (.int 999) "LAST") .nil))))) (.cons (.raise cx0)
    .nil) .nil)
    (.cons (.asg (.nm 2) (.bi .lstRng (.cons (.ix (.ix (.v 0) (.c (.int 0))) (.c (.int 0))) (.cons (.bin .add (.ix (.ix (.v 0) (.neg (.c (.int 1)))) (.c (.int 0))) (.c (.int 1))) (.cons (.v 1) .nil)))))
    (.cons (.iff (.cmp .gt (.bi .len (.cons (.v 2) .nil)) (.g (.int 12) "MOST")) (.cons (.raise cx1)
    .nil) .nil)
    (.cons (.asg (.nm 3) (.lst .nil))
    (.cons (.for_ (.nm 4) .seq (.cons (.v 2) .nil) (.cons (.asg (.tup (.cons (.nm 5) (.cons (.nm 6) .nil))) (.call f_position (.cons (.v 0) (.cons (.v 4) .nil))))
    (.cons (.app 3 (.tup (.cons (.v 4) (.cons (.call f_rounded (.cons (.v 5) .nil)) (.cons (.call f_rounded (.cons (.v 6) .nil)) .nil)))))
    .nil)))
    (.cons (.ret (.bi .tuple (.cons (.v 3) .nil)))
    .nil)))))))
theorem ixD_trE {ps : List Pt} (h : 1 ≤ ps.length) : ixD (trD ps) (.int (-1)) = some (pD (ps.getD (ps.length - 1) (0, 0, 0))) := by
  refine atD_last ?_
  rw [List.getLast?_map, List.getLast?_eq_getElem?, List.getD_eq_getElem?_getD, List.getElem?_eq_getElem (show ps.length - 1 < ps.length by omega)]
  rfl
theorem split_at {ps : List Pt} (h : okT ps = true) {j : Nat} (hj : j < ps.length) : ∃ A B, ps = A ++ ps.getD j (0, 0, 0) :: B ∧ (∀ q ∈ A, q.1 < (ps.getD j (0, 0, 0)).1) ∧ ∀ q ∈ B, (ps.getD j (0, 0, 0)).1 < q.1 := by
  have e : ps.getD j (0, 0, 0) = ps[j] := by rw [List.getD_eq_getElem?_getD, List.getElem?_eq_getElem hj]; rfl
  have pw := rises_pair.mp (okT_rises h)
  have es : ps = ps.take j ++ ps[j] :: ps.drop (j + 1) := by rw [← List.drop_eq_getElem_cons hj, List.take_append_drop]
  rw [e]
  rw [es] at pw
  rw [List.pairwise_append, List.pairwise_cons] at pw
  exact ⟨_, _, es, fun q hq => pw.2.2 q hq _ List.mem_cons_self, fun q hq => pw.2.1.1 q hq⟩
/-- a place at a whole time -/
def plQ (p : Pt) : D := .tup [.tup [.int p.2.1, .int 1], .tup [.int p.2.2, .int 1]]
section
variable {rows : List DRow} {w p t l c k : Nat} {ps : List Pt}
theorem run_betw0 {f fs fp : Nat} (hf : At rows f ⟨3, 6, bBetw fs fp⟩) (q : Pt) (d : D) : runL (PTof rows) (k + 1) f [pD q, pD q, d] = .ok false (plQ q) := by
  rw [runL_at hf rfl]
  unfold pD
  simp [bBetw, plQ, List.replicate]
theorem run_posP {f fb fs fp cx : Nat} (T : Trk rows w p t l c) (hb : At rows fb ⟨3, 6, bBetw fs fp⟩) (hf : At rows f ⟨2, 5, bPos l w fb cx⟩) (h : okT ps = true) {j : Nat} (hj : j < ps.length) : runL (PTof rows) (k + 5) f [trD ps, .int (ps.getD j (0, 0, 0)).1] = .ok false (plQ (ps.getD j (0, 0, 0))) := by
  rw [runL_at hf rfl]
  have lk := run_look (k := k) T h
  have hn := okT_len h
  have x0 := ixD_tr (ps := ps) (j := 0) (i := 0) rfl (by omega)
  have xl := ixD_trE hn.1
  have y0 : ∀ q : Pt, ixD (pD q) (.int 0) = some (.int q.1) := fun q => rfl
  obtain ⟨A, B, es, hA, hB⟩ := split_at h hj
  have bt := fun d => run_betw0 (k := k + 3) hb (ps.getD j (0, 0, 0)) d
  have le0 : (ps.getD 0 (0, 0, 0)).1 ≤ (ps.getD j (0, 0, 0)).1 := by
    have hm := getD_mem (ps := ps) (j := 0) (by omega)
    have pw := rises_pair.mp (okT_rises h)
    by_cases e : j = 0
    · subst e; exact Int.le_refl _
    · rw [List.pairwise_iff_getElem] at pw
      have := pw 0 j (by omega) hj (by omega)
      rw [List.getD_eq_getElem?_getD, List.getElem?_eq_getElem (show 0 < ps.length by omega), List.getD_eq_getElem?_getD, List.getElem?_eq_getElem hj]
      exact Int.le_of_lt this
  have leL : (ps.getD j (0, 0, 0)).1 ≤ (ps.getD (ps.length - 1) (0, 0, 0)).1 := by
    have pw := rises_pair.mp (okT_rises h)
    by_cases e : j = ps.length - 1
    · subst e; exact Int.le_refl _
    · rw [List.pairwise_iff_getElem] at pw
      have := pw j (ps.length - 1) hj (by omega) (by omega)
      rw [List.getD_eq_getElem?_getD, List.getElem?_eq_getElem hj, List.getD_eq_getElem?_getD, List.getElem?_eq_getElem (show ps.length - 1 < ps.length by omega)]
      exact Int.le_of_lt this
  have wh := run_whole (k := k + 3) T.hw (ps.getD j (0, 0, 0)).1 (ps.getD 0 (0, 0, 0)).1 (ps.getD (ps.length - 1) (0, 0, 0)).1
  rw [decide_eq_true le0, decide_eq_true leL] at wh
  have sz : (ps.map pD).length ≤ SZ := by rw [List.length_map]; exact sz_12 hn.2
  generalize hq : ps.getD j (0, 0, 0) = q at *
  have m1 := fun s2 s3 => lcGo_filter (tg := .nm 4) (own := [4]) (cond := evC (runL (PTof rows) (k + 4)) (.cons (.cmp .le (.ix (.v 4) (.c (.int 0))) (.v 1)) .nil)) (elt := evE (runL (PTof rows) (k + 4)) (.v 4)) (enc := pD) (f := pD) (p := fun a => decide (a.1 ≤ q.1)) (w := [.sh (trD ps), .sh (.int q.1), s2, s3, .no]) ps []
    fun a _ => ⟨[.sh (trD ps), .sh (.int q.1), s2, s3, .sh (pD a)], false, false, [.sh (trD ps), .sh (.int q.1), s2, s3, .sh (pD a)], [.sh (trD ps), .sh (.int q.1), s2, s3, .sh (pD a)], by simp, by
      rw [evC_one]
      by_cases z : a.1 ≤ q.1 <;> simp [y0, z], by simp [wipeS], fun _ => ⟨by simp, by simp [wipeS]⟩⟩
  have m2 := fun s2 s3 => lcGo_filter (tg := .nm 4) (own := [4]) (cond := evC (runL (PTof rows) (k + 4)) (.cons (.cmp .ge (.ix (.v 4) (.c (.int 0))) (.v 1)) .nil)) (elt := evE (runL (PTof rows) (k + 4)) (.v 4)) (enc := pD) (f := pD) (p := fun a => decide (q.1 ≤ a.1)) (w := [.sh (trD ps), .sh (.int q.1), s2, s3, .no]) ps []
    fun a _ => ⟨[.sh (trD ps), .sh (.int q.1), s2, s3, .sh (pD a)], false, false, [.sh (trD ps), .sh (.int q.1), s2, s3, .sh (pD a)], [.sh (trD ps), .sh (.int q.1), s2, s3, .sh (pD a)], by simp, by
      rw [evC_one]
      by_cases z : q.1 ≤ a.1 <;> simp [y0, z], by simp [wipeS], fun _ => ⟨by simp, by simp [wipeS]⟩⟩
  have f1 : ps.filter (fun a => decide (a.1 ≤ q.1)) = A ++ [q] := by
    have fA : A.filter (fun a => decide (a.1 ≤ q.1)) = A := by
      rw [List.filter_eq_self]; intro a ha; simp; have := hA a ha; omega
    have fB : B.filter (fun a => decide (a.1 ≤ q.1)) = [] := by
      rw [List.filter_eq_nil_iff]; intro a ha; simp; have := hB a ha; omega
    rw [es, List.filter_append, fA, List.filter_cons, fB]
    simp
  have f2 : ps.filter (fun a => decide (q.1 ≤ a.1)) = q :: B := by
    have fA : A.filter (fun a => decide (q.1 ≤ a.1)) = [] := by
      rw [List.filter_eq_nil_iff]; intro a ha; simp; have := hA a ha; omega
    have fB : B.filter (fun a => decide (q.1 ≤ a.1)) = B := by
      rw [List.filter_eq_self]; intro a ha; simp; have := hB a ha; omega
    rw [es, List.filter_append, fA, List.filter_cons, fB]
    simp
  simp only [f1, f2, List.nil_append] at m1 m2
  have E1 := evE_lc_of (FT := runL (PTof rows) (k + 4)) (k := .seq) (es := .cons (.v 0) .nil) (st := [.sh (trD ps), .sh (.int q.1), .no, .no, .no]) (st1 := [.sh (trD ps), .sh (.int q.1), .no, .no, .no]) (os := [.val (trD ps)]) (ds := [trD ps]) (by simp) rfl rfl (by rw [Bool.and_eq_true]; exact ⟨rfl, decide_eq_true sz⟩) (m1 .no .no)
  have E2 := evE_lc_of (FT := runL (PTof rows) (k + 4)) (k := .seq) (es := .cons (.v 0) .nil) (st := [.sh (trD ps), .sh (.int q.1), .sh (pD q), .no, .no]) (st1 := [.sh (trD ps), .sh (.int q.1), .sh (pD q), .no, .no]) (os := [.val (trD ps)]) (ds := [trD ps]) (by simp) rfl rfl (by rw [Bool.and_eq_true]; exact ⟨rfl, decide_eq_true sz⟩) (m2 (.sh (pD q)) .no)
  simp only [lockAll, backS, unlockAll, List.nil_append, List.getElem?_cons_zero, List.getElem?_cons_succ, Option.getD_some, List.set] at E1 E2
  have a1 : ixD (.lst ((A ++ [q]).map pD)) (.int (-1)) = some (pD q) := atD_last (by simp)
  have a2 : ixD (.lst ((q :: B).map pD)) (.int 0) = some (pD q) := atD0
  generalize (A ++ [q]).map pD = M1 at *
  generalize (q :: B).map pD = M2 at *
  generalize ps.getD 0 (0, 0, 0) = q0 at *
  generalize ps.getD (ps.length - 1) (0, 0, 0) = ql at *
  generalize trD ps = tr at *
  have O1 := fun st => opnd_lc (e := .v 4) (t := .nm 4) (k := .seq) (es := .cons (.v 0) .nil) (c := .cons (.cmp .le (.ix (.v 4) (.c (.int 0))) (.v 1)) .nil) (o := [4]) (f := evE (runL (PTof rows) (k + 4)) (.lc (.v 4) (.nm 4) .seq (.cons (.v 0) .nil) (.cons (.cmp .le (.ix (.v 4) (.c (.int 0))) (.v 1)) .nil) [4])) (st := st)
  have O2 := fun st => opnd_lc (e := .v 4) (t := .nm 4) (k := .seq) (es := .cons (.v 0) .nil) (c := .cons (.cmp .ge (.ix (.v 4) (.c (.int 0))) (.v 1)) .nil) (o := [4]) (f := evE (runL (PTof rows) (k + 4)) (.lc (.v 4) (.nm 4) .seq (.cons (.v 0) .nil) (.cons (.cmp .ge (.ix (.v 4) (.c (.int 0))) (.v 1)) .nil) [4])) (st := st)
  show endOf (evSs (runL (PTof rows) (k + 4)) _ [.sh tr, .sh (.int q.1), .no, .no, .no]) = _
  unfold bPos
  generalize E.lc (.v 4) (.nm 4) .seq (.cons (.v 0) .nil) (.cons (.cmp .le (.ix (.v 4) (.c (.int 0))) (.v 1)) .nil) [4] = C1 at *
  generalize E.lc (.v 4) (.nm 4) .seq (.cons (.v 0) .nil) (.cons (.cmp .ge (.ix (.v 4) (.c (.int 0))) (.v 1)) .nil) [4] = C2 at *
  have q1 : evS (runL (PTof rows) (k + 4)) (.ex (.call l (.cons (.v 0) .nil))) [.sh tr, .sh (.int q.1), .no, .no, .no] = .ok .nx [.sh tr, .sh (.int q.1), .no, .no, .no] := by simp [lk]
  have q2 : evS (runL (PTof rows) (k + 4)) (.iff (.not (.call w (.cons (.v 1) (.cons (.ix (.ix (.v 0) (.c (.int 0))) (.c (.int 0))) (.cons (.ix (.ix (.v 0) (.neg (.c (.int 1)))) (.c (.int 0))) .nil))))) (.cons (.raise cx) .nil) .nil) [.sh tr, .sh (.int q.1), .no, .no, .no] = .ok .nx [.sh tr, .sh (.int q.1), .no, .no, .no] := by
    simp at wh
    simp [x0, xl, y0, wh]
  have q3 : evS (runL (PTof rows) (k + 4)) (.asg (.nm 2) (.ix C1 (.neg (.c (.int 1))))) [.sh tr, .sh (.int q.1), .no, .no, .no] = .ok .nx [.sh tr, .sh (.int q.1), .sh (pD q), .no, .no] := by simp [-ixD_lst, O1, E1, a1]
  have q4 : evS (runL (PTof rows) (k + 4)) (.asg (.nm 3) (.ix C2 (.c (.int 0)))) [.sh tr, .sh (.int q.1), .sh (pD q), .no, .no] = .ok .nx [.sh tr, .sh (.int q.1), .sh (pD q), .sh (pD q), .no] := by simp [-ixD_lst, O2, E2, a2]
  rw [evSs_cons, q1, th_ok']; dsimp only
  rw [evSs_cons, q2, th_ok']; dsimp only
  rw [evSs_cons, q3, th_ok']; dsimp only
  rw [evSs_cons, q4, th_ok']; dsimp only
  simp [bt]
theorem run_rnd {f : Nat} (hf : At rows f ⟨1, 3, bRnd⟩) (x : Int) : runL (PTof rows) (k + 1) f [.tup [.int x, .int 1]] = .ok false (.int x) := by
  rw [runL_at hf rfl]
  have m1 : mulOk 2 x := mulOk_l (by decide)
  have m2 : mulOk 2 1 := mulOk_l (by decide)
  have d1 : divOk 2 := by unfold divOk; decide
  have e : (2 * x + 1) / 2 = x := by omega
  simp [bRnd, m1, m2, d1, e, List.replicate]
/-- the points at every m-th place -/
def everyL (m : Nat) (ps : List Pt) (c : Nat) : List Pt := (List.range c).map fun i => ps.getD (m * i) (0, 0, 0)
/-- a track at even times -/
def evenT (s : Int) (d : Nat) (ps : List Pt) : Prop := ∀ j, j < ps.length → (ps.getD j (0, 0, 0)).1 = s + (d : Int) * (j : Int)
def bEvIn (fpo fro : Nat) : Ss := (.cons (.asg (.tup (.cons (.nm 5) (.cons (.nm 6) .nil))) (.call fpo (.cons (.v 0) (.cons (.v 4) .nil))))
    (.cons (.app 3 (.tup (.cons (.v 4) (.cons (.call fro (.cons (.v 5) .nil)) (.cons (.call fro (.cons (.v 6) .nil)) .nil)))))
    .nil))
theorem run_every {f fpo fro fb fs fp c3 cx : Nat} (T : Trk rows w p t l c) (hb : At rows fb ⟨3, 6, bBetw fs fp⟩) (hpo : At rows fpo ⟨2, 5, bPos l w fb cx⟩) (hro : At rows fro ⟨1, 3, bRnd⟩) (hf : At rows f ⟨2, 7, bEvery l w fpo fro c3 c⟩) (h : okT ps = true) {s : Int} {d m : Nat} (hd : 1 ≤ d) (hm : 1 ≤ m) (hmd : m * d ≤ 999) (he : evenT s d ps) :
    runL (PTof rows) (k + 6) f [trD ps, .int ((m * d : Nat) : Int)] = .ok false (trD (everyL m ps ((ps.length - 1) / m + 1))) := by
  rw [runL_at hf rfl]
  have lk := run_look (k := k + 1) T h
  have hn := okT_len h
  obtain ⟨cN, hc⟩ : ∃ cN, cN = (ps.length - 1) / m + 1 := ⟨_, rfl⟩
  have hcl : cN ≤ 12 := by
    have := Nat.div_le_self (ps.length - 1) m
    omega
  rw [← hc]
  have x0 := ixD_tr (ps := ps) (j := 0) (i := 0) rfl (by omega)
  have xl := ixD_trE hn.1
  have y0 : ∀ q : Pt, ixD (pD q) (.int 0) = some (.int q.1) := fun q => rfl
  have e0 := he 0 (by omega)
  have el := he (ps.length - 1) (by omega)
  have md1 : 1 ≤ m * d := Nat.mul_pos hm hd
  have wh := run_whole (k := k + 4) T.hw ((m * d : Nat) : Int) 1 999
  rw [decide_eq_true (show (1 : Int) ≤ ((m * d : Nat) : Int) by omega), decide_eq_true (show ((m * d : Nat) : Int) ≤ 999 by omega)] at wh
  have b0 := okT_pt h (getD_mem (ps := ps) (j := 0) (by omega))
  have bl := okT_pt h (getD_mem (ps := ps) (j := ps.length - 1) (by omega))
  have sn : stepN (ps.getD 0 (0, 0, 0)).1 ((ps.getD (ps.length - 1) (0, 0, 0)).1 + 1) ((m * d : Nat) : Int) = cN := by
    rw [hc, e0, el]
    unfold stepN
    have e1 : (s + (d : Int) * ((ps.length - 1 : Nat) : Int) + 1 - (s + (d : Int) * ((0 : Nat) : Int)) - 1) = ((d * (ps.length - 1) : Nat) : Int) := by
      rw [Int.natCast_mul]
      simp
      omega
    rw [e1]
    have pos : 0 ≤ (d : Int) * ((ps.length - 1 : Nat) : Int) := Int.mul_nonneg (by omega) (by omega)
    rw [if_pos (by simp; omega)]
    rw [← Int.natCast_ediv, Nat.mul_comm m d, Nat.mul_div_mul_left _ _ hd]
    omega
  have lr : biD .lstRng [.int (ps.getD 0 (0, 0, 0)).1, .int ((ps.getD (ps.length - 1) (0, 0, 0)).1 + 1), .int ((m * d : Nat) : Int)] = some (true, .lst (rangeC (ps.getD 0 (0, 0, 0)).1 ((m * d : Nat) : Int) cN)) := by
    show (rngD _).map _ = _
    unfold rngD
    dsimp only
    rw [if_pos ⟨⟨⟨by omega, by omega⟩, by omega, by omega⟩, by omega, by omega⟩, sn]
    rfl
  have ll : (rangeC (ps.getD 0 (0, 0, 0)).1 ((m * d : Nat) : Int) cN).length = cN := by simp [rangeC]
  have in_ : ∀ i, i < cN → m * i < ps.length := fun i hi => by
    have h1 : m * i ≤ m * ((ps.length - 1) / m) := Nat.mul_le_mul_left _ (by omega)
    have h2 := Nat.mul_div_le (ps.length - 1) m
    omega
  have tm : ∀ i, i < cN → (ps.getD 0 (0, 0, 0)).1 + (i : Int) * ((m * d : Nat) : Int) = (ps.getD (m * i) (0, 0, 0)).1 := fun i hi => by
    rw [e0, he (m * i) (in_ i hi), Int.natCast_mul, Int.natCast_mul]
    simp only [Int.natCast_zero, Int.mul_zero, Int.add_zero]
    congr 1
    rw [Int.mul_comm (i : Int), Int.mul_comm (m : Int) (d : Int), Int.mul_assoc]
  obtain ⟨st', f1, s4, s5, s6, h4, h5, h6, rfl⟩ := forGo_ix (tg := .nm 4) (b := evSs (runL (PTof rows) (k + 5)) (bEvIn fpo fro)) (enc := fun i : Nat => D.int ((ps.getD 0 (0, 0, 0)).1 + (i : Int) * ((m * d : Nat) : Int)))
    (I := fun i st => ∃ s4 s5 s6, isOw s4 = false ∧ isOw s5 = false ∧ isOw s6 = false ∧ st = [.sh (trD ps), .sh (.int ((m * d : Nat) : Int)), .sh (.lst (rangeC (ps.getD 0 (0, 0, 0)).1 ((m * d : Nat) : Int) cN)), .ow (.lst ((everyL m ps i).map pD)), s4, s5, s6])
    (List.range cN) 0 [.sh (trD ps), .sh (.int ((m * d : Nat) : Int)), .sh (.lst (rangeC (ps.getD 0 (0, 0, 0)).1 ((m * d : Nat) : Int) cN)), .ow (.lst []), .no, .no, .no]
    (fun j i st hj hI => by
      rw [Nat.zero_add] at hI ⊢
      obtain ⟨s4, s5, s6, h4, h5, h6, rfl⟩ := hI
      have hjl := (List.getElem?_eq_some_iff.mp hj)
      obtain ⟨hjl, hji⟩ := hjl
      rw [List.getElem_range] at hji
      subst hji
      rw [List.length_range] at hjl
      rw [tm j hjl]
      have po := run_posP (k := k) T hb hpo h (in_ j hjl)
      have r1 := fun x => run_rnd (k := k + 4) hro x
      have es : (everyL m ps (j + 1)).map pD = (everyL m ps j).map pD ++ [pD (ps.getD (m * j) (0, 0, 0))] := by
        unfold everyL
        rw [List.range_succ, List.map_append, List.map_append]; rfl
      have sz : ((everyL m ps j).map pD).length < SZ := by
        unfold everyL
        rw [List.length_map, List.length_map, List.length_range]; exact Nat.lt_of_lt_of_le (show j < 13 by omega) (by decide)
      rw [es]
      generalize ps.getD (m * j) (0, 0, 0) = q at *
      refine ⟨[.sh (trD ps), .sh (.int ((m * d : Nat) : Int)), .sh (.lst (rangeC (ps.getD 0 (0, 0, 0)).1 ((m * d : Nat) : Int) cN)), .ow (.lst ((everyL m ps j).map pD)), .sh (.int q.1), s5, s6], [.sh (trD ps), .sh (.int ((m * d : Nat) : Int)), .sh (.lst (rangeC (ps.getD 0 (0, 0, 0)).1 ((m * d : Nat) : Int) cN)), .ow (.lst ((everyL m ps j).map pD ++ [pD q])), .sh (.int q.1), .sh (.tup [.int q.2.1, .int 1]), .sh (.tup [.int q.2.2, .int 1])], by simp, ?_, _, _, _, rfl, rfl, rfl, rfl⟩
      unfold plQ at po
      have ep : pD q = .tup [.int q.1, .int q.2.1, .int q.2.2] := rfl
      rw [ep]
      generalize (everyL m ps j).map pD = Ev at *
      generalize rangeC (ps.getD 0 (0, 0, 0)).1 ((m * d : Nat) : Int) cN = RC at *
      generalize trD ps = tr at *
      simp [bEvIn, po, r1, sz])
    ⟨.no, .no, .no, rfl, rfl, rfl, rfl⟩
  rw [Nat.zero_add, List.length_range] at f1
  have f2 := evS_for_nx (FT := runL (PTof rows) (k + 5)) (t := .nm 4) (k := .seq) (es := .cons (.v 2) .nil) (st := [.sh (trD ps), .sh (.int ((m * d : Nat) : Int)), .ow (.lst (rangeC (ps.getD 0 (0, 0, 0)).1 ((m * d : Nat) : Int) cN)), .ow (.lst []), .no, .no, .no]) (st1 := [.sh (trD ps), .sh (.int ((m * d : Nat) : Int)), .sh (.lst (rangeC (ps.getD 0 (0, 0, 0)).1 ((m * d : Nat) : Int) cN)), .ow (.lst []), .no, .no, .no]) (ds := [.lst (rangeC (ps.getD 0 (0, 0, 0)).1 ((m * d : Nat) : Int) cN)]) (by simp) rfl f1
  show endOf (evSs (runL (PTof rows) (k + 5)) _ [.sh (trD ps), .sh (.int ((m * d : Nat) : Int)), .no, .no, .no, .no, .no]) = _
  unfold bEvery
  unfold trD at f2 lk x0 xl ⊢
  generalize rangeC (ps.getD 0 (0, 0, 0)).1 ((m * d : Nat) : Int) cN = RC at *
  generalize (everyL m ps cN).map pD = M at *
  generalize ps.getD (ps.length - 1) (0, 0, 0) = ql at *
  generalize ps.getD 0 (0, 0, 0) = q0 at *
  generalize ((m * d : Nat) : Int) = st at *
  generalize D.tup (ps.map pD) = tr at *
  have q1 : evS (runL (PTof rows) (k + 5)) (.ex (.call l (.cons (.v 0) .nil))) [.sh tr, .sh (.int st), .no, .no, .no, .no, .no] = .ok .nx [.sh tr, .sh (.int st), .no, .no, .no, .no, .no] := by simp [lk]
  have q2 : evS (runL (PTof rows) (k + 5)) (.iff (.not (.call w (.cons (.v 1) (.cons (.c (.int 1)) (.cons (.g (.int 999) "LAST") .nil))))) (.cons (.raise c3) .nil) .nil) [.sh tr, .sh (.int st), .no, .no, .no, .no, .no] = .ok .nx [.sh tr, .sh (.int st), .no, .no, .no, .no, .no] := by
    simp at wh
    simp [wh]
  have q3 : evS (runL (PTof rows) (k + 5)) (.asg (.nm 2) (.bi .lstRng (.cons (.ix (.ix (.v 0) (.c (.int 0))) (.c (.int 0))) (.cons (.bin .add (.ix (.ix (.v 0) (.neg (.c (.int 1)))) (.c (.int 0))) (.c (.int 1))) (.cons (.v 1) .nil))))) [.sh tr, .sh (.int st), .no, .no, .no, .no, .no] = .ok .nx [.sh tr, .sh (.int st), .ow (.lst RC), .no, .no, .no, .no] := by simp [x0, xl, y0, lr]
  have gt : ¬ (12 : Int) < (RC.length : Int) := by omega
  have q4 : evS (runL (PTof rows) (k + 5)) (.iff (.cmp .gt (.bi .len (.cons (.v 2) .nil)) (.g (.int 12) "MOST")) (.cons (.raise c) .nil) .nil) [.sh tr, .sh (.int st), .ow (.lst RC), .no, .no, .no, .no] = .ok .nx [.sh tr, .sh (.int st), .ow (.lst RC), .no, .no, .no, .no] := by simp [gt]
  have q5 : evS (runL (PTof rows) (k + 5)) (.asg (.nm 3) (.lst .nil)) [.sh tr, .sh (.int st), .ow (.lst RC), .no, .no, .no, .no] = .ok .nx [.sh tr, .sh (.int st), .ow (.lst RC), .ow (.lst []), .no, .no, .no] := by simp
  unfold bEvIn at f2
  rw [evSs_cons, q1, th_ok']; dsimp only
  rw [evSs_cons, q2, th_ok']; dsimp only
  rw [evSs_cons, q3, th_ok']; dsimp only
  rw [evSs_cons, q4, th_ok']; dsimp only
  rw [evSs_cons, q5, th_ok']; dsimp only
  rw [evSs_cons, f2, th_ok']; dsimp only
  simp [tupleB, seqD, sh1]
end
end PD
set_option maxHeartbeats 4000000
set_option maxRecDepth 10000
namespace PD
/-! F30: crossings. -/
/-- is_on, ⟨3, 4, _⟩ -/
def bIsOn : Ss :=
    (.cons (.asg (.nm 3) (.chain .le .le (.bi .min (.cons (.ix (.v 0) (.c (.int 0))) (.cons (.ix (.v 1) (.c (.int 0))) .nil))) (.ix (.v 2) (.c (.int 0))) (.bi .max (.cons (.ix (.v 0) (.c (.int 0))) (.cons (.ix (.v 1) (.c (.int 0))) .nil)))))
    (.cons (.ret (.and (.v 3) (.chain .le .le (.bi .min (.cons (.ix (.v 0) (.c (.int 1))) (.cons (.ix (.v 1) (.c (.int 1))) .nil))) (.ix (.v 2) (.c (.int 1))) (.bi .max (.cons (.ix (.v 0) (.c (.int 1))) (.cons (.ix (.v 1) (.c (.int 1))) .nil))))))
    .nil))
/-- have_common, ⟨4, 8, _⟩ -/
def bCommon (f_crossed f_is_on : Nat) : Ss :=
    (.cons (.asg (.nm 4) (.lst (.cons (.call f_crossed (.cons (.v 0) (.cons (.v 1) (.cons (.v 2) .nil)))) (.cons (.call f_crossed (.cons (.v 0) (.cons (.v 1) (.cons (.v 3) .nil)))) .nil))))
    (.cons (.ext 4 (.lst (.cons (.call f_crossed (.cons (.v 2) (.cons (.v 3) (.cons (.v 0) .nil)))) (.cons (.call f_crossed (.cons (.v 2) (.cons (.v 3) (.cons (.v 1) .nil)))) .nil))))
    (.cons (.asg (.nm 5) (.lc (.bin .sub (.bi .int (.cons (.cmp .gt (.v 7) (.c (.int 0))) .nil)) (.bi .int (.cons (.cmp .lt (.v 7) (.c (.int 0))) .nil))) (.nm 7) .seq (.cons (.v 4) .nil) .nil [7]))
    (.cons (.iff (.and (.cmp .lt (.bin .mul (.ix (.v 5) (.c (.int 0))) (.ix (.v 5) (.c (.int 1)))) (.c (.int 0))) (.cmp .lt (.bin .mul (.ix (.v 5) (.c (.int 2))) (.ix (.v 5) (.c (.int 3)))) (.c (.int 0)))) (.cons (.ret (.c (.bl true)))
    .nil) .nil)
    (.cons (.asg (.nm 6) (.lst (.cons (.and (.cmp .eq (.ix (.v 5) (.c (.int 0))) (.c (.int 0))) (.call f_is_on (.cons (.v 0) (.cons (.v 1) (.cons (.v 2) .nil))))) (.cons (.and (.cmp .eq (.ix (.v 5) (.c (.int 1))) (.c (.int 0))) (.call f_is_on (.cons (.v 0) (.cons (.v 1) (.cons (.v 3) .nil))))) .nil))))
    (.cons (.ext 6 (.lst (.cons (.and (.cmp .eq (.ix (.v 5) (.c (.int 2))) (.c (.int 0))) (.call f_is_on (.cons (.v 2) (.cons (.v 3) (.cons (.v 0) .nil))))) (.cons (.and (.cmp .eq (.ix (.v 5) (.c (.int 3))) (.c (.int 0))) (.call f_is_on (.cons (.v 2) (.cons (.v 3) (.cons (.v 1) .nil))))) .nil))))
    (.cons (.ret (.bi .any (.cons (.v 6) .nil)))
    .nil)))))))
/-- crossings, ⟨1, 5, _⟩ -/
def bCrossings (flk f_places_of f_have_common : Nat) : Ss :=
    (.cons (.ex (.call flk (.cons (.v 0) .nil)))
    (.cons (.asg (.nm 1) (.call f_places_of (.cons (.v 0) .nil)))
    (.cons (.asg (.nm 2) (.lst .nil))
    (.cons (.for_ (.nm 3) .range (.cons (.bin .sub (.bi .len (.cons (.v 1) .nil)) (.c (.int 1))) .nil) (.cons (.for_ (.nm 4) .range (.cons (.bin .add (.v 3) (.c (.int 2))) (.cons (.bin .sub (.bi .len (.cons (.v 1) .nil)) (.c (.int 1))) .nil)) (.cons (.iff (.call f_have_common (.cons (.ix (.v 1) (.v 3)) (.cons (.ix (.v 1) (.bin .add (.v 3) (.c (.int 1)))) (.cons (.ix (.v 1) (.v 4)) (.cons (.ix (.v 1) (.bin .add (.v 4) (.c (.int 1)))) .nil))))) (.cons (.app 2 (.tup (.cons (.v 3) (.cons (.v 4) .nil))))
    .nil) .nil)
    .nil))
    .nil))
    (.cons (.ret (.v 2))
    .nil)))))
/-- _law_lies, ⟨3, 5, _⟩ -/
def bLLies (f_l_det f_l_way : Nat) : Ss :=
    (.cons (.iff (.cmp .ne (.call f_l_det (.cons (.call f_l_way (.cons (.v 0) (.cons (.v 1) .nil))) (.cons (.call f_l_way (.cons (.v 0) (.cons (.v 2) .nil))) .nil))) (.c (.int 0))) (.cons (.ret (.c (.bl false)))
    .nil) .nil)
    (.cons (.asg (.nm 3) (.call f_l_way (.cons (.v 0) (.cons (.v 2) .nil))))
    (.cons (.asg (.nm 4) (.call f_l_way (.cons (.v 2) (.cons (.v 1) .nil))))
    (.cons (.ret (.and (.cmp .ge (.bin .mul (.ix (.v 3) (.c (.int 0))) (.ix (.v 4) (.c (.int 0)))) (.c (.int 0))) (.cmp .ge (.bin .mul (.ix (.v 3) (.c (.int 1))) (.ix (.v 4) (.c (.int 1)))) (.c (.int 0)))))
    .nil))))
/-- _law_touch, ⟨4, 10, _⟩ -/
def bLTouch (f_l_way f_l_det f_l_lies : Nat) : Ss :=
    (.cons (.par (.cons (.nm 4) (.cons (.nm 5) .nil)) (.cons (.call f_l_way (.cons (.v 0) (.cons (.v 1) .nil))) (.cons (.call f_l_way (.cons (.v 2) (.cons (.v 3) .nil))) .nil)))
    (.cons (.asg (.nm 6) (.call f_l_det (.cons (.v 4) (.cons (.v 5) .nil))))
    (.cons (.iff (.cmp .eq (.v 6) (.c (.int 0))) (.cons (.asg (.nm 7) (.lst (.cons (.call f_l_lies (.cons (.v 0) (.cons (.v 1) (.cons (.v 2) .nil)))) (.cons (.call f_l_lies (.cons (.v 0) (.cons (.v 1) (.cons (.v 3) .nil)))) .nil))))
    (.cons (.ret (.cmp .isIn (.c (.bl true)) (.bin .add (.v 7) (.lst (.cons (.call f_l_lies (.cons (.v 2) (.cons (.v 3) (.cons (.v 0) .nil)))) (.cons (.call f_l_lies (.cons (.v 2) (.cons (.v 3) (.cons (.v 1) .nil)))) .nil))))))
    .nil)) .nil)
    (.cons (.par (.cons (.nm 8) (.cons (.nm 9) .nil)) (.cons (.call f_l_det (.cons (.call f_l_way (.cons (.v 0) (.cons (.v 2) .nil))) (.cons (.v 5) .nil))) (.cons (.call f_l_det (.cons (.call f_l_way (.cons (.v 0) (.cons (.v 2) .nil))) (.cons (.v 4) .nil))) .nil)))
    (.cons (.iff (.cmp .lt (.v 6) (.c (.int 0))) (.cons (.par (.cons (.nm 8) (.cons (.nm 9) (.cons (.nm 6) .nil))) (.cons (.neg (.v 8)) (.cons (.neg (.v 9)) (.cons (.neg (.v 6)) .nil))))
    .nil) .nil)
    (.cons (.ret (.and (.chain .le .le (.c (.int 0)) (.v 8) (.v 6)) (.chain .le .le (.c (.int 0)) (.v 9) (.v 6))))
    .nil))))))
/-! ### the signs -/
def sg (x : Int) : Int := (if 0 < x then 1 else 0) - (if x < 0 then 1 else 0)
theorem sg_zero {x : Int} : sg x = 0 ↔ x = 0 := by unfold sg; split <;> split <;> omega
theorem sg_cases (x : Int) : (0 < x ∧ sg x = 1) ∨ (x = 0 ∧ sg x = 0) ∨ (x < 0 ∧ sg x = -1) := by
  unfold sg
  by_cases h1 : 0 < x
  · left; exact ⟨h1, by rw [if_pos h1, if_neg (by omega)]; rfl⟩
  · by_cases h2 : x < 0
    · right; right; exact ⟨h2, by rw [if_neg h1, if_pos h2]; rfl⟩
    · right; left; exact ⟨by omega, by rw [if_neg h1, if_neg h2]; rfl⟩
theorem sg_mul {x y : Int} : sg x * sg y < 0 ↔ (0 < x ∧ y < 0) ∨ (x < 0 ∧ 0 < y) := by
  rcases sg_cases x with ⟨h1, h2⟩ | ⟨h1, h2⟩ | ⟨h1, h2⟩ <;> rcases sg_cases y with ⟨h3, h4⟩ | ⟨h3, h4⟩ | ⟨h3, h4⟩ <;> rw [h2, h4] <;> omega
theorem sg_b (x : Int) : -1 ≤ sg x ∧ sg x ≤ 1 := by unfold sg; split <;> split <;> omega
def on1 (p q r : Int) : Prop := 0 ≤ (r - p) * (q - r)
theorem on1_iff {p q r : Int} : on1 p q r ↔ (p ≤ r ∧ r ≤ q) ∨ (q ≤ r ∧ r ≤ p) := by
  unfold on1
  constructor
  · intro h
    by_cases h1 : p ≤ r
    · by_cases h2 : r ≤ q
      · exact .inl ⟨h1, h2⟩
      · by_cases h3 : p = r
        · right; omega
        · have := Int.mul_neg_of_pos_of_neg (show 0 < r - p by omega) (show q - r < 0 by omega); omega
    · by_cases h2 : q ≤ r
      · right; omega
      · have := Int.mul_neg_of_neg_of_pos (show r - p < 0 by omega) (show 0 < q - r by omega); omega
  · rintro (⟨h1, h2⟩ | ⟨h1, h2⟩)
    · exact Int.mul_nonneg (by omega) (by omega)
    · exact Int.mul_nonneg_of_nonpos_of_nonpos (by omega) (by omega)
def on2 (p q r : P2) : Prop := on1 p.1 q.1 r.1 ∧ on1 p.2 q.2 r.2
instance (p q r : Int) : Decidable (on1 p q r) := inferInstanceAs (Decidable (_ ≤ _))
instance (p q r : P2) : Decidable (on2 p q r) := inferInstanceAs (Decidable (_ ∧ _))
theorem on2_swap {p q r : P2} : on2 q p r ↔ on2 p q r := by
  unfold on2
  rw [on1_iff, on1_iff, on1_iff, on1_iff]
  omega
/-- two steps have a place in common -/
def hcP (a b c d : P2) : Prop := (((0 < cr3 a b c ∧ cr3 a b d < 0) ∨ (cr3 a b c < 0 ∧ 0 < cr3 a b d)) ∧ ((0 < cr3 c d a ∧ cr3 c d b < 0) ∨ (cr3 c d a < 0 ∧ 0 < cr3 c d b))) ∨
  (cr3 a b c = 0 ∧ on2 a b c) ∨ (cr3 a b d = 0 ∧ on2 a b d) ∨ (cr3 c d a = 0 ∧ on2 c d a) ∨ (cr3 c d b = 0 ∧ on2 c d b)
instance (a b c d : P2) : Decidable (hcP a b c d) := inferInstanceAs (Decidable (_ ∨ _))
def hcB (a b c d : P2) : Bool := decide (hcP a b c d)
theorem cr3_swap (p q r : P2) : cr3 q p r = - cr3 p q r := by simp only [cr3]; grind
theorem hcB_swap (a b c d : P2) : hcB c d a b = hcB a b c d := by
  unfold hcB
  rw [decide_eq_decide]
  unfold hcP
  grind
theorem hcB_rev (a b c d : P2) : hcB b a d c = hcB a b c d := by
  unfold hcB
  rw [decide_eq_decide]
  unfold hcP
  rw [cr3_swap a b d, cr3_swap a b c, cr3_swap c d b, cr3_swap c d a]
  rw [show on2 b a d ↔ on2 a b d from on2_swap, show on2 b a c ↔ on2 a b c from on2_swap, show on2 d c b ↔ on2 c d b from on2_swap, show on2 d c a ↔ on2 c d a from on2_swap]
  generalize on2 a b c = o1
  generalize on2 a b d = o2
  generalize on2 c d a = o3
  generalize on2 c d b = o4
  generalize cr3 a b c = x1
  generalize cr3 a b d = x2
  generalize cr3 c d a = x3
  generalize cr3 c d b = x4
  have n : ∀ x : Int, (-x = 0 ↔ x = 0) ∧ (0 < -x ↔ x < 0) ∧ (-x < 0 ↔ 0 < x) := fun x => by omega
  simp only [(n _).1, (n _).2.1, (n _).2.2]
  grind
theorem hcB_turn (a b c d : P2) : hcB (0 - a.2, a.1) (0 - b.2, b.1) (0 - c.2, c.1) (0 - d.2, d.1) = hcB a b c d := by
  have e2 : ∀ p q r : P2, cr3 (0 - p.2, p.1) (0 - q.2, q.1) (0 - r.2, r.1) = cr3 p q r := fun p q r => by simp only [cr3]; grind
  have e3 : ∀ p q r : P2, on2 (0 - p.2, p.1) (0 - q.2, q.1) (0 - r.2, r.1) ↔ on2 p q r := fun p q r => by
    unfold on2
    simp only [on1_iff]
    omega
  unfold hcB
  rw [decide_eq_decide]
  unfold hcP
  simp only [e2, e3]
theorem hcB_shift (x y : Int) (a b c d : P2) : hcB (a.1 + x, a.2 + y) (b.1 + x, b.2 + y) (c.1 + x, c.2 + y) (d.1 + x, d.2 + y) = hcB a b c d := by
  have e2 : ∀ p q r : P2, cr3 (p.1 + x, p.2 + y) (q.1 + x, q.2 + y) (r.1 + x, r.2 + y) = cr3 p q r := fun p q r => by simp only [cr3]; grind
  have e3 : ∀ p q r : P2, on2 (p.1 + x, p.2 + y) (q.1 + x, q.2 + y) (r.1 + x, r.2 + y) ↔ on2 p q r := fun p q r => by
    unfold on2
    simp only [on1_iff]
    omega
  unfold hcB
  rw [decide_eq_decide]
  unfold hcP
  simp only [e2, e3]
/-! ### by where one comes to the line of the other -/
theorem line1 {dn up V W : Int} (h : dn * V = up * W) : dn * dn * (V * (W - V)) = up * (dn - up) * (W * W) := by
  have : dn * dn * (V * (W - V)) = (dn * V) * (dn * W - dn * V) := by grind
  rw [this, h]
  grind
theorem sq_pos {x : Int} (h : x ≠ 0) : 0 < x * x := by
  by_cases p : 0 < x
  · exact Int.mul_pos p p
  · exact Int.mul_pos_of_neg_of_neg (by omega) (by omega)
theorem sq_nn (x : Int) : 0 ≤ x * x := by
  by_cases h : x = 0
  · subst h; decide
  · exact Int.le_of_lt (sq_pos h)
theorem nn_of {k x : Int} (hk : 0 < k) : 0 ≤ k * x ↔ 0 ≤ x := by
  constructor
  · intro h
    by_cases p : 0 ≤ x
    · exact p
    · have := Int.mul_neg_of_pos_of_neg hk (show x < 0 by omega); omega
  · exact fun h => Int.mul_nonneg (by omega) h
theorem on_line {dn up : Int} {V W : P2} (hd : dn ≠ 0) (hW : W.1 ≠ 0 ∨ W.2 ≠ 0) (h1 : dn * V.1 = up * W.1) (h2 : dn * V.2 = up * W.2) : (0 ≤ V.1 * (W.1 - V.1) ∧ 0 ≤ V.2 * (W.2 - V.2)) ↔ 0 ≤ up * (dn - up) := by
  have e1 := line1 h1
  have e2 := line1 h2
  have dd := sq_pos hd
  rw [← nn_of (x := V.1 * (W.1 - V.1)) dd, ← nn_of (x := V.2 * (W.2 - V.2)) dd, e1, e2]
  constructor
  · rintro ⟨a, b⟩
    by_cases p : 0 ≤ up * (dn - up)
    · exact p
    · rcases hW with w | w
      · have := Int.mul_neg_of_neg_of_pos (show up * (dn - up) < 0 by omega) (sq_pos w); omega
      · have := Int.mul_neg_of_neg_of_pos (show up * (dn - up) < 0 by omega) (sq_pos w); omega
  · exact fun p => ⟨Int.mul_nonneg p (sq_nn _), Int.mul_nonneg p (sq_nn _)⟩
theorem between {dn up : Int} (hd : dn ≠ 0) : 0 ≤ up * (dn - up) ↔ (0 < dn ∧ 0 ≤ up ∧ up ≤ dn) ∨ (dn < 0 ∧ dn ≤ up ∧ up ≤ 0) := by
  have := on1_iff (p := 0) (q := dn) (r := up)
  unfold on1 at this
  rw [Int.sub_zero] at this
  rw [this]
  omega
def detP (u v : P2) : Int := u.1 * v.2 - u.2 * v.1
def wayP (p q : P2) : P2 := (q.1 - p.1, q.2 - p.2)
def liesP (p q r : P2) : Prop := cr3 p q r = 0 ∧ on2 p q r
instance (p q r : P2) : Decidable (liesP p q r) := inferInstanceAs (Decidable (_ ∧ _))
def touchP (a b c d : P2) : Prop := if detP (wayP a b) (wayP c d) = 0 then liesP a b c ∨ liesP a b d ∨ liesP c d a ∨ liesP c d b else
  (0 ≤ detP (wayP a c) (wayP c d) * (detP (wayP a b) (wayP c d) - detP (wayP a c) (wayP c d))) ∧ (0 ≤ detP (wayP a c) (wayP a b) * (detP (wayP a b) (wayP c d) - detP (wayP a c) (wayP a b)))
theorem touch_iff (a b c d : P2) : touchP a b c d ↔ hcP a b c d := by
  have x1 : cr3 a b c = - detP (wayP a c) (wayP a b) := by simp only [cr3, detP, wayP]; grind
  have x2 : cr3 a b d = detP (wayP a b) (wayP c d) - detP (wayP a c) (wayP a b) := by simp only [cr3, detP, wayP]; grind
  have x3 : cr3 c d a = detP (wayP a c) (wayP c d) := by simp only [cr3, detP, wayP]; grind
  have x4 : cr3 c d b = detP (wayP a c) (wayP c d) - detP (wayP a b) (wayP c d) := by simp only [cr3, detP, wayP]; grind
  unfold touchP
  by_cases h0 : detP (wayP a b) (wayP c d) = 0
  · rw [if_pos h0]
    unfold hcP liesP
    rw [h0] at x2 x4
    generalize on2 a b c = o1
    generalize on2 a b d = o2
    generalize on2 c d a = o3
    generalize on2 c d b = o4
    rw [x1, x2, x3, x4]
    generalize detP (wayP a c) (wayP a b) = by_
    generalize detP (wayP a c) (wayP c d) = up
    have n1 : ¬ ((0 < -by_ ∧ 0 - by_ < 0) ∨ (-by_ < 0 ∧ 0 < 0 - by_)) := by omega
    constructor
    · exact .inr
    · rintro (z | z)
      · exact absurd z.1 n1
      · exact z
  · rw [if_neg h0]
    have w1 : (wayP a b).1 ≠ 0 ∨ (wayP a b).2 ≠ 0 := by
      by_cases p : (wayP a b).1 = 0
      · by_cases q : (wayP a b).2 = 0
        · exfalso; apply h0; unfold detP; rw [p, q]; omega
        · exact .inr q
      · exact .inl p
    have w2 : (wayP c d).1 ≠ 0 ∨ (wayP c d).2 ≠ 0 := by
      by_cases p : (wayP c d).1 = 0
      · by_cases q : (wayP c d).2 = 0
        · exfalso; apply h0; unfold detP; rw [p, q]; omega
        · exact .inr q
      · exact .inl p
    have c1 : detP (wayP a b) (wayP c d) * (wayP a c).1 = detP (wayP a c) (wayP c d) * (wayP a b).1 - detP (wayP a c) (wayP a b) * (wayP c d).1 := by simp only [detP, wayP]; grind
    have c2 : detP (wayP a b) (wayP c d) * (wayP a c).2 = detP (wayP a c) (wayP c d) * (wayP a b).2 - detP (wayP a c) (wayP a b) * (wayP c d).2 := by simp only [detP, wayP]; grind
    have o1 : detP (wayP a c) (wayP a b) = 0 → (on2 a b c ↔ 0 ≤ detP (wayP a c) (wayP c d) * (detP (wayP a b) (wayP c d) - detP (wayP a c) (wayP c d))) := fun hz => by
      rw [hz] at c1 c2
      have l := on_line (V := wayP a c) h0 w1 (by rw [c1, Int.zero_mul, Int.sub_zero]) (by rw [c2, Int.zero_mul, Int.sub_zero])
      rw [← l]
      unfold on2 on1 wayP
      dsimp only
      rw [show b.1 - a.1 - (c.1 - a.1) = b.1 - c.1 by omega, show b.2 - a.2 - (c.2 - a.2) = b.2 - c.2 by omega]
    have o2 : detP (wayP a c) (wayP a b) = detP (wayP a b) (wayP c d) → (on2 a b d ↔ 0 ≤ detP (wayP a c) (wayP c d) * (detP (wayP a b) (wayP c d) - detP (wayP a c) (wayP c d))) := fun hz => by
      have l := on_line (V := wayP a d) h0 w1 (up := detP (wayP a c) (wayP c d)) (by rw [hz] at c1; simp only [wayP] at c1 ⊢; grind) (by rw [hz] at c2; simp only [wayP] at c2 ⊢; grind)
      rw [← l]
      unfold on2 on1 wayP
      dsimp only
      rw [show b.1 - a.1 - (d.1 - a.1) = b.1 - d.1 by omega, show b.2 - a.2 - (d.2 - a.2) = b.2 - d.2 by omega]
    have o3 : detP (wayP a c) (wayP c d) = 0 → (on2 c d a ↔ 0 ≤ detP (wayP a c) (wayP a b) * (detP (wayP a b) (wayP c d) - detP (wayP a c) (wayP a b))) := fun hz => by
      have l := on_line (V := wayP c a) h0 w2 (up := detP (wayP a c) (wayP a b)) (by rw [hz] at c1; simp only [wayP] at c1 ⊢; grind) (by rw [hz] at c2; simp only [wayP] at c2 ⊢; grind)
      rw [← l]
      unfold on2 on1 wayP
      dsimp only
      rw [show d.1 - c.1 - (a.1 - c.1) = d.1 - a.1 by omega, show d.2 - c.2 - (a.2 - c.2) = d.2 - a.2 by omega]
    have o4 : detP (wayP a c) (wayP c d) = detP (wayP a b) (wayP c d) → (on2 c d b ↔ 0 ≤ detP (wayP a c) (wayP a b) * (detP (wayP a b) (wayP c d) - detP (wayP a c) (wayP a b))) := fun hz => by
      have l := on_line (V := wayP c b) h0 w2 (up := detP (wayP a c) (wayP a b)) (by rw [hz] at c1; simp only [wayP] at c1 ⊢; grind) (by rw [hz] at c2; simp only [wayP] at c2 ⊢; grind)
      rw [← l]
      unfold on2 on1 wayP
      dsimp only
      rw [show d.1 - c.1 - (b.1 - c.1) = d.1 - b.1 by omega, show d.2 - c.2 - (b.2 - c.2) = d.2 - b.2 by omega]
    rw [between h0] at o1 o2 o3 o4 ⊢
    rw [between h0]
    unfold hcP
    rw [x1, x2, x3, x4]
    clear c1 c2 x1 x2 x3 x4 w1 w2
    generalize on2 a b c = q1 at *
    generalize on2 a b d = q2 at *
    generalize on2 c d a = q3 at *
    generalize on2 c d b = q4 at *
    generalize detP (wayP a c) (wayP a b) = by_ at *
    generalize detP (wayP a c) (wayP c d) = up at *
    generalize detP (wayP a b) (wayP c d) = dn at *
    by_cases z1 : by_ = 0
    · have := o1 z1
      by_cases z3 : up = 0
      · have := o3 z3
        by_cases z2 : by_ = dn
        · omega
        · by_cases z4 : up = dn
          · omega
          · grind
      · by_cases z4 : up = dn
        · have := o4 z4; grind
        · grind
    · by_cases z2 : by_ = dn
      · have := o2 z2
        by_cases z3 : up = 0
        · have := o3 z3; grind
        · by_cases z4 : up = dn
          · have := o4 z4; grind
          · grind
      · by_cases z3 : up = 0
        · have := o3 z3; grind
        · by_cases z4 : up = dn
          · have := o4 z4; grind
          · have : ¬ (0 - by_ = 0) := by omega
            grind
end PD
set_option maxHeartbeats 4000000
set_option maxRecDepth 10000
namespace PD
/-! F31: crossings: what the defs tell. -/
@[simp] theorem xpl0 {q : P2} : ixD (plD q) (.int 0) = some (.int q.1) := atD0
@[simp] theorem xpl1 {q : P2} : ixD (plD q) (.int 1) = some (.int q.2) := atD1
@[simp] theorem atD3' {a b c d : D} {r : List D} : atD (a :: b :: c :: d :: r) 3 = some d := (atD_nat (i := 3)).trans rfl
@[simp] theorem intB_bl {b : Bool} : biD .int [.bl b] = some (false, .int (if b then 1 else 0)) := rfl
@[simp] theorem ite_bl2 {p : Prop} [Decidable p] {a c : Bool} {st : List Slot} : (if p then (Res.ok (false, D.bl a) st : RE) else .ok (false, .bl c) st) = .ok (false, .bl (if p then a else c)) st := by split <;> rfl
theorem mm_iff {p q r : Int} : ((if q < p then q else p) ≤ r ∧ r ≤ (if q > p then q else p)) ↔ on1 p q r := by
  rw [on1_iff]
  split <;> split <;> omega
section
variable {rows : List DRow} {k : Nat}
theorem run_isOn {f : Nat} (hf : At rows f ⟨3, 4, bIsOn⟩) (p q r : P2) : runL (PTof rows) (k + 1) f [plD p, plD q, plD r] = .ok false (.bl (decide (on2 p q r))) := by
  rw [runL_at hf rfl]
  have e1 := mm_iff (p := p.1) (q := q.1) (r := r.1)
  have e2 := mm_iff (p := p.2) (q := q.2) (r := r.2)
  have ed : decide (on2 p q r) = ((decide ((if q.1 < p.1 then q.1 else p.1) ≤ r.1) && decide (r.1 ≤ (if q.1 > p.1 then q.1 else p.1))) && (decide ((if q.2 < p.2 then q.2 else p.2) ≤ r.2) && decide (r.2 ≤ (if q.2 > p.2 then q.2 else p.2)))) := by
    rw [Bool.eq_iff_iff]
    simp only [Bool.and_eq_true, decide_eq_true_eq]
    rw [e1, e2]
    exact Iff.rfl
  rw [ed]
  clear e1 e2 ed
  obtain ⟨a, ea⟩ : ∃ a, a = (if q.1 < p.1 then q.1 else p.1) := ⟨_, rfl⟩
  obtain ⟨b, eb⟩ : ∃ a, a = (if q.1 > p.1 then q.1 else p.1) := ⟨_, rfl⟩
  obtain ⟨c, ec⟩ : ∃ a, a = (if q.2 < p.2 then q.2 else p.2) := ⟨_, rfl⟩
  obtain ⟨d, ed⟩ : ∃ a, a = (if q.2 > p.2 then q.2 else p.2) := ⟨_, rfl⟩
  have m1 := minB_int (i := p.1) (j := q.1)
  have m2 := maxB_int (i := p.1) (j := q.1)
  have m3 := minB_int (i := p.2) (j := q.2)
  have m4 := maxB_int (i := p.2) (j := q.2)
  rw [← ea] at m1 ⊢
  rw [← eb] at m2 ⊢
  rw [← ec] at m3 ⊢
  rw [← ed] at m4 ⊢
  by_cases h1 : a ≤ r.1 <;> by_cases h2 : r.1 ≤ b <;> by_cases h3 : c ≤ r.2 <;> by_cases h4 : r.2 ≤ d <;> simp [bIsOn, m1, m2, m3, m4, h1, h2, h3, h4, List.replicate]
theorem run_common {f fc fo : Nat} (hc : At rows fc ⟨3, 3, bCrossed⟩) (ho : At rows fo ⟨3, 4, bIsOn⟩) (hf : At rows f ⟨4, 8, bCommon fc fo⟩) (a b c d : P2) (ha : smP a) (hb : smP b) (hc' : smP c) (hd : smP d) :
    runL (PTof rows) (k + 2) f [plD a, plD b, plD c, plD d] = .ok false (.bl (hcB a b c d)) := by
  rw [runL_at hf rfl]
  have c1 := run_crossed (k := k) hc a b c ha hb hc'
  have c2 := run_crossed (k := k) hc a b d ha hb hd
  have c3 := run_crossed (k := k) hc c d a hc' hd ha
  have c4 := run_crossed (k := k) hc c d b hc' hd hb
  have o1 := run_isOn (k := k) ho a b c
  have o2 := run_isOn (k := k) ho a b d
  have o3 := run_isOn (k := k) ho c d a
  have o4 := run_isOn (k := k) ho c d b
  have sz : (4 : Nat) ≤ SZ := by decide
  have sz2 : (4 : Nat) < SZ := by decide
  have es : ∀ x : Int, (if 0 < x then (1 : Int) else 0) - (if x < 0 then 1 else 0) = sg x := fun x => rfl
  have ms : ∀ x y : Int, mulOk (sg x) (sg y) := fun x y => by have := sg_b x; exact mulOk_l (by omega)
  have e : hcB a b c d = ((decide (sg (cr3 a b c) * sg (cr3 a b d) < 0) && decide (sg (cr3 c d a) * sg (cr3 c d b) < 0)) || ((decide (sg (cr3 a b c) = 0) && decide (on2 a b c)) || ((decide (sg (cr3 a b d) = 0) && decide (on2 a b d)) || ((decide (sg (cr3 c d a) = 0) && decide (on2 c d a)) || (decide (sg (cr3 c d b) = 0) && decide (on2 c d b)))))) := by
    unfold hcB
    rw [Bool.eq_iff_iff, decide_eq_true_iff]
    unfold hcP
    simp only [Bool.or_eq_true, Bool.and_eq_true, decide_eq_true_eq, sg_mul, sg_zero]
  rw [e]
  clear e
  have t1 : ∀ st, lcGo (.nm 7) [7] (evC (runL (PTof rows) (k + 1)) .nil) (evE (runL (PTof rows) (k + 1)) (.bin .sub (.bi .int (.cons (.cmp .gt (.v 7) (.c (.int 0))) .nil)) (.bi .int (.cons (.cmp .lt (.v 7) (.c (.int 0))) .nil)))) [.int (cr3 a b c), .int (cr3 a b d), .int (cr3 c d a), .int (cr3 c d b)] [] [.sh (plD a), .sh (plD b), .sh (plD c), .sh (plD d), st, .no, .no, .no] =
      .ok (true, .lst [.int (sg (cr3 a b c)), .int (sg (cr3 a b d)), .int (sg (cr3 c d a)), .int (sg (cr3 c d b))]) [.sh (plD a), .sh (plD b), .sh (plD c), .sh (plD d), st, .no, .no, .no] := by
    intro st
    have m := lcGo_map (tg := .nm 7) (own := [7]) (cond := evC (runL (PTof rows) (k + 1)) .nil) (elt := evE (runL (PTof rows) (k + 1)) (.bin .sub (.bi .int (.cons (.cmp .gt (.v 7) (.c (.int 0))) .nil)) (.bi .int (.cons (.cmp .lt (.v 7) (.c (.int 0))) .nil)))) (enc := D.int) (f := fun x => D.int (sg x)) (w := [.sh (plD a), .sh (plD b), .sh (plD c), .sh (plD d), st, .no, .no, .no]) [cr3 a b c, cr3 a b d, cr3 c d a, cr3 c d b] []
      fun x _ => ⟨[.sh (plD a), .sh (plD b), .sh (plD c), .sh (plD d), st, .no, .no, .sh (.int x)], false, false, _, [.sh (plD a), .sh (plD b), .sh (plD c), .sh (plD d), st, .no, .no, .sh (.int x)], by simp, by rw [evC_nil], by
        have := es x
        by_cases h1 : 0 < x <;> by_cases h2 : x < 0 <;> simp only [h1, h2, if_true, if_false] at this <;> simp [h1, h2, ← this], by simp [wipeS]⟩
    simpa using m
  have iB : ∀ xs : List D, iterD .seq [.lst xs] = some xs := fun _ => rfl
  have aB : ∀ x y z w : Bool, anyB [.lst [.bl x, .bl y, .bl z, .bl w]] = some (false, .bl (x || (y || (z || w)))) := fun x y z w => by cases x <;> cases y <;> cases z <;> cases w <;> rfl
  generalize cr3 a b c = x1 at *
  generalize cr3 a b d = x2 at *
  generalize cr3 c d a = x3 at *
  generalize cr3 c d b = x4 at *
  generalize decide (on2 a b c) = q1 at *
  generalize decide (on2 a b d) = q2 at *
  generalize decide (on2 c d a) = q3 at *
  generalize decide (on2 c d b) = q4 at *
  have m12 := ms x1 x2
  have m34 := ms x3 x4
  generalize sg x1 = g1 at *
  generalize sg x2 = g2 at *
  generalize sg x3 = g3 at *
  generalize sg x4 = g4 at *
  by_cases h1 : g1 * g2 < 0 <;> by_cases h2 : g3 * g4 < 0 <;> simp [bCommon, c1, c2, c3, c4, sz, sz2, evE_lc, iB, lockAll, lockS, unlockS, wipeOk, wipeS, t1, Res.noExc, unlockAll, backS, m12, m34, h1, h2, o1, o2, o3, o4, aB, List.replicate]
end
end PD
set_option maxHeartbeats 4000000
set_option maxRecDepth 10000
namespace PD
/-! F32: where steps touch; all pairs of steps. -/
instance (a b c d : P2) : Decidable (touchP a b c d) := by unfold touchP; infer_instance
theorem in_bl4 (x y z w : Bool) : inD (.bl true) (.lst [.bl x, .bl y, .bl z, .bl w]) = some (x || (y || (z || w))) := by cases x <;> cases y <;> cases z <;> cases w <;> rfl
section
variable {rows : List DRow} {k : Nat}
theorem way_sm {p q : P2} (hp : smP p) (hq : smP q) : (wayP p q).1.natAbs < 2 ^ 64 ∧ (wayP p q).2.natAbs < 2 ^ 64 := by
  unfold smP at *
  unfold wayP
  constructor <;> dsimp only <;> omega
theorem run_lies {f fd fw : Nat} (hd : At rows fd ⟨2, 2, bDet⟩) (hw : At rows fw ⟨2, 2, bWay⟩) (hf : At rows f ⟨3, 5, bLLies fd fw⟩) (p q r : P2) (hp : smP p) (hq : smP q) (hr : smP r) :
    runL (PTof rows) (k + 2) f [plD p, plD q, plD r] = .ok false (.bl (decide (liesP p q r))) := by
  rw [runL_at hf rfl]
  have w1 := run_way (k := k) hw p q
  have w2 := run_way (k := k) hw p r
  have w3 := run_way (k := k) hw r q
  have d1 := run_det (k := k) hd (wayP p q) (wayP p r) (way_sm hp hq)
  have ec : crP (wayP p q) (wayP p r) = cr3 p q r := rfl
  rw [ec] at d1
  have e1 : (q.1 - p.1, q.2 - p.2) = wayP p q := rfl
  have e2 : (r.1 - p.1, r.2 - p.2) = wayP p r := rfl
  have e3 : (q.1 - r.1, q.2 - r.2) = wayP r q := rfl
  rw [e1] at w1
  rw [e2] at w2
  rw [e3] at w3
  have s2 := way_sm hp hr
  have s3 := way_sm hr hq
  have m1 : mulOk (wayP p r).1 (wayP r q).1 := mulOk_l s2.1
  have m2 : mulOk (wayP p r).2 (wayP r q).2 := mulOk_l s2.2
  have el : decide (liesP p q r) = (decide (cr3 p q r = 0) && (decide (0 ≤ (wayP p r).1 * (wayP r q).1) && decide (0 ≤ (wayP p r).2 * (wayP r q).2))) := by
    rw [Bool.eq_iff_iff, decide_eq_true_iff]
    simp only [Bool.and_eq_true, decide_eq_true_eq]
    exact Iff.rfl
  rw [el]
  generalize wayP p q = u at *
  generalize wayP p r = v at *
  generalize wayP r q = w at *
  by_cases h : cr3 p q r = 0
  · by_cases h1 : 0 ≤ v.1 * w.1 <;> by_cases h2 : 0 ≤ v.2 * w.2 <;> simp [bLLies, w1, w2, w3, d1, h, m1, m2, h1, h2, List.replicate]
  · simp [bLLies, w1, w2, d1, h, List.replicate]
theorem run_touch {f fd fw fl : Nat} (hd : At rows fd ⟨2, 2, bDet⟩) (hw : At rows fw ⟨2, 2, bWay⟩) (hl : At rows fl ⟨3, 5, bLLies fd fw⟩) (hf : At rows f ⟨4, 10, bLTouch fw fd fl⟩) (a b c d : P2) (ha : smP a) (hb : smP b) (hc : smP c) (hd' : smP d) :
    runL (PTof rows) (k + 3) f [plD a, plD b, plD c, plD d] = .ok false (.bl (hcB a b c d)) := by
  rw [runL_at hf rfl]
  have w1 := run_way (k := k + 1) hw a b
  have w2 := run_way (k := k + 1) hw c d
  have w3 := run_way (k := k + 1) hw a c
  have l1 := run_lies (k := k) hd hw hl a b c ha hb hc
  have l2 := run_lies (k := k) hd hw hl a b d ha hb hd'
  have l3 := run_lies (k := k) hd hw hl c d a hc hd' ha
  have l4 := run_lies (k := k) hd hw hl c d b hc hd' hb
  have d1 := run_det (k := k + 1) hd (wayP a b) (wayP c d) (way_sm ha hb)
  have d2 := run_det (k := k + 1) hd (wayP a c) (wayP c d) (way_sm ha hc)
  have d3 := run_det (k := k + 1) hd (wayP a c) (wayP a b) (way_sm ha hc)
  have e1 : (b.1 - a.1, b.2 - a.2) = wayP a b := rfl
  have e2 : (d.1 - c.1, d.2 - c.2) = wayP c d := rfl
  have e3 : (c.1 - a.1, c.2 - a.2) = wayP a c := rfl
  rw [e1] at w1
  rw [e2] at w2
  rw [e3] at w3
  have et : ∀ u v : P2, crP u v = detP u v := fun _ _ => rfl
  rw [et] at d1 d2 d3
  have eh : hcB a b c d = decide (touchP a b c d) := by
    unfold hcB
    rw [decide_eq_decide]
    exact (touch_iff a b c d).symm
  rw [eh]
  by_cases h0 : detP (wayP a b) (wayP c d) = 0
  · have ep : decide (touchP a b c d) = (decide (liesP a b c) || (decide (liesP a b d) || (decide (liesP c d a) || decide (liesP c d b)))) := by
      rw [Bool.eq_iff_iff, decide_eq_true_iff]
      unfold touchP
      rw [if_pos h0]
      simp only [Bool.or_eq_true, decide_eq_true_eq]
    rw [ep]
    have sz : (4 : Nat) ≤ SZ := by decide
    have ci : ∀ x y : D, cmpD .isIn x y = inD x y := fun _ _ => rfl
    generalize decide (liesP a b c) = q1 at *
    generalize decide (liesP a b d) = q2 at *
    generalize decide (liesP c d a) = q3 at *
    generalize decide (liesP c d b) = q4 at *
    simp [bLTouch, w1, w2, d1, h0, l1, l2, l3, l4, sz, ci, in_bl4, List.replicate]
  · have ep : decide (touchP a b c d) = (decide (0 ≤ detP (wayP a c) (wayP c d) * (detP (wayP a b) (wayP c d) - detP (wayP a c) (wayP c d))) && decide (0 ≤ detP (wayP a c) (wayP a b) * (detP (wayP a b) (wayP c d) - detP (wayP a c) (wayP a b)))) := by
      rw [Bool.eq_iff_iff, decide_eq_true_iff]
      unfold touchP
      rw [if_neg h0]
      simp only [Bool.and_eq_true, decide_eq_true_eq]
    rw [ep]
    have b1 := between (up := detP (wayP a c) (wayP c d)) h0
    have b2 := between (up := detP (wayP a c) (wayP a b)) h0
    clear ep
    generalize detP (wayP a b) (wayP c d) = dn at *
    generalize detP (wayP a c) (wayP c d) = up at *
    generalize detP (wayP a c) (wayP a b) = by_ at *
    by_cases hn : dn < 0
    · have x1 : decide (0 ≤ up * (dn - up)) = (decide (0 ≤ -up) && decide (-up ≤ -dn)) := by
        rw [Bool.eq_iff_iff]
        simp only [decide_eq_true_eq, Bool.and_eq_true]
        rw [b1]; omega
      have x2 : decide (0 ≤ by_ * (dn - by_)) = (decide (0 ≤ -by_) && decide (-by_ ≤ -dn)) := by
        rw [Bool.eq_iff_iff]
        simp only [decide_eq_true_eq, Bool.and_eq_true]
        rw [b2]; omega
      rw [x1, x2]
      clear x1 x2 b1 b2
      generalize hu : -up = u' at *
      generalize hb' : -by_ = b' at *
      generalize hd'' : -dn = d' at *
      by_cases c1 : 0 ≤ u' <;> by_cases c2 : u' ≤ d' <;> by_cases c3 : 0 ≤ b' <;> by_cases c4 : b' ≤ d' <;> simp [bLTouch, w1, w2, w3, d1, d2, d3, h0, hn, hu, hb', hd'', c1, c2, c3, c4, List.replicate]
    · have x1 : decide (0 ≤ up * (dn - up)) = (decide (0 ≤ up) && decide (up ≤ dn)) := by
        rw [Bool.eq_iff_iff]
        simp only [decide_eq_true_eq, Bool.and_eq_true]
        rw [b1]; omega
      have x2 : decide (0 ≤ by_ * (dn - by_)) = (decide (0 ≤ by_) && decide (by_ ≤ dn)) := by
        rw [Bool.eq_iff_iff]
        simp only [decide_eq_true_eq, Bool.and_eq_true]
        rw [b2]; omega
      rw [x1, x2]
      clear x1 x2 b1 b2
      by_cases c1 : 0 ≤ up <;> by_cases c2 : up ≤ dn <;> by_cases c3 : 0 ≤ by_ <;> by_cases c4 : by_ ≤ dn <;> simp [bLTouch, w1, w2, w3, d1, d2, d3, h0, hn, c1, c2, c3, c4, List.replicate]
end
/-! ### all pairs -/
def rowC (f : Nat → Nat → Bool) (n i m : Nat) : List P2 := ((List.range m).filter fun j => f i (i + 2 + j)).map fun j => ((i : Int), ((i + 2 + j : Nat) : Int))
def pairsC (f : Nat → Nat → Bool) (n k : Nat) : List P2 := (List.range k).flatMap fun i => rowC f n i (n - (i + 2))
theorem rowC_len (f : Nat → Nat → Bool) (n i m : Nat) : (rowC f n i m).length ≤ m := by
  unfold rowC
  rw [List.length_map]
  exact Nat.le_trans (List.length_filter_le _ _) (by simp)
theorem rowC_succ (f : Nat → Nat → Bool) (n i m : Nat) : rowC f n i (m + 1) = rowC f n i m ++ if f i (i + 2 + m) then [((i : Int), ((i + 2 + m : Nat) : Int))] else [] := by
  unfold rowC
  rw [List.range_succ, List.filter_append, List.map_append]
  congr 1
  by_cases h : f i (i + 2 + m) = true
  · simp [h]
  · simp [h]
theorem pairsC_succ (f : Nat → Nat → Bool) (n k : Nat) : pairsC f n (k + 1) = pairsC f n k ++ rowC f n k (n - (k + 2)) := by
  unfold pairsC
  rw [List.range_succ, List.flatMap_append]
  simp
theorem pairsC_len (f : Nat → Nat → Bool) (n : Nat) : ∀ k, (pairsC f n k).length ≤ n * k
  | 0 => by simp [pairsC]
  | k + 1 => by
    rw [pairsC_succ, List.length_append, Nat.mul_succ]
    have := pairsC_len f n k
    have := rowC_len f n k (n - (k + 2))
    omega
theorem mem_pairsC {f : Nat → Nat → Bool} {n k : Nat} {q : P2} : q ∈ pairsC f n k ↔ ∃ i j : Nat, q = ((i : Int), (j : Int)) ∧ i < k ∧ i + 2 ≤ j ∧ j < n ∧ f i j = true := by
  unfold pairsC
  rw [List.mem_flatMap]
  constructor
  · rintro ⟨i, hi, hq⟩
    rw [List.mem_range] at hi
    unfold rowC at hq
    rw [List.mem_map] at hq
    obtain ⟨j, hj, rfl⟩ := hq
    rw [List.mem_filter, List.mem_range] at hj
    exact ⟨i, i + 2 + j, rfl, hi, by omega, by omega, hj.2⟩
  · rintro ⟨i, j, rfl, h1, h2, h3, h4⟩
    refine ⟨i, List.mem_range.mpr h1, ?_⟩
    unfold rowC
    rw [List.mem_map]
    exact ⟨j - (i + 2), List.mem_filter.mpr ⟨List.mem_range.mpr (by omega), by rw [show i + 2 + (j - (i + 2)) = j by omega]; exact h4⟩, by rw [show i + 2 + (j - (i + 2)) = j by omega]⟩
theorem pairsC_sorted (f : Nat → Nat → Bool) (n : Nat) : ∀ k, (pairsC f n k).Pairwise fun a b => a.1 < b.1 ∨ (a.1 = b.1 ∧ a.2 < b.2)
  | 0 => by simp [pairsC]
  | k + 1 => by
    rw [pairsC_succ, List.pairwise_append]
    refine ⟨pairsC_sorted f n k, ?_, fun a ha b hb => ?_⟩
    · unfold rowC
      rw [List.pairwise_map]
      refine (List.Pairwise.filter _ List.pairwise_lt_range).imp fun {x y} h => .inr ⟨rfl, ?_⟩
      show ((k + 2 + x : Nat) : Int) < ((k + 2 + y : Nat) : Int)
      omega
    · obtain ⟨i, j, rfl, h1, _⟩ := mem_pairsC.mp ha
      unfold rowC at hb
      rw [List.mem_map] at hb
      obtain ⟨y, _, rfl⟩ := hb
      left
      show (i : Int) < (k : Int)
      omega
theorem pairsC_congr {f g : Nat → Nat → Bool} {n k : Nat} (h : ∀ i j, i + 2 ≤ j → j < n → f i j = g i j) : pairsC f n k = pairsC g n k := by
  unfold pairsC
  congr 1
  funext i
  unfold rowC
  congr 1
  apply List.filter_congr
  intro j hj
  rw [List.mem_range] at hj
  exact h i (i + 2 + j) (by omega) (by omega)
/-- by the places -/
def fC (L : List P2) (i j : Nat) : Bool := hcB (L.getD i (0, 0)) (L.getD (i + 1) (0, 0)) (L.getD j (0, 0)) (L.getD (j + 1) (0, 0))
def crossL (L : List P2) : List P2 := pairsC (fC L) (L.length - 1) (L.length - 1)
def lCr1 (fh : Nat) : Ss := .cons (.iff (.call fh (.cons (.ix (.v 1) (.v 3)) (.cons (.ix (.v 1) (.bin .add (.v 3) (.c (.int 1)))) (.cons (.ix (.v 1) (.v 4)) (.cons (.ix (.v 1) (.bin .add (.v 4) (.c (.int 1)))) .nil))))) (.cons (.app 2 (.tup (.cons (.v 3) (.cons (.v 4) .nil)))) .nil) .nil) .nil
def lCr2 (fh : Nat) : Ss := .cons (.for_ (.nm 4) .range (.cons (.bin .add (.v 3) (.c (.int 2))) (.cons (.bin .sub (.bi .len (.cons (.v 1) .nil)) (.c (.int 1))) .nil)) (lCr1 fh)) .nil
end PD
set_option maxHeartbeats 4000000
set_option maxRecDepth 10000
namespace PD
theorem evS_for_of {FT : Nat → List D → FR} {t : Tg} {k : Itk} {es : Es} {b : Ss} {st st1 : List Slot} {ds items : List D} {r : RS} (h1 : evA FT es st = .ok ds st1) (h2 : iterD k ds = some items) (h3 : forGo t (evSs FT b) items st1 = r) : evS FT (.for_ t k es b) st = r := by
  rw [evS_for, h1, th_ok', h2]
  exact h3
theorem it2 (a b : Int) (r1 : rngOk a) (r2 : rngOk b) : iterD .range [.int a, .int b] = some (rangeL a (b - a).toNat) := by
  show (if rngOk a ∧ rngOk b then some (rangeL a (b - a).toNat) else none) = _
  rw [if_pos ⟨r1, r2⟩]
theorem it1 (a : Int) (r1 : rngOk a) : iterD .range [.int a] = some (rangeL 0 a.toNat) := by
  show (if rngOk a then some (rangeL 0 a.toNat) else none) = _
  rw [if_pos r1]
section
variable {rows : List DRow} {k : Nat}
theorem run_crossings {w p t l c f pl cc fo fh : Nat} {ps : List Pt} (T : Trk rows w p t l c) (hp : At rows pl ⟨1, 4, bPlaces⟩) (hc : At rows cc ⟨3, 3, bCrossed⟩) (ho : At rows fo ⟨3, 4, bIsOn⟩) (hh : At rows fh ⟨4, 8, bCommon cc fo⟩) (hf : At rows f ⟨1, 5, bCrossings l pl fh⟩) (h : okT ps = true) :
    runL (PTof rows) (k + 5) f [trD ps] = .ok true (.lst ((crossL (ps.map (·.2))).map plD)) := by
  rw [runL_at hf rfl]
  have lk := run_look (k := k) T h
  have pc := run_places (k := k + 3) (ps := ps) hp (okT_len h).2
  have e0 : (ps.map fun q : Pt => plD q.2) = (ps.map (·.2)).map plD := by rw [List.map_map]; rfl
  rw [e0] at pc
  have hbd : ∀ q ∈ ps.map (·.2), smP q := fun q hq => by
    obtain ⟨z, hz, rfl⟩ := List.mem_map.mp hq
    have := okT_pt h hz
    unfold smP
    omega
  have hl1 : 1 ≤ (ps.map (·.2)).length := by rw [List.length_map]; exact (okT_len h).1
  have hl : (ps.map (·.2)).length ≤ 12 := by rw [List.length_map]; exact (okT_len h).2
  generalize ps.map (·.2) = L at *
  have hg : ∀ j, j < L.length → smP (L.getD j (0, 0)) := fun j hj => hbd _ (by rw [List.getD_eq_getElem?_getD]; simp [hj])
  have lm : (L.map plD).length = L.length := List.length_map ..
  obtain ⟨n, hn⟩ : ∃ n, n = L.length - 1 := ⟨_, rfl⟩
  have inner : ∀ (i : Nat) (acc : List P2) (s4 : Slot), i < n → acc.length ≤ n * i → ∃ s4', forGo (.nm 4) (evSs (runL (PTof rows) (k + 4)) (lCr1 fh)) (rangeL ((i : Int) + 2) (n - (i + 2))) [.sh (trD ps), .ow (.lst (L.map plD)), .ow (.lst (acc.map plD)), .sh (.int i), s4] =
      .ok .nx [.sh (trD ps), .ow (.lst (L.map plD)), .ow (.lst ((acc ++ rowC (fC L) n i (n - (i + 2))).map plD)), .sh (.int i), s4'] := by
    intro i acc s4 hi ha
    obtain ⟨st', f1, s4', rfl⟩ := forGo_range (tg := .nm 4) (b := evSs (runL (PTof rows) (k + 4)) (lCr1 fh)) (I := fun m st => ∃ s4, st = [.sh (trD ps), .ow (.lst (L.map plD)), .ow (.lst ((acc ++ rowC (fC L) n i m).map plD)), .sh (.int i), s4]) ((i : Int) + 2) (n - (i + 2)) 0
      [.sh (trD ps), .ow (.lst (L.map plD)), .ow (.lst (acc.map plD)), .sh (.int i), s4] (fun j st _ hj hI => by
        obtain ⟨s4, rfl⟩ := hI
        have i1 := ixD_at (L := L) (j := i) (i := (i : Int)) rfl (by omega)
        have i2 := ixD_at (L := L) (j := i + 1) (i := (i : Int) + 1) (by omega) (by omega)
        have i3 := ixD_at (L := L) (j := i + 2 + j) (i := (i : Int) + 2 + (j : Int)) (by omega) (by omega)
        have i4 := ixD_at (L := L) (j := i + 2 + j + 1) (i := (i : Int) + 2 + (j : Int) + 1) (by omega) (by omega)
        have r1 := run_common (k := k + 2) hc ho hh (L.getD i (0, 0)) (L.getD (i + 1) (0, 0)) (L.getD (i + 2 + j) (0, 0)) (L.getD (i + 2 + j + 1) (0, 0)) (hg _ (by omega)) (hg _ (by omega)) (hg _ (by omega)) (hg _ (by omega))
        have ef : hcB (L.getD i (0, 0)) (L.getD (i + 1) (0, 0)) (L.getD (i + 2 + j) (0, 0)) (L.getD (i + 2 + j + 1) (0, 0)) = fC L i (i + 2 + j) := rfl
        rw [ef] at r1
        have lr := rowC_len (fC L) n i j
        have nn : n * i ≤ 144 := Nat.le_trans (Nat.mul_le_mul (show n ≤ 12 by omega) (show i ≤ 12 by omega)) (by decide)
        have sz : ((acc ++ rowC (fC L) n i j).map plD).length < SZ := by rw [List.length_map, List.length_append]; exact Nat.lt_of_le_of_lt (show _ ≤ 160 by omega) (by decide)
        have es := rowC_succ (fC L) n i j
        refine ⟨[.sh (trD ps), .ow (.lst (L.map plD)), .ow (.lst ((acc ++ rowC (fC L) n i j).map plD)), .sh (.int i), .sh (.int ((i : Int) + 2 + (j : Int)))], [.sh (trD ps), .ow (.lst (L.map plD)), .ow (.lst ((acc ++ rowC (fC L) n i (j + 1)).map plD)), .sh (.int i), .sh (.int ((i : Int) + 2 + (j : Int)))], by simp, ?_, _, rfl⟩
        rw [es, ← List.append_assoc, List.map_append (l₁ := acc ++ rowC (fC L) n i j)]
        generalize (acc ++ rowC (fC L) n i j).map plD = Ac at *
        generalize L.getD i (0, 0) = g1 at *
        generalize L.getD (i + 1) (0, 0) = g2 at *
        generalize L.getD (i + 2 + j) (0, 0) = g3 at *
        generalize L.getD (i + 2 + j + 1) (0, 0) = g4 at *
        generalize L.map plD = M at *
        simp only [ixD_lst] at i1 i2 i3 i4
        have ep : plD ((i : Int), ((i + 2 + j : Nat) : Int)) = .tup [.int i, .int ((i : Int) + 2 + (j : Int))] := by simp [plD]
        cases hb : fC L i (i + 2 + j)
        · rw [hb] at r1
          simp [lCr1, i1, i2, i3, i4, r1]
        · rw [hb] at r1
          simp [lCr1, i1, i2, i3, i4, r1, sz, ep, -Int.natCast_add]) ⟨s4, by simp [rowC]⟩
    rw [Nat.zero_add] at f1
    exact ⟨s4', by rw [rangeL_eq]; exact f1⟩
  obtain ⟨st', f1, s3, s4, rfl⟩ := forGo_range (tg := .nm 3) (b := evSs (runL (PTof rows) (k + 4)) (lCr2 fh)) (I := fun i st => ∃ s3 s4, st = [.sh (trD ps), .ow (.lst (L.map plD)), .ow (.lst ((pairsC (fC L) n i).map plD)), s3, s4]) 0 n 0
    [.sh (trD ps), .ow (.lst (L.map plD)), .ow (.lst []), .no, .no] (fun i st _ hi hI => by
      obtain ⟨s3, s4, rfl⟩ := hI
      obtain ⟨s4', g⟩ := inner i (pairsC (fC L) n i) s4 (by omega) (pairsC_len _ _ _)
      have r1 : rngOk ((i : Int) + 2) := rngOk_of (by omega) (by omega)
      have r2 : rngOk ((L.length : Int) - 1) := rngOk_of (by omega) (by omega)
      have it := it2 ((i : Int) + 2) ((L.length : Int) - 1) r1 r2
      rw [show (((L.length : Int) - 1) - ((i : Int) + 2)).toNat = n - (i + 2) by omega] at it
      refine ⟨[.sh (trD ps), .ow (.lst (L.map plD)), .ow (.lst ((pairsC (fC L) n i).map plD)), .sh (.int (0 + (i : Int))), s4], [.sh (trD ps), .ow (.lst (L.map plD)), .ow (.lst ((pairsC (fC L) n (i + 1)).map plD)), .sh (.int i), s4'], by simp, ?_, _, _, rfl⟩
      rw [pairsC_succ]
      rw [Int.zero_add]
      generalize hR : rangeL ((i : Int) + 2) (n - (i + 2)) = R at *
      generalize (pairsC (fC L) n i ++ rowC (fC L) n i (n - (i + 2))).map plD = A2 at *
      generalize (pairsC (fC L) n i).map plD = A1 at *
      generalize L.map plD = M at *
      generalize hib : lCr1 fh = ib at *
      have hev : evA (runL (PTof rows) (k + 4)) (.cons (.bin .add (.v 3) (.c (.int 2))) (.cons (.bin .sub (.bi .len (.cons (.v 1) .nil)) (.c (.int 1))) .nil)) [.sh (trD ps), .ow (.lst M), .ow (.lst A1), .sh (.int (i : Int)), s4] = .ok [.int ((i : Int) + 2), .int ((L.length : Int) - 1)] [.sh (trD ps), .ow (.lst M), .ow (.lst A1), .sh (.int (i : Int)), s4] := by simp [lm]
      unfold lCr2
      rw [hib, evSs_cons, evS_for_of hev it g]
      simp only [th_ok', evSs_nil]) ⟨_, _, rfl⟩
  rw [Nat.zero_add, ← rangeL_eq] at f1
  have r2 : rngOk ((L.length : Int) - 1) := rngOk_of (by omega) (by omega)
  have it := it1 ((L.length : Int) - 1) r2
  rw [show ((L.length : Int) - 1).toNat = n by omega] at it
  have eb : bCrossings l pl fh = (.cons (.ex (.call l (.cons (.v 0) .nil)))
    (.cons (.asg (.nm 1) (.call pl (.cons (.v 0) .nil)))
    (.cons (.asg (.nm 2) (.lst .nil))
    (.cons (.for_ (.nm 3) .range (.cons (.bin .sub (.bi .len (.cons (.v 1) .nil)) (.c (.int 1))) .nil) (lCr2 fh))
    (.cons (.ret (.v 2))
    .nil))))) := rfl
  rw [eb]
  have er : crossL L = pairsC (fC L) n n := by rw [hn]; rfl
  rw [er]
  generalize lCr2 fh = ob at *
  generalize rangeL 0 n = R at *
  generalize (pairsC (fC L) n n).map plD = A at *
  generalize L.map plD = M at *
  simp [lk, pc, lm, it, f1, List.replicate]
end
end PD
set_option maxHeartbeats 4000000
set_option maxRecDepth 10000
namespace PD
/-! F34: crossings, turned, backwards, of few points. -/
theorem okN_pls {l : List P2} : okN 60 (.lst (l.map plD)) = true := by
  simp only [okN, List.all_map, List.all_eq_true]
  intro b _
  simp [plD, okN, okN_int]
theorem pairsI_pl : ∀ l : List P2, pairsI (l.map plD) = some l
  | [] => rfl
  | a :: r => by
    rw [List.map_cons]
    simp only [pairsI, pairsI_pl r]
    rfl
theorem sortD_pl {l : List P2} (h : l.length ≤ 63) : sortD (l.map plD) = some ((l.mergeSort pLe).map plD) := by
  suffices z : sortD2 (l.map plD) = some ((l.mergeSort pLe).map plD) by
    unfold sortD
    rw [z]
  unfold sortD2
  rw [if_neg (by rw [List.length_map]; omega)]
  cases l with
  | nil => simp [intsD]
  | cons a r =>
    have e : intsD ((a :: r).map plD) = none := rfl
    rw [e, pairsI_pl]
    rfl
@[simp] theorem biD_sorted : biD .sorted = sortedB := rfl
theorem sortedB_pl {l : List P2} (h : l.length ≤ 63) : sortedB [.lst (l.map plD)] = some (true, .lst ((l.mergeSort pLe).map plD)) := by
  simp only [sortedB, sortD_pl h, Option.map_some]
theorem pairsC_len2 (f : Nat → Nat → Bool) (n : Nat) : ∀ k, (pairsC f n k).length ≤ ((List.range k).map fun i => n - (i + 2)).sum
  | 0 => by simp [pairsC]
  | k + 1 => by
    rw [pairsC_succ, List.length_append, List.range_succ, List.map_append, List.sum_append]
    have := pairsC_len2 f n k
    have := rowC_len f n k (n - (k + 2))
    simp
    omega
theorem tri_b : ∀ n, n < 12 → ((List.range n).map fun i => n - (i + 2)).sum ≤ 45 := by decide
theorem cross_len {L : List P2} (h : L.length ≤ 12) : (crossL L).length ≤ 45 := by
  by_cases h0 : L.length = 0
  · unfold crossL
    rw [h0]
    simp [pairsC]
  · exact Nat.le_trans (pairsC_len2 _ _ _) (tri_b (L.length - 1) (by omega))
theorem cross_few {L : List P2} (h : L.length ≤ 3) : crossL L = [] := by
  unfold crossL pairsC
  rw [List.flatMap_eq_nil_iff]
  intro i _
  unfold rowC
  rw [show L.length - 1 - (i + 2) = 0 by omega]
  rfl
theorem getD_map {L : List P2} {h : P2 → P2} {j : Nat} (hj : j < L.length) : (L.map h).getD j (0, 0) = h (L.getD j (0, 0)) := by
  rw [List.getD_eq_getElem?_getD, List.getD_eq_getElem?_getD, List.getElem?_map]
  simp [hj]
theorem cross_map {L : List P2} (h : P2 → P2) (e : ∀ a b c d, hcB (h a) (h b) (h c) (h d) = hcB a b c d) : crossL (L.map h) = crossL L := by
  unfold crossL
  rw [List.length_map]
  refine pairsC_congr fun i j hi hj => ?_
  unfold fC
  rw [getD_map (by omega), getD_map (by omega), getD_map (by omega), getD_map (by omega), e]
theorem getD_rev {L : List P2} {j : Nat} (hj : j < L.length) : L.reverse.getD j (0, 0) = L.getD (L.length - 1 - j) (0, 0) := by
  rw [List.getD_eq_getElem?_getD, List.getD_eq_getElem?_getD, List.getElem?_reverse hj]
theorem fC_rev {L : List P2} {i j : Nat} (h1 : i + 2 ≤ j) (h2 : j < L.length - 1) : fC L.reverse i j = fC L (L.length - 1 - 1 - j) (L.length - 1 - 1 - i) := by
  unfold fC
  rw [getD_rev (by omega), getD_rev (by omega), getD_rev (by omega), getD_rev (by omega)]
  rw [show L.length - 1 - (i + 1) = L.length - 1 - 1 - i by omega, show L.length - 1 - (j + 1) = L.length - 1 - 1 - j by omega, show L.length - 1 - 1 - j + 1 = L.length - 1 - j by omega, show L.length - 1 - 1 - i + 1 = L.length - 1 - i by omega]
  rw [hcB_rev, hcB_swap]
def flipP (w : Int) (q : P2) : P2 := (w - q.2, w - q.1)
theorem cross_back (L : List P2) : crossL L.reverse = ((crossL L).map (flipP ((L.length : Int) - 2))).mergeSort pLe := by
  have srt := fun (M : List P2) => pairsC_sorted (fC M) (M.length - 1) (M.length - 1)
  have nd : ∀ M : List P2, (crossL M).Nodup := fun M => (srt M).imp fun {a b} h e => by subst e; omega
  refine sortP_uniq ?_ ?_
  · refine (List.perm_ext_iff_of_nodup (nd _) ?_).mpr fun q => ?_
    · rw [List.nodup_iff_pairwise_ne, List.pairwise_map]
      exact (nd L).imp fun {a b} h e => h (by
        unfold flipP at e
        rw [Prod.ext_iff] at e ⊢
        dsimp only at e
        omega)
    · have e0 : crossL L.reverse = pairsC (fC L.reverse) (L.length - 1) (L.length - 1) := by unfold crossL; rw [List.length_reverse]
      rw [e0, List.mem_map]
      constructor
      · intro h
        obtain ⟨i, j, rfl, h1, h2, h3, h4⟩ := mem_pairsC.mp h
        rw [fC_rev h2 h3] at h4
        refine ⟨((L.length - 1 - 1 - j : Nat), (L.length - 1 - 1 - i : Nat)), mem_pairsC.mpr ⟨_, _, rfl, by omega, by omega, by omega, h4⟩, ?_⟩
        unfold flipP
        rw [Prod.ext_iff]
        dsimp only
        omega
      · rintro ⟨q', hq', rfl⟩
        obtain ⟨i, j, rfl, h1, h2, h3, h4⟩ := mem_pairsC.mp hq'
        refine mem_pairsC.mpr ⟨L.length - 1 - 1 - j, L.length - 1 - 1 - i, ?_, by omega, by omega, by omega, ?_⟩
        · unfold flipP
          rw [Prod.ext_iff]
          dsimp only
          omega
        · rw [fC_rev (by omega) (by omega), show L.length - 1 - 1 - (L.length - 1 - 1 - i) = i by omega, show L.length - 1 - 1 - (L.length - 1 - 1 - j) = j by omega]
          exact h4
  · exact (srt L.reverse).imp fun {a b} h => pLe_iff.mpr (by omega)
end PD
set_option maxHeartbeats 4000000
set_option maxRecDepth 10000
namespace PD
/-! F35: hulls. -/
/-- box, ⟨1, 4, _⟩ -/
def bBox (flk : Nat) : Ss :=
    (.cons (.ex (.call flk (.cons (.v 0) .nil)))
    (.cons (.asg (.nm 1) (.lc (.lc (.ix (.v 3) (.v 2)) (.nm 3) .seq (.cons (.v 0) .nil) .nil [3]) (.nm 2) .seq (.cons (.tup (.cons (.c (.int 1)) (.cons (.c (.int 2)) .nil))) .nil) .nil [2]))
    (.cons (.ret (.tup (.cons (.bi .min (.cons (.ix (.v 1) (.c (.int 0))) .nil)) (.cons (.bi .min (.cons (.ix (.v 1) (.c (.int 1))) .nil)) (.cons (.bi .max (.cons (.ix (.v 1) (.c (.int 0))) .nil)) (.cons (.bi .max (.cons (.ix (.v 1) (.c (.int 1))) .nil)) .nil))))))
    .nil)))
/-- half_hull, ⟨1, 3, _⟩ -/
def bHalf (f_crossed : Nat) : Ss :=
    (.cons (.asg (.nm 1) (.lst .nil))
    (.cons (.for_ (.nm 2) .seq (.cons (.v 0) .nil) (.cons (.whl (.and (.cmp .gt (.bi .len (.cons (.v 1) .nil)) (.c (.int 1))) (.cmp .le (.call f_crossed (.cons (.ix (.v 1) (.neg (.c (.int 2)))) (.cons (.ix (.v 1) (.neg (.c (.int 1)))) (.cons (.v 2) .nil)))) (.c (.int 0)))) (.cons (.ex (.pop 1))
    .nil))
    (.cons (.app 1 (.v 2))
    .nil)))
    (.cons (.ret (.v 1))
    .nil)))
/-- hull, ⟨1, 2, _⟩ -/
def bHull (flk f_places_of f_half_hull : Nat) : Ss :=
    (.cons (.ex (.call flk (.cons (.v 0) .nil)))
    (.cons (.asg (.nm 1) (.bi .sortedSet (.cons (.call f_places_of (.cons (.v 0) .nil)) .nil)))
    (.cons (.iff (.cmp .eq (.bi .len (.cons (.v 1) .nil)) (.c (.int 1))) (.cons (.ret (.v 1))
    .nil) .nil)
    (.cons (.ret (.bin .add (.slT (.call f_half_hull (.cons (.v 1) .nil)) (.neg (.c (.int 1)))) (.slT (.call f_half_hull (.cons (.rev (.v 1)) .nil)) (.neg (.c (.int 1))))))
    .nil))))
/-- the stack, its top ahead -/
def shrink (p : P2) : List P2 → List P2
  | b :: a :: r => if cr3 a b p ≤ 0 then shrink p (a :: r) else b :: a :: r
  | l => l
def halfR (L : List P2) : List P2 := L.foldl (fun st p => p :: shrink p st) []
theorem shrink_mem {p : P2} : ∀ {l : List P2} {x : P2}, x ∈ shrink p l → x ∈ l
  | [], x, h => by simp [shrink] at h
  | [a], x, h => by simpa [shrink] using h
  | b :: a :: r, x, h => by
    unfold shrink at h
    split at h
    · exact List.mem_cons_of_mem _ (shrink_mem h)
    · exact h
theorem shrink_len {p : P2} : ∀ (l : List P2), (shrink p l).length ≤ l.length
  | [] => by simp [shrink]
  | [a] => by simp [shrink]
  | b :: a :: r => by
    unfold shrink
    split
    · exact Nat.le_trans (shrink_len (a :: r)) (by simp)
    · exact Nat.le_refl _
theorem halfR_snoc (L : List P2) (p : P2) : halfR (L ++ [p]) = p :: shrink p (halfR L) := by
  unfold halfR
  rw [List.foldl_append]
  rfl
theorem snoc_ind {α : Type} {C : List α → Prop} (h0 : C []) (h1 : ∀ L p, C L → C (L ++ [p])) : ∀ L, C L := by
  intro L
  have : ∀ n (L : List α), L.length = n → C L := by
    intro n
    induction n with
    | zero => intro L h; rw [List.length_eq_zero_iff.mp h]; exact h0
    | succ n ih =>
      intro L h
      rcases List.eq_nil_or_concat L with rfl | ⟨M, q, rfl⟩
      · exact h0
      · rw [List.concat_eq_append] at *
        exact h1 M q (ih M (by simpa using h))
  exact this _ L rfl
theorem halfR_mem : ∀ (L : List P2) (x : P2), x ∈ halfR L → x ∈ L := by
  refine snoc_ind (fun x h => by simp [halfR] at h) fun L p ih x h => ?_
  rw [halfR_snoc] at h
  rcases List.mem_cons.mp h with rfl | h
  · simp
  · exact List.mem_append.mpr (.inl (ih x (shrink_mem h)))
theorem halfR_len : ∀ L : List P2, (halfR L).length ≤ L.length := by
  refine snoc_ind (by simp [halfR]) fun L p ih => ?_
  rw [halfR_snoc, List.length_cons, List.length_append]
  have := shrink_len (p := p) (halfR L)
  simp
  omega
/-! the walk -/
theorem atD_m2 {xs : List D} {a b : D} : atD (xs ++ [a, b]) (-2) = some a := by
  unfold atD ixAt
  rw [if_neg (by decide), if_pos (by simp; omega)]
  show (xs ++ [a, b])[((-2 : Int) + ((xs ++ [a, b]).length : Int)).toNat]? = some a
  rw [show ((-2 : Int) + ((xs ++ [a, b]).length : Int)).toNat = xs.length by simp; omega]
  simp
theorem atD_m1 {xs : List D} {a : D} : atD (xs ++ [a]) (-1) = some a := atD_last (by simp)
@[simp] theorem popD_lst {xs : List D} {a : D} : popD (.lst (xs ++ [a])) = some (a, .lst xs) := by simp [popD]
def cHalf (fc : Nat) : E := .and (.cmp .gt (.bi .len (.cons (.v 1) .nil)) (.c (.int 1))) (.cmp .le (.call fc (.cons (.ix (.v 1) (.neg (.c (.int 2)))) (.cons (.ix (.v 1) (.neg (.c (.int 1)))) (.cons (.v 2) .nil)))) (.c (.int 0)))
def lHalf : Ss := .cons (.ex (.pop 1)) .nil
section
variable {rows : List DRow} {k : Nat}
theorem half_while {fc : Nat} (hc : At rows fc ⟨3, 3, bCrossed⟩) {p : P2} (hp : smP p) (s0 : Slot) : ∀ (l : List P2), (∀ x ∈ l, smP x) → ∃ n, whileF (evE (runL (PTof rows) (k + 1)) (cHalf fc)) (evSs (runL (PTof rows) (k + 1)) lHalf) n [s0, .ow (.lst (l.reverse.map plD)), .sh (plD p)] = .ok .nx [s0, .ow (.lst ((shrink p l).reverse.map plD)), .sh (plD p)]
  | [], _ => ⟨1, by simp [whileF, cHalf, shrink]⟩
  | [a], _ => ⟨1, by simp [whileF, cHalf, shrink]⟩
  | b :: a :: r, h => by
    have c1 := run_crossed (k := k) hc a b p (h a (by simp)) (h b (by simp)) hp
    have e1 : (b :: a :: r).reverse.map plD = r.reverse.map plD ++ [plD a, plD b] := by simp
    have e2 : (a :: r).reverse.map plD = r.reverse.map plD ++ [plD a] := by simp
    have x2 := atD_m2 (xs := r.reverse.map plD) (a := plD a) (b := plD b)
    have x1 := atD_m1 (xs := r.reverse.map plD ++ [plD a]) (a := plD b)
    have pp := popD_lst (xs := r.reverse.map plD ++ [plD a]) (a := plD b)
    rw [List.append_assoc] at x1 pp
    have ln : ((r.reverse.map plD ++ [plD a, plD b]).length : Int) > 1 := by simp; omega
    by_cases hk : cr3 a b p ≤ 0
    · obtain ⟨n, hn⟩ := half_while hc hp s0 (a :: r) (fun x hx => h x (List.mem_cons_of_mem _ hx))
      have es : shrink p (b :: a :: r) = shrink p (a :: r) := by rw [shrink]; rw [if_pos hk]
      refine ⟨n + 1, ?_⟩
      rw [es, e1]
      rw [e2] at hn
      have hk' := decide_eq_true hk
      generalize r.reverse.map plD = R at *
      have hcond : evE (runL (PTof rows) (k + 1)) (cHalf fc) [s0, .ow (.lst (R ++ [plD a, plD b])), .sh (plD p)] = .ok (false, .bl true) [s0, .ow (.lst (R ++ [plD a, plD b])), .sh (plD p)] := by
        simp only [List.cons_append, List.nil_append] at x1
        generalize hM : R ++ [plD a, plD b] = M at *
        have ln' : (1 : Int) < (M.length : Int) := ln
        simp [cHalf, x1, x2, c1, hk]
        omega
      have hbody : evSs (runL (PTof rows) (k + 1)) lHalf [s0, .ow (.lst (R ++ [plD a, plD b])), .sh (plD p)] = .ok .nx [s0, .ow (.lst (R ++ [plD a])), .sh (plD p)] := by
        simp only [List.cons_append, List.nil_append] at pp
        simp [lHalf, pp]
      rw [whileF, hcond, th_ok', br_bl, if_pos rfl, hbody, th_ok']
      exact hn
    · have es : shrink p (b :: a :: r) = b :: a :: r := by rw [shrink]; rw [if_neg hk]
      refine ⟨1, ?_⟩
      rw [es, e1]
      generalize r.reverse.map plD = R at *
      have hcond : evE (runL (PTof rows) (k + 1)) (cHalf fc) [s0, .ow (.lst (R ++ [plD a, plD b])), .sh (plD p)] = .ok (false, .bl false) [s0, .ow (.lst (R ++ [plD a, plD b])), .sh (plD p)] := by
        simp only [List.cons_append, List.nil_append] at x1
        generalize hM : R ++ [plD a, plD b] = M at *
        have ln' : (1 : Int) < (M.length : Int) := ln
        simp [cHalf, x1, x2, c1, hk]
      rw [whileF, hcond, th_ok', br_bl]
      rfl
theorem run_half {f fc : Nat} (hc : At rows fc ⟨3, 3, bCrossed⟩) (hf : At rows f ⟨1, 3, bHalf fc⟩) {L : List P2} (h : ∀ x ∈ L, smP x) (hl : L.length ≤ 100) : runL (PTof rows) (k + 2) f [.lst (L.map plD)] = .ok true (.lst ((halfR L).reverse.map plD)) := by
  rw [runL_at hf rfl]
  let bd : Ss := .cons (.whl (cHalf fc) lHalf) (.cons (.app 1 (.v 2)) .nil)
  obtain ⟨st', f1, s2, rfl⟩ := forGo_ix (tg := .nm 2) (b := evSs (runL (PTof rows) (k + 1)) bd) (enc := plD) (I := fun j st => ∃ s2, st = [.sh (.lst (L.map plD)), .ow (.lst ((halfR (L.take j)).reverse.map plD)), s2]) L 0 [.sh (.lst (L.map plD)), .ow (.lst []), .no]
    (fun j p st hj hI => by
      rw [Nat.zero_add] at hI ⊢
      obtain ⟨s2, rfl⟩ := hI
      have et : L.take (j + 1) = L.take j ++ [p] := by rw [List.take_add_one, hj]; rfl
      have jl : j < L.length := (List.getElem?_eq_some_iff.mp hj).1
      obtain ⟨n, hn⟩ := half_while (k := k) hc (h p (List.mem_of_getElem? hj)) (.sh (.lst (L.map plD))) (halfR (L.take j)) (fun x hx => h x (List.mem_of_mem_take (halfR_mem _ x hx)))
      have w := whileD_eq hn (by exact fun z => nomatch z)
      have sz : ((shrink p (halfR (L.take j))).reverse.map plD).length < SZ := by
        have a := shrink_len (p := p) (halfR (L.take j))
        have b := halfR_len (L.take j)
        rw [List.length_take] at b
        rw [List.length_map, List.length_reverse]
        exact Nat.lt_of_le_of_lt (show _ ≤ 100 by omega) (by decide)
      refine ⟨[.sh (.lst (L.map plD)), .ow (.lst ((halfR (L.take j)).reverse.map plD)), .sh (plD p)], [.sh (.lst (L.map plD)), .ow (.lst ((halfR (L.take (j + 1))).reverse.map plD)), .sh (plD p)], by simp, ?_, _, rfl⟩
      rw [et, halfR_snoc, List.reverse_cons, List.map_append]
      generalize (shrink p (halfR (L.take j))).reverse.map plD = A2 at *
      generalize (halfR (L.take j)).reverse.map plD = A1 at *
      show evSs _ (.cons (.whl (cHalf fc) lHalf) (.cons (.app 1 (.v 2)) .nil)) _ = _
      rw [evSs_cons, evS_whl, w]
      simp [sz]) ⟨_, rfl⟩
  rw [Nat.zero_add, List.take_length] at f1
  have eb : bHalf fc = (.cons (.asg (.nm 1) (.lst .nil)) (.cons (.for_ (.nm 2) .seq (.cons (.v 0) .nil) bd) (.cons (.ret (.v 1)) .nil))) := rfl
  rw [eb]
  have it : iterD .seq [.lst (L.map plD)] = some (L.map plD) := rfl
  obtain ⟨b', hb'⟩ : ∃ b, b = bd := ⟨_, rfl⟩
  rw [← hb'] at f1 ⊢
  generalize (halfR L).reverse.map plD = R at *
  generalize L.map plD = M at *
  simp [it, f1, List.replicate]
end
end PD
set_option maxHeartbeats 4000000
set_option maxRecDepth 10000
namespace PD
/-! F36: how hulls are made, plainly. -/
def lexLt (a b : P2) : Prop := a.1 < b.1 ∨ (a.1 = b.1 ∧ a.2 < b.2)
theorem lexLt_trans {a b c : P2} (h : lexLt a b) (h' : lexLt b c) : lexLt a c := by unfold lexLt at *; omega
def dt (u v : P2) : Int := u.1 * v.2 - u.2 * v.1
def lexPos (u : P2) : Prop := 0 < u.1 ∨ (u.1 = 0 ∧ 0 < u.2)
/-- to the left, and on to the left -/
theorem dt_trans {u v w : P2} (hu : lexPos u) (hv : lexPos v) (hw : lexPos w) (h1 : 0 < dt u v) (h2 : 0 < dt v w) : 0 < dt u w := by
  have e : v.1 * dt u w = u.1 * dt v w + w.1 * dt u v := by unfold dt; grind
  unfold lexPos at *
  by_cases hv0 : 0 < v.1
  · have hu0 : 0 < u.1 := by
      rcases hu with h | ⟨h, h'⟩
      · exact h
      · exfalso
        unfold dt at h1
        rw [h, Int.zero_mul] at h1
        have := Int.mul_pos h' hv0
        omega
    have a := Int.mul_pos hu0 h2
    have b : 0 ≤ w.1 * dt u v := Int.mul_nonneg (by omega) (by omega)
    have c : 0 < v.1 * dt u w := by omega
    by_cases p : 0 < dt u w
    · exact p
    · have := Int.mul_nonpos_of_nonneg_of_nonpos (show 0 ≤ v.1 by omega) (show dt u w ≤ 0 by omega); omega
  · exfalso
    have hv1 : v.1 = 0 ∧ 0 < v.2 := by omega
    unfold dt at h2
    rw [hv1.1, Int.zero_mul] at h2
    have : 0 ≤ v.2 * w.1 := Int.mul_nonneg (by omega) (by omega)
    omega
theorem cr_dt (a b c : P2) : cr3 a b c = dt (b.1 - a.1, b.2 - a.2) (c.1 - b.1, c.2 - b.2) := by simp only [cr3, dt]; grind
theorem conv4 {a b c d : P2} (h1 : lexLt a b) (h2 : lexLt b c) (h3 : lexLt c d) (t1 : 0 < cr3 a b c) (t2 : 0 < cr3 b c d) : 0 < cr3 a b d ∧ 0 < cr3 a c d := by
  have tr := dt_trans (u := (b.1 - a.1, b.2 - a.2)) (v := (c.1 - b.1, c.2 - b.2)) (w := (d.1 - c.1, d.2 - c.2)) (by unfold lexPos; unfold lexLt at h1; dsimp only; omega) (by unfold lexPos; unfold lexLt at h2; dsimp only; omega) (by unfold lexPos; unfold lexLt at h3; dsimp only; omega) (by rw [← cr_dt]; exact t1) (by rw [← cr_dt]; exact t2)
  have e1 : cr3 a b d = cr3 a b c + dt (b.1 - a.1, b.2 - a.2) (d.1 - c.1, d.2 - c.2) := by simp only [cr3, dt]; grind
  have e2 : cr3 a c d = cr3 b c d + dt (b.1 - a.1, b.2 - a.2) (d.1 - c.1, d.2 - c.2) := by simp only [cr3, dt]; grind
  omega
/-- all threes of a stack bend to the left -/
def AllT : List P2 → Prop
  | [] => True
  | c :: r => r.Pairwise (fun b a => 0 < cr3 a b c) ∧ AllT r
theorem shrink_suf {p : P2} : ∀ l : List P2, ∃ k, l = k ++ shrink p l
  | [] => ⟨[], by simp [shrink]⟩
  | [a] => ⟨[], by simp [shrink]⟩
  | b :: a :: r => by
    unfold shrink
    split
    · obtain ⟨k, e⟩ := shrink_suf (p := p) (a :: r)
      exact ⟨b :: k, by rw [List.cons_append, ← e]⟩
    · exact ⟨[], rfl⟩
theorem AllT.suf : ∀ {k l : List P2}, AllT (k ++ l) → AllT l
  | [], _, h => h
  | _ :: k, l, h => AllT.suf (k := k) h.2
theorem shrink_top {p : P2} : ∀ (l : List P2) {b a : P2} {r : List P2}, shrink p l = b :: a :: r → 0 < cr3 a b p
  | [], b, a, r, h => by simp [shrink] at h
  | [x], b, a, r, h => by simp [shrink] at h
  | x :: y :: l, b, a, r, h => by
    unfold shrink at h
    split at h
    · exact shrink_top (y :: l) h
    · rename_i n
      cases h
      omega
theorem shrink_ne {p : P2} : ∀ {l : List P2}, l ≠ [] → shrink p l ≠ [] ∧ (shrink p l).getLast? = l.getLast?
  | [], h => absurd rfl h
  | [a], _ => by simp [shrink]
  | b :: a :: r, _ => by
    unfold shrink
    split
    · have := shrink_ne (p := p) (l := a :: r) (by simp)
      exact ⟨this.1, by rw [this.2, List.getLast?_cons_cons]⟩
    · exact ⟨by simp, rfl⟩
/-- what a stack keeps -/
theorem half_inv : ∀ L : List P2, L.Pairwise lexLt → AllT (halfR L) ∧ (halfR L).Pairwise (fun b a => lexLt a b) ∧ (halfR L).head? = L.getLast? ∧ (halfR L).getLast? = L.head? := by
  refine snoc_ind (fun _ => ⟨trivial, .nil, rfl, rfl⟩) fun L p ih h => ?_
  rw [List.pairwise_append] at h
  obtain ⟨i1, i2, i3, i4⟩ := ih h.1
  rw [halfR_snoc]
  obtain ⟨k, ek⟩ := shrink_suf (p := p) (halfR L)
  have lt : ∀ x ∈ shrink p (halfR L), lexLt x p := fun x hx => h.2.2 x (halfR_mem L x (shrink_mem hx)) p (by simp)
  have pw : (shrink p (halfR L)).Pairwise (fun b a => lexLt a b) := by rw [ek] at i2; exact (List.pairwise_append.mp i2).2.1
  have at_ : AllT (shrink p (halfR L)) := by rw [ek] at i1; exact i1.suf
  have top : ∀ b a r, shrink p (halfR L) = b :: a :: r → 0 < cr3 a b p := fun b a r e => shrink_top (p := p) (halfR L) e
  refine ⟨⟨?_, at_⟩, List.pairwise_cons.mpr ⟨lt, pw⟩, by simp, ?_⟩
  · revert lt pw at_ top
    generalize shrink p (halfR L) = st
    intro lt pw at_ top
    match st, lt, pw, at_, top with
    | [], _, _, _, _ => exact .nil
    | [_], _, _, _, _ => simp
    | b :: a :: r, lt, pw, at_, top =>
      have t0 := top b a r rfl
      have pb := List.pairwise_cons.mp pw
      have pa := List.pairwise_cons.mp pb.2
      have lb := lt b List.mem_cons_self
      -- b and what is below
      have hb : ∀ x ∈ a :: r, 0 < cr3 x b p := by
        intro x hx
        rcases List.mem_cons.mp hx with rfl | hx
        · exact t0
        · have t1 : 0 < cr3 x a b := (List.pairwise_cons.mp at_.1).1 x hx
          exact (conv4 (pa.1 x hx) (pb.1 a List.mem_cons_self) lb t1 t0).2
      refine List.pairwise_cons.mpr ⟨hb, ?_⟩
      have at1 : (a :: r).Pairwise (fun y x => 0 < cr3 x y b) := at_.1
      refine (List.Pairwise.and pb.2 at1).imp_of_mem (fun {y x} hy hx hh => ?_)
      exact (conv4 hh.1 (pb.1 y hy) lb hh.2 (hb y hy)).1
  · cases L with
    | nil => simp [halfR, shrink]
    | cons q L =>
      have hne : halfR (q :: L) ≠ [] := fun e => by rw [e] at i4; cases i4
      have s := shrink_ne (p := p) hne
      cases es : shrink p (halfR (q :: L)) with
      | nil => exact absurd es s.1
      | cons b r =>
        rw [List.getLast?_cons_cons, ← es, s.2, i4]
        rfl
/-- turned about -/
def negP (q : P2) : P2 := (-q.1, -q.2)
theorem cr3_neg (a b c : P2) : cr3 (negP a) (negP b) (negP c) = cr3 a b c := by simp only [cr3, negP]; grind
theorem shrink_neg (p : P2) : ∀ l : List P2, shrink (negP p) (l.map negP) = (shrink p l).map negP
  | [] => by simp [shrink]
  | [a] => by simp [shrink]
  | b :: a :: r => by
    have ih := shrink_neg p (a :: r)
    simp only [List.map_cons] at ih ⊢
    unfold shrink
    rw [cr3_neg]
    split
    · exact ih
    · rfl
theorem halfR_neg : ∀ L : List P2, halfR (L.map negP) = (halfR L).map negP := by
  refine snoc_ind rfl fun L p ih => ?_
  rw [List.map_append, List.map_cons, List.map_nil, halfR_snoc, halfR_snoc, ih, shrink_neg]
  rfl
theorem AllT_neg : ∀ {l : List P2}, AllT (l.map negP) → AllT l
  | [], _ => trivial
  | c :: r, h => by
    refine ⟨?_, AllT_neg h.2⟩
    have := h.1
    rw [List.pairwise_map] at this
    exact this.imp fun h => by rw [cr3_neg] at h; exact h
theorem half_inv_rev {L : List P2} (h : L.Pairwise lexLt) : AllT (halfR L.reverse) ∧ (halfR L.reverse).Pairwise (fun b a => lexLt b a) ∧ (halfR L.reverse).head? = L.head? ∧ (halfR L.reverse).getLast? = L.getLast? := by
  have hn : (L.reverse.map negP).Pairwise lexLt := by
    rw [List.pairwise_map, List.pairwise_reverse]
    exact h.imp fun h => by unfold lexLt negP at *; dsimp only; omega
  obtain ⟨a, b, c, d⟩ := half_inv _ hn
  rw [halfR_neg] at a b c d
  have inj : ∀ {o o' : Option P2}, o.map negP = o'.map negP → o = o' := by
    intro o o' e
    cases o <;> cases o' <;> simp [negP] at e ⊢
    exact Prod.ext e.1 e.2
  refine ⟨AllT_neg a, ?_, ?_, ?_⟩
  · rw [List.pairwise_map] at b
    exact b.imp fun h => by unfold lexLt negP at *; dsimp only at h; omega
  · rw [List.head?_map, List.getLast?_map, List.getLast?_reverse] at c
    exact inj c
  · rw [List.getLast?_map, List.head?_map, List.head?_reverse] at d
    exact inj d
def hullL (S : List P2) : List P2 := if S.length = 1 then S else (halfR S).reverse.dropLast ++ (halfR S.reverse).reverse.dropLast
theorem AllT_two {z : P2} : ∀ {r : List P2}, AllT (z :: r) → ∀ {f x : P2}, r.getLast? = some f → x ∈ r → x = f ∨ 0 < cr3 f x z := by
  intro r h f x hf hx
  rcases List.eq_nil_or_concat r with rfl | ⟨M, q, rfl⟩
  · cases hf
  · rw [List.concat_eq_append] at *
    simp at hf
    subst hf
    rcases List.mem_append.mp hx with hx | hx
    · exact .inr ((List.pairwise_append.mp h.1).2.2 x hx q (by simp))
    · simp at hx; exact .inl hx
theorem hull_count {S : List P2} (h : S.Pairwise lexLt) : (hullL S).length ≤ S.length ∧ ∀ x ∈ hullL S, x ∈ S := by
  unfold hullL
  split
  · exact ⟨Nat.le_refl _, fun x hx => hx⟩
  · rename_i n1
    cases S with
    | nil => simp [halfR]
    | cons f S0 =>
      cases S0 with
      | nil => simp at n1
      | cons s1 S1 =>
        obtain ⟨a1, a2, a3, a4⟩ := half_inv _ h
        obtain ⟨b1, b2, b3, b4⟩ := half_inv_rev h
        have m1 := halfR_mem (f :: s1 :: S1)
        have m2 := halfR_mem (f :: s1 :: S1).reverse
        obtain ⟨z, hz⟩ : ∃ z, (f :: s1 :: S1).getLast? = some z := ⟨_, List.getLast?_eq_some_getLast (by simp)⟩
        have fz : lexLt f z := by
          rw [List.getLast?_cons_cons] at hz
          exact (List.pairwise_cons.mp h).1 z (List.mem_of_getLast? hz)
        rw [hz] at a3 b4
        simp only [List.head?_cons] at a4 b3
        obtain ⟨r1, e1⟩ : ∃ r1, halfR (f :: s1 :: S1) = z :: r1 := by
          cases e : halfR (f :: s1 :: S1) with
          | nil => rw [e] at a3; cases a3
          | cons x r => rw [e] at a3; cases a3; exact ⟨r, rfl⟩
        obtain ⟨r2, e2⟩ : ∃ r2, halfR (f :: s1 :: S1).reverse = f :: r2 := by
          cases e : halfR (f :: s1 :: S1).reverse with
          | nil => rw [e] at b3; cases b3
          | cons x r => rw [e] at b3; cases b3; exact ⟨r, rfl⟩
        rw [e1] at a1 a2 a4 m1 ⊢
        rw [e2] at b1 b2 b4 m2 ⊢
        have ne : z ≠ f := fun e => by subst e; unfold lexLt at fz; omega
        have r1l : r1.getLast? = some f := by
          cases r1 with
          | nil => simp at a4; exact absurd a4 ne
          | cons x r => rw [List.getLast?_cons_cons] at a4; exact a4
        have r2l : r2.getLast? = some z := by
          cases r2 with
          | nil => simp at b4; exact absurd b4.symm ne
          | cons x r => rw [List.getLast?_cons_cons] at b4; exact b4
        have d1 : (z :: r1).reverse.dropLast = r1.reverse := by simp
        have d2 : (f :: r2).reverse.dropLast = r2.reverse := by simp
        rw [d1, d2]
        have pa := List.pairwise_cons.mp a2
        have pb := List.pairwise_cons.mp b2
        have irr : ∀ x : P2, ¬ lexLt x x := fun x h => by unfold lexLt at h; omega
        have nd : (r1.reverse ++ r2.reverse).Nodup := by
          rw [List.nodup_append]
          refine ⟨?_, ?_, ?_⟩
          · rw [List.nodup_iff_pairwise_ne, List.pairwise_reverse]
            exact pa.2.imp fun h e => by subst e; exact irr _ h
          · rw [List.nodup_iff_pairwise_ne, List.pairwise_reverse]
            exact pb.2.imp fun h e => by subst e; exact irr _ h
          · intro x hx y hy e
            subst e
            have hx := List.mem_reverse.mp hx
            have hy := List.mem_reverse.mp hy
            rcases AllT_two a1 r1l hx with rfl | h1
            · exact irr _ (pb.1 x hy)
            · rcases AllT_two b1 r2l hy with rfl | h2
              · exact irr _ (pa.1 x hx)
              · have : cr3 z x f = - cr3 f x z := by simp only [cr3]; grind
                omega
        have sub : ∀ x ∈ r1.reverse ++ r2.reverse, x ∈ f :: s1 :: S1 := by
          intro x hx
          rcases List.mem_append.mp hx with hx | hx
          · exact m1 x (List.mem_cons_of_mem _ (List.mem_reverse.mp hx))
          · exact List.mem_reverse.mp (m2 x (List.mem_cons_of_mem _ (List.mem_reverse.mp hx)))
        exact ⟨nd.length_le_of_subset sub, sub⟩
end PD
set_option maxHeartbeats 4000000
set_option maxRecDepth 10000
namespace PD
/-! F37: hull, box, points_within, as they run; slices. -/
theorem slTD_lm1 {xs : List D} : slTD (.lst xs) (.int (-1)) = some (true, .lst xs.dropLast) := by
  rw [slTD_lst]
  congr 3
  unfold cut cutIx
  rw [if_pos (by decide), List.drop_zero, Nat.sub_zero, List.dropLast_eq_take]
  congr 1
  omega
/-- the places in their order, each once -/
def sortU (L : List P2) : List P2 := (dedP L).mergeSort pLe
theorem mem_sortU {L : List P2} {x : P2} : x ∈ sortU L ↔ x ∈ L := by
  unfold sortU
  rw [List.mem_mergeSort, mem_dedP]
theorem sortU_lex (L : List P2) : (sortU L).Pairwise lexLt := by
  have nd : (sortU L).Nodup := (List.mergeSort_perm _ _).nodup_iff.mpr (dedP_nodup L)
  have s : (sortU L).Pairwise fun a b => pLe a b = true := List.pairwise_mergeSort pLe_trans pLe_total _
  rw [List.nodup_iff_pairwise_ne] at nd
  refine (s.and nd).imp fun {a b} h => ?_
  have h1 := pLe_iff.mp h.1
  have h2 := h.2
  unfold lexLt
  have : ¬ (a.1 = b.1 ∧ a.2 = b.2) := fun e => h2 (Prod.ext e.1 e.2)
  omega
theorem dedP_len (L : List P2) : (dedP L).length ≤ L.length := (dedP_nodup L).length_le_of_subset fun x hx => mem_dedP.mp hx
theorem sortU_length (L : List P2) : (sortU L).length = (dedP L).length := List.length_mergeSort _
theorem sortU_len (L : List P2) : (sortU L).length ≤ L.length := by rw [sortU_length]; exact dedP_len L
@[simp] theorem biD_sortedSet : biD .sortedSet = sortedSetB := rfl
theorem sortedSetB_pl {l : List P2} (h : l.length ≤ 63) : sortedSetB [.lst (l.map plD)] = some (true, .lst ((sortU l).map plD)) := by
  have e : sortSetD (l.map plD) = some ((sortU l).map plD) := by
    unfold sortSetD
    rw [if_neg (by rw [List.length_map]; omega), pairsI_pl]
    rfl
  show (sortSetD (l.map plD)).map _ = _
  rw [e]
  rfl
theorem lenSetB_pl {l : List P2} (hl : l ≠ []) (h : l.length ≤ 63) : lenSetB [.lst (l.map plD)] = some (false, .int (dedP l).length) := by
  unfold lenSetB
  cases l with
  | nil => exact absurd rfl hl
  | cons a r =>
    have e : intsD ((a :: r).map plD) = none := rfl
    simp only [e, pairsI_pl]
    rw [if_pos h]
section
variable {rows : List DRow} {k w p t l c : Nat} {ps : List Pt}
theorem smP_of (h : okT ps = true) : ∀ q ∈ ps.map (·.2), smP q := fun q hq => by
  obtain ⟨z, hz, rfl⟩ := List.mem_map.mp hq
  have := okT_pt h hz
  unfold smP
  omega
def hullT (ps : List Pt) : List P2 := hullL (sortU (ps.map (·.2)))
theorem run_hull {f pl fc fh : Nat} (T : Trk rows w p t l c) (hp : At rows pl ⟨1, 4, bPlaces⟩) (hc : At rows fc ⟨3, 3, bCrossed⟩) (hh : At rows fh ⟨1, 3, bHalf fc⟩) (hf : At rows f ⟨1, 2, bHull l pl fh⟩) (h : okT ps = true) :
    runL (PTof rows) (k + 5) f [trD ps] = .ok true (.lst ((hullT ps).map plD)) := by
  rw [runL_at hf rfl]
  have lk := run_look (k := k) T h
  have pc := run_places (k := k + 3) (ps := ps) hp (okT_len h).2
  have e0 : (ps.map fun q : Pt => plD q.2) = (ps.map (·.2)).map plD := by rw [List.map_map]; rfl
  rw [e0] at pc
  have sm := smP_of h
  have hl1 : 1 ≤ (ps.map (·.2)).length := by rw [List.length_map]; exact (okT_len h).1
  have hl : (ps.map (·.2)).length ≤ 12 := by rw [List.length_map]; exact (okT_len h).2
  unfold hullT
  generalize ps.map (·.2) = L at *
  have ss := sortedSetB_pl (l := L) (by omega)
  have smS : ∀ q ∈ sortU L, smP q := fun q hq => sm q (mem_sortU.mp hq)
  have lS := sortU_len L
  generalize sortU L = S at *
  have h1 := run_half (k := k + 2) hc hh smS (by omega)
  have h2 := run_half (k := k + 2) (L := S.reverse) hc hh (fun x hx => smS x (List.mem_reverse.mp hx)) (by rw [List.length_reverse]; omega)
  rw [List.map_reverse] at h2
  have lm : (S.map plD).length = S.length := List.length_map ..
  have eh : (hullL S).map plD = if S.length = 1 then S.map plD else ((halfR S).reverse.map plD).dropLast ++ ((halfR S.reverse).reverse.map plD).dropLast := by
    unfold hullL
    split
    · rfl
    · simp only [List.map_append, List.map_dropLast]
  rw [eh]
  have sz1 : ((halfR S).reverse.map plD).length ≤ 12 := by rw [List.length_map, List.length_reverse]; have := halfR_len S; omega
  have sz2 : ((halfR S.reverse).reverse.map plD).length ≤ 12 := by rw [List.length_map, List.length_reverse]; have := halfR_len S.reverse; rw [List.length_reverse] at this; omega
  generalize (halfR S).reverse.map plD = A1 at *
  generalize (halfR S.reverse).reverse.map plD = A2 at *
  have t1 := slTD_lm1 (xs := A1)
  have t2 := slTD_lm1 (xs := A2)
  have sz : A1.dropLast.length + A2.dropLast.length ≤ SZ := by
    rw [List.length_dropLast, List.length_dropLast]
    exact Nat.le_trans (show _ ≤ 24 by omega) (by decide)
  have sz3 : A1.dropLast.length ≤ 12 := by rw [List.length_dropLast]; omega
  have sz4 : A2.dropLast.length ≤ 12 := by rw [List.length_dropLast]; omega
  generalize A1.dropLast = B1 at *
  generalize A2.dropLast = B2 at *
  generalize hM : S.map plD = M at *
  generalize L.map plD = N at *
  generalize S.length = n at *
  by_cases hn : n = 1
  · subst hn
    simp [bHull, lk, pc, ss, lm, List.replicate]
  · have hn' : ¬ ((n : Int) = 1) := by omega
    simp [bHull, lk, pc, ss, lm, hn, hn', h1, h2, t1, t2, List.replicate, sz]
theorem run_box {f : Nat} (T : Trk rows w p t l c) (hf : At rows f ⟨1, 4, bBox l⟩) (h : okT ps = true) :
    runL (PTof rows) (k + 5) f [trD ps] = .ok false (.tup [.int (minI (ps.map (·.2.1))), .int (minI (ps.map (·.2.2))), .int (maxI (ps.map (·.2.1))), .int (maxI (ps.map (·.2.2)))]) := by
  rw [runL_at hf rfl]
  have lk := run_look (k := k) T h
  have hl := okT_len h
  have szp := sz_12 hl.2
  have m := fun (j : D) (fj : Pt → Int) (hj : ∀ q : Pt, ixD (pD q) j = some (.int (fj q))) (s1 : Slot) => lcGo_map (tg := .nm 3) (own := [3]) (cond := evC (runL (PTof rows) (k + 4)) .nil) (elt := evE (runL (PTof rows) (k + 4)) (.ix (.v 3) (.v 2))) (enc := pD) (f := fun q => .int (fj q))
    (w := [.sh (trD ps), s1, .sh j, .no]) ps []
    fun q _ => ⟨[.sh (trD ps), s1, .sh j, .sh (pD q)], false, false, _, [.sh (trD ps), s1, .sh j, .sh (pD q)], by simp, by rw [evC_nil], by simp [hj], by simp [wipeS]⟩
  have m1 := m (.int 1) (fun q => q.2.1) (fun q => rfl)
  have m2 := m (.int 2) (fun q => q.2.2) (fun q => rfl)
  obtain ⟨a, r, rfl⟩ : ∃ a r, ps = a :: r := by cases ps with | nil => simp at hl | cons a r => exact ⟨a, r, rfl⟩
  have x1 := minB_map (fun q : Pt => q.2.1) a r
  have x2 := minB_map (fun q : Pt => q.2.2) a r
  have x3 := maxB_map (fun q : Pt => q.2.1) a r
  have x4 := maxB_map (fun q : Pt => q.2.2) a r
  simp only [List.nil_append] at m1 m2
  have szx : ((a :: r).map pD).length ≤ SZ := by rw [List.length_map]; exact szp
  have it : iterD .seq [trD (a :: r)] = some ((a :: r).map pD) := rfl
  have it2 : iterD .seq [.tup [.int 1, .int 2]] = some [.int 1, .int 2] := rfl
  have sz2 : (2 : Nat) ≤ SZ := by decide
  generalize ((a :: r).map fun q : Pt => D.int q.2.1) = X at *
  generalize ((a :: r).map fun q : Pt => D.int q.2.2) = Y at *
  generalize minI ((a :: r).map fun q : Pt => q.2.1) = v1 at *
  generalize minI ((a :: r).map fun q : Pt => q.2.2) = v2 at *
  generalize maxI ((a :: r).map fun q : Pt => q.2.1) = v3 at *
  generalize maxI ((a :: r).map fun q : Pt => q.2.2) = v4 at *
  generalize (a :: r).map pD = M at *
  generalize trD (a :: r) = TD at *
  simp [bBox, lk, evE_lc, it, it2, wipeOk, lockAll, wipeS, Res.noExc, unlockAll, backS, lcGo, m1, m2, szx, sz2, x1, x2, x3, x4, List.replicate]
end
end PD
set_option maxHeartbeats 4000000
set_option maxRecDepth 10000
namespace PD
/-! F59: cells. -/
def bCellOf : Ss :=
    (.cons (.ret (.tup (.cons (.bin .fdiv (.ix (.v 0) (.c (.int 0))) (.v 1)) (.cons (.bin .fdiv (.ix (.v 0) (.c (.int 1))) (.v 1)) .nil))))
    .nil)
def bSize (fw cx0 : Nat) : Ss :=
    (.cons (.iff (.not (.call fw (.cons (.v 0) (.cons (.c (.int 1)) (.cons (.g (.int 99) "MOST_SIZE") .nil))))) (.cons (.raise cx0)
    .nil) .nil)
    .nil)
def bCells (flk f_look_size f_cell_of : Nat) : Ss :=
    (.cons (.ex (.call flk (.cons (.v 0) .nil)))
    (.cons (.ex (.call f_look_size (.cons (.v 1) .nil)))
    (.cons (.asg (.nm 2) (.lc (.call f_cell_of (.cons (.slF (.v 3) (.c (.int 1))) (.cons (.v 1) .nil))) (.nm 3) .seq (.cons (.v 0) .nil) .nil [3]))
    (.cons (.ret (.lc (.v 5) (.tup (.cons (.nm 4) (.cons (.nm 5) .nil))) .enum (.cons (.v 2) .nil) (.cons (.or (.cmp .eq (.v 4) (.c (.int 0))) (.cmp .ne (.v 5) (.ix (.v 2) (.bin .sub (.v 4) (.c (.int 1)))))) .nil) [4, 5]))
    .nil))))
def bOften (flk f_look_size f_cell_of : Nat) : Ss :=
    (.cons (.ex (.call flk (.cons (.v 0) .nil)))
    (.cons (.ex (.call f_look_size (.cons (.v 1) .nil)))
    (.cons (.asg (.nm 2) (.lc (.call f_cell_of (.cons (.slF (.v 3) (.c (.int 1))) (.cons (.v 1) .nil))) (.nm 3) .seq (.cons (.v 0) .nil) .nil [3]))
    (.cons (.ret (.lc (.tup (.cons (.v 4) (.cons (.mt .count (.v 2) (.cons (.v 4) .nil)) .nil))) (.nm 4) .seq (.cons (.bi .sortedSet (.cons (.v 2) .nil)) .nil) .nil [4]))
    .nil))))
def bSnap (flk f_look_size fld : Nat) : Ss :=
    (.cons (.ex (.call flk (.cons (.v 0) .nil)))
    (.cons (.ex (.call f_look_size (.cons (.v 1) .nil)))
    (.cons (.ret (.call fld (.cons (.bi .tuple (.cons (.lc (.tup (.cons (.v 2) (.cons (.bin .mul (.bin .fdiv (.v 3) (.v 1)) (.v 1)) (.cons (.bin .mul (.bin .fdiv (.v 4) (.v 1)) (.v 1)) .nil)))) (.tup (.cons (.nm 2) (.cons (.nm 3) (.cons (.nm 4) .nil)))) .seq (.cons (.v 0) .nil) .nil [2, 3, 4]) .nil)) .nil)))
    .nil)))
def cellP (z : Int) (q : P2) : P2 := (q.1 / z, q.2 / z)
/-- the cells of all points -/
def someC (z : Int) (ps : List Pt) : List P2 := ps.map fun q => cellP z q.2
def newAt (L : List P2) (j : Nat) : Bool := decide (j = 0) || !decide (L.getD j (0, 0) = L.getD (j - 1) (0, 0))
def cellsL (L : List P2) : List P2 := ((List.range L.length).filter (newAt L)).map fun j => L.getD j (0, 0)
def oftD (L : List P2) (x : P2) : D := .tup [plD x, .int (L.count x : Nat)]
def snapP (z : Int) (q : Pt) : Pt := (q.1, q.2.1 / z * z, q.2.2 / z * z)
theorem enumD_pl : ∀ (L : List P2) (n : Nat), enumD n (L.map plD) = (List.range L.length).map fun j : Nat => .tup [.int ((n + j : Nat) : Int), plD (L.getD j (0, 0))]
  | [], n => rfl
  | a :: r, n => by
    rw [List.map_cons, List.length_cons, List.range_succ_eq_map, List.map_cons, List.map_map]
    show D.tup [.int (n : Int), plD a] :: enumD (n + 1) (r.map plD) = _
    rw [enumD_pl r (n + 1)]
    congr 1
    apply List.map_congr_left
    intro j _
    show _ = D.tup [.int ((n + (j + 1) : Nat) : Int), plD ((a :: r).getD (j + 1) (0, 0))]
    rw [show n + 1 + j = n + (j + 1) by omega]
    rfl
theorem dEq_pl {p q : P2} : dEq (plD p) (plD q) = decide (p = q) := by
  have := eqD_pl (p := p) (q := q)
  have h : eqD (plD p) (plD q) = if okN 60 (plD p) && okN 60 (plD q) then some (dEq (plD p) (plD q)) else none := rfl
  rw [h, show okN 60 (plD p) = true from rfl, show okN 60 (plD q) = true from rfl] at this
  simpa using this
theorem count_pl (x : P2) : ∀ L : List P2, countD (plD x) (L.map plD) = L.count x
  | [] => rfl
  | a :: r => by
    rw [List.map_cons, countD, count_pl x r, dEq_pl, List.count_cons]
    by_cases h : a = x <;> simp [h] <;> omega
theorem clean_pls (L : List P2) : clean (.lst (L.map plD)) := by
  show List.all _ (okN 59) = true
  rw [List.all_map, List.all_eq_true]
  exact fun _ _ => rfl
theorem mt_count (x : P2) (L : List P2) : mtD .count (.lst (L.map plD)) [plD x] = some (false, .int (L.count x : Nat)) := by
  show (if okN 60 (plD x) && okN 60 (.lst (L.map plD)) then some (false, D.int (countD (plD x) (L.map plD) : Nat)) else none) = _
  rw [show okN 60 (plD x) = true from rfl, show okN 60 (.lst (L.map plD)) = true from clean_pls L, count_pl]
  rfl
theorem slF_ptC (a : Pt) : slFD (pD a) (.int 1) = some (false, plD a.2) := by unfold pD; rw [slFD_tup1]; rfl
section
variable {rows : List DRow} {w p t l c k : Nat} {ps : List Pt}
theorem run_cellOf {f : Nat} (hf : At rows f ⟨2, 2, bCellOf⟩) (q : P2) {z : Int} (hz : 1 ≤ z ∧ z ≤ 99) : runL (PTof rows) (k + 1) f [plD q, .int z] = .ok false (plD (cellP z q)) := by
  rw [runL_at hf rfl]
  have d1 : divOk z := divOk_of (by omega) (by omega)
  simp [bCellOf, plD, cellP, d1]
theorem run_size {f cx : Nat} (hw : At rows w ⟨3, 3, bWhole⟩) (hf : At rows f ⟨1, 1, bSize w cx⟩) {d : D} (hd : clean d) : runL (PTof rows) (k + 2) f [d] = if isWh 1 99 d then .ok false .non else .exc cx := by
  rw [runL_at hf rfl]
  have := run_wholeD (k := k) hw hd 1 99
  cases h : isWh 1 99 d <;> rw [h] at this <;> simp [bSize, this]
theorem run_cells {f fz fc cx : Nat} (T : Trk rows w p t l c) (hz : At rows fz ⟨1, 1, bSize w cx⟩) (hc : At rows fc ⟨2, 2, bCellOf⟩) (hf : At rows f ⟨2, 6, bCells l fz fc⟩) (h : okT ps = true) {z : Int} (hz1 : 1 ≤ z ∧ z ≤ 99) : runL (PTof rows) (k + 5) f [trD ps, .int z] = .ok true (.lst ((cellsL (someC z ps)).map plD)) := by
  rw [runL_at hf rfl]
  have lk := run_look (k := k) T h
  have hn := okT_len h
  have lz := run_size (k := k + 2) T.hw hz (clean_int (i := z))
  rw [show isWh 1 99 (.int z) = true by simp [isWh]; omega, if_pos rfl] at lz
  have m := lcGo_map (tg := .nm 3) (own := [3]) (cond := evC (runL (PTof rows) (k + 4)) .nil) (elt := evE (runL (PTof rows) (k + 4)) (.call fc (.cons (.slF (.v 3) (.c (.int 1))) (.cons (.v 1) .nil)))) (enc := pD) (f := fun q => plD (cellP z q.2)) (w := [.sh (trD ps), .sh (.int z), .no, .no, .no, .no]) ps []
    fun q _ => ⟨[.sh (trD ps), .sh (.int z), .no, .sh (pD q), .no, .no], false, false, _, [.sh (trD ps), .sh (.int z), .no, .sh (pD q), .no, .no], by simp, by rw [evC_nil], by
      have := run_cellOf (k := k + 3) hc q.2 hz1
      simp [slF_ptC, this], by simp [wipeS]⟩
  have E1 := evE_lc_of (FT := runL (PTof rows) (k + 4)) (k := .seq) (es := .cons (.v 0) .nil) (st := [.sh (trD ps), .sh (.int z), .no, .no, .no, .no]) (st1 := [.sh (trD ps), .sh (.int z), .no, .no, .no, .no]) (os := [.val (trD ps)]) (ds := [trD ps]) (by simp) rfl rfl (by
    rw [Bool.and_eq_true]; refine ⟨rfl, decide_eq_true ?_⟩
    rw [List.length_map]; exact sz_12 hn.2) m
  have e1 : (ps.map fun q => plD (cellP z q.2)) = (someC z ps).map plD := by unfold someC; rw [List.map_map]; rfl
  rw [e1] at E1
  have lL : (someC z ps).length = ps.length := by unfold someC; rw [List.length_map]
  generalize someC z ps = L at *
  have m2 := lcGo_filter (tg := .tup (.cons (.nm 4) (.cons (.nm 5) .nil))) (own := [4, 5]) (cond := evC (runL (PTof rows) (k + 4)) (.cons (.or (.cmp .eq (.v 4) (.c (.int 0))) (.cmp .ne (.v 5) (.ix (.v 2) (.bin .sub (.v 4) (.c (.int 1)))))) .nil)) (elt := evE (runL (PTof rows) (k + 4)) (.v 5)) (enc := fun j : Nat => .tup [.int ((0 + j : Nat) : Int), plD (L.getD j (0, 0))]) (f := fun j => plD (L.getD j (0, 0))) (p := newAt L) (w := [.sh (trD ps), .sh (.int z), .lk (.lst (L.map plD)), .no, .no, .no]) (List.range L.length) []
    fun j hj => by
      have hj := List.mem_range.mp hj
      refine ⟨[.sh (trD ps), .sh (.int z), .lk (.lst (L.map plD)), .no, .sh (.int (j : Int)), .sh (plD (L.getD j (0, 0)))], false, false, [.sh (trD ps), .sh (.int z), .lk (.lst (L.map plD)), .no, .sh (.int (j : Int)), .sh (plD (L.getD j (0, 0)))], [.sh (trD ps), .sh (.int z), .lk (.lst (L.map plD)), .no, .sh (.int (j : Int)), .sh (plD (L.getD j (0, 0)))], by simp, ?_, by simp [wipeS], fun _ => ⟨by simp, by simp [wipeS]⟩⟩
      rw [evC_one]
      unfold newAt
      by_cases h0 : j = 0
      · subst h0
        generalize L.map plD = M
        generalize plD (L.getD 0 (0, 0)) = g
        simp
      · have h0' : ¬ (j : Int) = 0 := by omega
        have ix := ixD_at (L := L) (j := j - 1) (i := (j : Int) - 1) (by omega) (by omega)
        have e := eqD_pl (p := L.getD j (0, 0)) (q := L.getD (j - 1) (0, 0))
        generalize L.map plD = M at *
        generalize L.getD j (0, 0) = g1 at *
        generalize L.getD (j - 1) (0, 0) = g2 at *
        simp [-ixD_lst, h0, h0', ix, e]
  have E2 := evE_lc_of (FT := runL (PTof rows) (k + 4)) (k := .enum) (es := .cons (.v 2) .nil) (st := [.sh (trD ps), .sh (.int z), .ow (.lst (L.map plD)), .no, .no, .no]) (st1 := [.sh (trD ps), .sh (.int z), .ow (.lst (L.map plD)), .no, .no, .no]) (os := [.bor 2]) (ds := [.lst (L.map plD)]) (by simp) rfl (by show some (enumD 0 (L.map plD)) = _; rw [enumD_pl]) (by
    rw [Bool.and_eq_true]; refine ⟨rfl, decide_eq_true ?_⟩
    rw [List.length_map, List.length_range, lL]; exact sz_12 hn.2) m2
  have e2 : ((List.range L.length).filter (newAt L)).map (fun j => plD (L.getD j (0, 0))) = (cellsL L).map plD := by unfold cellsL; rw [List.map_map]; rfl
  rw [List.nil_append, e2] at E2
  simp only [lockAll, lockS, unlockS, backS, unlockAll, List.nil_append, List.getElem?_cons_zero, List.getElem?_cons_succ, Option.getD_some, List.set] at E1 E2
  show endOf (evSs (runL (PTof rows) (k + 4)) _ [.sh (trD ps), .sh (.int z), .no, .no, .no, .no]) = _
  unfold bCells
  have R := fun st => evR_e (FT := runL (PTof rows) (k + 4)) (st := st) (e := .lc (.v 5) (.tup (.cons (.nm 4) (.cons (.nm 5) .nil))) .enum (.cons (.v 2) .nil) (.cons (.or (.cmp .eq (.v 4) (.c (.int 0))) (.cmp .ne (.v 5) (.ix (.v 2) (.bin .sub (.v 4) (.c (.int 1)))))) .nil) [4, 5]) (by simp)
  generalize E.lc (.v 5) (.tup (.cons (.nm 4) (.cons (.nm 5) .nil))) .enum (.cons (.v 2) .nil) (.cons (.or (.cmp .eq (.v 4) (.c (.int 0))) (.cmp .ne (.v 5) (.ix (.v 2) (.bin .sub (.v 4) (.c (.int 1)))))) .nil) [4, 5] = C2 at *
  generalize E.lc (.call fc (.cons (.slF (.v 3) (.c (.int 1))) (.cons (.v 1) .nil))) (.nm 3) .seq (.cons (.v 0) .nil) .nil [3] = C1 at *
  generalize (cellsL L).map plD = M2 at *
  generalize L.map plD = M at *
  generalize trD ps = tr at *
  have q1 : evS (runL (PTof rows) (k + 4)) (.ex (.call l (.cons (.v 0) .nil))) [.sh tr, .sh (.int z), .no, .no, .no, .no] = .ok .nx [.sh tr, .sh (.int z), .no, .no, .no, .no] := by simp [lk]
  have q2 : evS (runL (PTof rows) (k + 4)) (.ex (.call fz (.cons (.v 1) .nil))) [.sh tr, .sh (.int z), .no, .no, .no, .no] = .ok .nx [.sh tr, .sh (.int z), .no, .no, .no, .no] := by simp [lz]
  have q3 : evS (runL (PTof rows) (k + 4)) (.asg (.nm 2) C1) [.sh tr, .sh (.int z), .no, .no, .no, .no] = .ok .nx [.sh tr, .sh (.int z), .ow (.lst M), .no, .no, .no] := by simp [E1]
  rw [evSs_cons, q1, th_ok']; dsimp only
  rw [evSs_cons, q2, th_ok']; dsimp only
  rw [evSs_cons, q3, th_ok']; dsimp only
  rw [evSs_cons, evS_ret, R, E2, th_ok', th_ok']
  rfl
end
end PD
set_option maxHeartbeats 4000000
set_option maxRecDepth 10000
namespace PD
/-! F60: how often; snapped. -/
section
variable {rows : List DRow} {w p t l c k : Nat} {ps : List Pt}
theorem run_often {f fz fc cx : Nat} (T : Trk rows w p t l c) (hz : At rows fz ⟨1, 1, bSize w cx⟩) (hc : At rows fc ⟨2, 2, bCellOf⟩) (hf : At rows f ⟨2, 5, bOften l fz fc⟩) (h : okT ps = true) {z : Int} (hz1 : 1 ≤ z ∧ z ≤ 99) : runL (PTof rows) (k + 5) f [trD ps, .int z] = .ok true (.lst ((sortU (someC z ps)).map (oftD (someC z ps)))) := by
  rw [runL_at hf rfl]
  have lk := run_look (k := k) T h
  have hn := okT_len h
  have lz := run_size (k := k + 2) T.hw hz (clean_int (i := z))
  rw [show isWh 1 99 (.int z) = true by simp [isWh]; omega, if_pos rfl] at lz
  have m := lcGo_map (tg := .nm 3) (own := [3]) (cond := evC (runL (PTof rows) (k + 4)) .nil) (elt := evE (runL (PTof rows) (k + 4)) (.call fc (.cons (.slF (.v 3) (.c (.int 1))) (.cons (.v 1) .nil)))) (enc := pD) (f := fun q => plD (cellP z q.2)) (w := [.sh (trD ps), .sh (.int z), .no, .no, .no]) ps []
    fun q _ => ⟨[.sh (trD ps), .sh (.int z), .no, .sh (pD q), .no], false, false, _, [.sh (trD ps), .sh (.int z), .no, .sh (pD q), .no], by simp, by rw [evC_nil], by
      have := run_cellOf (k := k + 3) hc q.2 hz1
      simp [slF_ptC, this], by simp [wipeS]⟩
  have E1 := evE_lc_of (FT := runL (PTof rows) (k + 4)) (k := .seq) (es := .cons (.v 0) .nil) (st := [.sh (trD ps), .sh (.int z), .no, .no, .no]) (st1 := [.sh (trD ps), .sh (.int z), .no, .no, .no]) (os := [.val (trD ps)]) (ds := [trD ps]) (by simp) rfl rfl (by
    rw [Bool.and_eq_true]; refine ⟨rfl, decide_eq_true ?_⟩
    rw [List.length_map]; exact sz_12 hn.2) m
  have e1 : (ps.map fun q => plD (cellP z q.2)) = (someC z ps).map plD := by unfold someC; rw [List.map_map]; rfl
  rw [e1] at E1
  have lL : (someC z ps).length = ps.length := by unfold someC; rw [List.length_map]
  generalize someC z ps = L at *
  have ss := sortedSetB_pl (l := L) (by omega)
  have m2 := lcGo_map (tg := .nm 4) (own := [4]) (cond := evC (runL (PTof rows) (k + 4)) .nil) (elt := evE (runL (PTof rows) (k + 4)) (.tup (.cons (.v 4) (.cons (.mt .count (.v 2) (.cons (.v 4) .nil)) .nil)))) (enc := plD) (f := oftD L) (w := [.sh (trD ps), .sh (.int z), .ow (.lst (L.map plD)), .no, .no]) (sortU L) []
    fun x _ => ⟨[.sh (trD ps), .sh (.int z), .ow (.lst (L.map plD)), .no, .sh (plD x)], false, false, [.sh (trD ps), .sh (.int z), .ow (.lst (L.map plD)), .no, .sh (plD x)], [.sh (trD ps), .sh (.int z), .ow (.lst (L.map plD)), .no, .sh (plD x)], by simp, by rw [evC_nil], by
      have mc := mt_count x L
      unfold oftD
      generalize plD x = X at *
      generalize L.map plD = M at *
      simp [evE_mt, mtOk, isLstO, mc], by simp [wipeS]⟩
  have E2 := evE_lc_of (FT := runL (PTof rows) (k + 4)) (k := .seq) (es := .cons (.bi .sortedSet (.cons (.v 2) .nil)) .nil) (st := [.sh (trD ps), .sh (.int z), .ow (.lst (L.map plD)), .no, .no]) (st1 := [.sh (trD ps), .sh (.int z), .ow (.lst (L.map plD)), .no, .no]) (os := [.val (.lst ((sortU L).map plD))]) (ds := [.lst ((sortU L).map plD)]) (by
    generalize (sortU L).map plD = S at *
    generalize L.map plD = M at *
    simp [ss]) rfl rfl (by
    rw [Bool.and_eq_true]; refine ⟨rfl, decide_eq_true ?_⟩
    rw [List.length_map]; exact Nat.le_trans (sortU_len L) (by rw [lL]; exact sz_12 hn.2)) m2
  rw [List.nil_append] at E2
  simp only [lockAll, lockS, unlockS, backS, unlockAll, List.nil_append, List.getElem?_cons_zero, List.getElem?_cons_succ, Option.getD_some, List.set] at E1 E2
  show endOf (evSs (runL (PTof rows) (k + 4)) _ [.sh (trD ps), .sh (.int z), .no, .no, .no]) = _
  unfold bOften
  have R := fun st => evR_e (FT := runL (PTof rows) (k + 4)) (st := st) (e := .lc (.tup (.cons (.v 4) (.cons (.mt .count (.v 2) (.cons (.v 4) .nil)) .nil))) (.nm 4) .seq (.cons (.bi .sortedSet (.cons (.v 2) .nil)) .nil) .nil [4]) (by simp)
  generalize E.lc (.tup (.cons (.v 4) (.cons (.mt .count (.v 2) (.cons (.v 4) .nil)) .nil))) (.nm 4) .seq (.cons (.bi .sortedSet (.cons (.v 2) .nil)) .nil) .nil [4] = C2 at *
  generalize E.lc (.call fc (.cons (.slF (.v 3) (.c (.int 1))) (.cons (.v 1) .nil))) (.nm 3) .seq (.cons (.v 0) .nil) .nil [3] = C1 at *
  generalize (sortU L).map (oftD L) = M2 at *
  generalize L.map plD = M at *
  generalize trD ps = tr at *
  have q1 : evS (runL (PTof rows) (k + 4)) (.ex (.call l (.cons (.v 0) .nil))) [.sh tr, .sh (.int z), .no, .no, .no] = .ok .nx [.sh tr, .sh (.int z), .no, .no, .no] := by simp [lk]
  have q2 : evS (runL (PTof rows) (k + 4)) (.ex (.call fz (.cons (.v 1) .nil))) [.sh tr, .sh (.int z), .no, .no, .no] = .ok .nx [.sh tr, .sh (.int z), .no, .no, .no] := by simp [lz]
  have q3 : evS (runL (PTof rows) (k + 4)) (.asg (.nm 2) C1) [.sh tr, .sh (.int z), .no, .no, .no] = .ok .nx [.sh tr, .sh (.int z), .ow (.lst M), .no, .no] := by simp [E1]
  rw [evSs_cons, q1, th_ok']; dsimp only
  rw [evSs_cons, q2, th_ok']; dsimp only
  rw [evSs_cons, q3, th_ok']; dsimp only
  rw [evSs_cons, evS_ret, R, E2, th_ok', th_ok']
  rfl
theorem run_snap {f fz fl cx : Nat} (T : Trk rows w p t l c) (hz : At rows fz ⟨1, 1, bSize w cx⟩) (hl : At rows fl ⟨1, 1, bLooked l⟩) (hf : At rows f ⟨2, 5, bSnap l fz fl⟩) (h : okT ps = true) {z : Int} (hz1 : 1 ≤ z ∧ z ≤ 99) (hok : okT (ps.map (snapP z)) = true) : runL (PTof rows) (k + 6) f [trD ps, .int z] = .ok false (trD (ps.map (snapP z))) := by
  rw [runL_at hf rfl]
  have lk := run_look (k := k + 1) T h
  have hn := okT_len h
  have lz := run_size (k := k + 3) T.hw hz (clean_int (i := z))
  rw [show isWh 1 99 (.int z) = true by simp [isWh]; omega, if_pos rfl] at lz
  have ld := run_looked (k := k) T hl hok
  have d1 : divOk z := divOk_of (by omega) (by omega)
  have m := lcGo_map (tg := .tup (.cons (.nm 2) (.cons (.nm 3) (.cons (.nm 4) .nil)))) (own := [2, 3, 4]) (cond := evC (runL (PTof rows) (k + 5)) .nil) (elt := evE (runL (PTof rows) (k + 5)) (.tup (.cons (.v 2) (.cons (.bin .mul (.bin .fdiv (.v 3) (.v 1)) (.v 1)) (.cons (.bin .mul (.bin .fdiv (.v 4) (.v 1)) (.v 1)) .nil))))) (enc := pD) (f := fun q => pD (snapP z q)) (w := [.sh (trD ps), .sh (.int z), .no, .no, .no]) ps []
    fun q _ => ⟨[.sh (trD ps), .sh (.int z), .sh (.int q.1), .sh (.int q.2.1), .sh (.int q.2.2)], false, false, _, [.sh (trD ps), .sh (.int z), .sh (.int q.1), .sh (.int q.2.1), .sh (.int q.2.2)], by simp [pD], by rw [evC_nil], by
      have m1 : mulOk (q.2.1 / z) z := mulOk_r (by omega)
      have m2 : mulOk (q.2.2 / z) z := mulOk_r (by omega)
      simp [pD, snapP, d1, m1, m2], by simp [wipeS]⟩
  have E1 := evE_lc_of (FT := runL (PTof rows) (k + 5)) (k := .seq) (es := .cons (.v 0) .nil) (st := [.sh (trD ps), .sh (.int z), .no, .no, .no]) (st1 := [.sh (trD ps), .sh (.int z), .no, .no, .no]) (os := [.val (trD ps)]) (ds := [trD ps]) (by simp) rfl rfl (by
    rw [Bool.and_eq_true]; refine ⟨rfl, decide_eq_true ?_⟩
    rw [List.length_map]; exact sz_12 hn.2) m
  have e1 : (ps.map fun q => pD (snapP z q)) = (ps.map (snapP z)).map pD := by rw [List.map_map]; rfl
  rw [e1] at E1
  simp only [lockAll, lockS, unlockS, backS, unlockAll, List.nil_append, List.getElem?_cons_zero, List.getElem?_cons_succ, Option.getD_some, List.set] at E1
  show endOf (evSs (runL (PTof rows) (k + 5)) _ [.sh (trD ps), .sh (.int z), .no, .no, .no]) = _
  unfold bSnap
  have hT : D.tup ((ps.map (snapP z)).map pD) = trD (ps.map (snapP z)) := rfl
  have O := fun st => opnd_lc (e := .tup (.cons (.v 2) (.cons (.bin .mul (.bin .fdiv (.v 3) (.v 1)) (.v 1)) (.cons (.bin .mul (.bin .fdiv (.v 4) (.v 1)) (.v 1)) .nil)))) (t := .tup (.cons (.nm 2) (.cons (.nm 3) (.cons (.nm 4) .nil)))) (k := .seq) (es := .cons (.v 0) .nil) (c := .nil) (o := [2, 3, 4]) (f := evE (runL (PTof rows) (k + 5)) (.lc (.tup (.cons (.v 2) (.cons (.bin .mul (.bin .fdiv (.v 3) (.v 1)) (.v 1)) (.cons (.bin .mul (.bin .fdiv (.v 4) (.v 1)) (.v 1)) .nil)))) (.tup (.cons (.nm 2) (.cons (.nm 3) (.cons (.nm 4) .nil)))) .seq (.cons (.v 0) .nil) .nil [2, 3, 4])) (st := st)
  generalize E.lc (.tup (.cons (.v 2) (.cons (.bin .mul (.bin .fdiv (.v 3) (.v 1)) (.v 1)) (.cons (.bin .mul (.bin .fdiv (.v 4) (.v 1)) (.v 1)) .nil)))) (.tup (.cons (.nm 2) (.cons (.nm 3) (.cons (.nm 4) .nil)))) .seq (.cons (.v 0) .nil) .nil [2, 3, 4] = C1 at *
  generalize trD (ps.map (snapP z)) = trs at *
  generalize (ps.map (snapP z)).map pD = M at *
  generalize trD ps = tr at *
  have q1 : evS (runL (PTof rows) (k + 5)) (.ex (.call l (.cons (.v 0) .nil))) [.sh tr, .sh (.int z), .no, .no, .no] = .ok .nx [.sh tr, .sh (.int z), .no, .no, .no] := by simp [lk]
  have q2 : evS (runL (PTof rows) (k + 5)) (.ex (.call fz (.cons (.v 1) .nil))) [.sh tr, .sh (.int z), .no, .no, .no] = .ok .nx [.sh tr, .sh (.int z), .no, .no, .no] := by simp [lz]
  rw [evSs_cons, q1, th_ok']; dsimp only
  rw [evSs_cons, q2, th_ok']; dsimp only
  simp [O, E1, tupleB, seqD, sh1, hT, ld]
end
/-! plain -/
theorem sum_count : ∀ (U L : List P2), U.Nodup → (∀ x ∈ L, x ∈ U) → (U.map fun x => L.count x).sum = L.length
  | [], L, _, h => by
    cases L with
    | nil => rfl
    | cons a r => have := h a List.mem_cons_self; cases this
  | u :: U, L, hn, h => by
    have hn := List.nodup_cons.mp hn
    have ih := sum_count U (L.filter fun x => !decide (x = u)) hn.2 fun x hx => by
      obtain ⟨hx, hne⟩ := List.mem_filter.mp hx
      have := h x hx
      rcases List.mem_cons.mp this with e | e
      · subst e; simp at hne
      · exact e
    have ec : U.map (fun x => (L.filter fun x => !decide (x = u)).count x) = U.map fun x => L.count x := by
      apply List.map_congr_left
      intro x hx
      have ne : x ≠ u := fun e => hn.1 (e ▸ hx)
      rw [List.count_filter]
      simp [ne]
    rw [ec] at ih
    rw [List.map_cons, List.sum_cons, ih]
    have hl : L.count u + (L.filter fun x => !decide (x = u)).length = L.length := by
      clear ih ec h
      induction L with
      | nil => rfl
      | cons a r ih =>
        rw [List.count_cons, List.filter_cons]
        by_cases e : a = u
        · subst e; simp; omega
        · simp [e]; omega
    exact hl
theorem cellsL_mem {L : List P2} {x : P2} : x ∈ cellsL L ↔ x ∈ L := by
  unfold cellsL
  constructor
  · intro h
    obtain ⟨j, hj, rfl⟩ := List.mem_map.mp h
    have hj := List.mem_range.mp (List.mem_filter.mp hj).1
    rw [List.getD_eq_getElem?_getD, List.getElem?_eq_getElem hj]
    exact List.getElem_mem hj
  · intro h
    obtain ⟨j, hj⟩ := List.mem_iff_getElem?.mp h
    have hjl := (List.getElem?_eq_some_iff.mp hj).1
    -- the first place of the stretch
    have key : ∀ j, j < L.length → ∃ i, i < L.length ∧ newAt L i = true ∧ L.getD i (0, 0) = L.getD j (0, 0) := by
      intro j
      induction j with
      | zero => intro hj; exact ⟨0, hj, by simp [newAt], rfl⟩
      | succ j ih =>
        intro hj
        by_cases e : L.getD (j + 1) (0, 0) = L.getD j (0, 0)
        · obtain ⟨i, h1, h2, h3⟩ := ih (by omega)
          exact ⟨i, h1, h2, h3.trans e.symm⟩
        · refine ⟨j + 1, hj, ?_, rfl⟩
          unfold newAt
          rw [show j + 1 - 1 = j by omega, decide_eq_false e]
          simp
    obtain ⟨i, h1, h2, h3⟩ := key j hjl
    refine List.mem_map.mpr ⟨i, List.mem_filter.mpr ⟨List.mem_range.mpr h1, h2⟩, ?_⟩
    rw [h3, List.getD_eq_getElem?_getD, hj]; rfl
theorem sortU_cells (L : List P2) : sortU (cellsL L) = sortU L := by
  have h1 := sortU_lex (cellsL L)
  have h2 := sortU_lex L
  have hm : ∀ x, x ∈ sortU (cellsL L) ↔ x ∈ sortU L := fun x => by rw [mem_sortU, mem_sortU, cellsL_mem]
  generalize sortU (cellsL L) = A at *
  generalize sortU L = B at *
  have uniq : ∀ {l m : List P2}, l.Pairwise lexLt → m.Pairwise lexLt → (∀ x, x ∈ l ↔ x ∈ m) → l = m := by
    intro l
    induction l with
    | nil =>
      intro m _ _ h
      cases m with
      | nil => rfl
      | cons b s => have := (h b).mpr List.mem_cons_self; cases this
    | cons a r ih =>
      intro m h1 h2 h
      cases m with
      | nil => have := (h a).mp List.mem_cons_self; cases this
      | cons b s =>
        have h1' := List.pairwise_cons.mp h1
        have h2' := List.pairwise_cons.mp h2
        have asym : ∀ x y : P2, lexLt x y → lexLt y x → False := fun x y p q => by unfold lexLt at p q; omega
        have e : a = b := by
          rcases List.mem_cons.mp ((h a).mp List.mem_cons_self) with e | ha
          · exact e
          rcases List.mem_cons.mp ((h b).mpr List.mem_cons_self) with e | hb
          · exact e.symm
          exact (asym _ _ (h1'.1 b hb) (h2'.1 a ha)).elim
        subst e
        rw [ih h1'.2 h2'.2 fun x => ?_]
        constructor
        · intro hx
          rcases List.mem_cons.mp ((h x).mp (List.mem_cons_of_mem _ hx)) with e | z
          · subst e; exact (asym _ _ (h1'.1 _ hx) (h1'.1 _ hx)).elim
          · exact z
        · intro hx
          rcases List.mem_cons.mp ((h x).mpr (List.mem_cons_of_mem _ hx)) with e | z
          · subst e; exact (asym _ _ (h2'.1 _ hx) (h2'.1 _ hx)).elim
          · exact z
  exact uniq h1 h2 hm
end PD
set_option maxHeartbeats 4000000
set_option maxRecDepth 100000
namespace K34
open PySem PySem.Spec PyProof.Rows L2 PD
def top (i : Nat) : Stmt := PySem.Challenge.pw_tracklines_k34_whole_grids_held.main.body.getD i (.Pass ⟨0, 0, 0, 0⟩)
/-- _law_cell -/
def b0 : Ss :=
    (.cons (.iff (.cmp .lt (.v 1) (.bi .len (.cons (.v 0) .nil))) (.cons (.ret (.ix (.v 0) (.v 1)))
    .nil) .nil)
    (.cons (.iff (.cmp .eq (.v 0) (.lst .nil)) (.cons (.ret (.c (.int 0)))
    .nil) .nil)
    (.cons (.ret (.bin .add (.bin .mul (.ix (.v 0) (.bin .mod (.v 1) (.bi .len (.cons (.v 0) .nil)))) (.c (.int 31))) (.v 1)))
    .nil)))
def r0 : DRow := ⟨"_law_cell", top 29, ["_law_script", "_law_k"], ["_law_script", "_law_k"], ⟨2, 2, b0⟩⟩
/-- _law_pick -/
def b1 : Ss :=
    (.cons (.asg (.nm 3) (.bin .mod (.bin .mul (.bin .add (.call 0 (.cons (.v 0) (.cons (.v 1) .nil))) (.bin .mul (.c (.int 6151)) (.bin .add (.v 1) (.c (.int 1))))) (.c (.int 40692))) (.c (.int 2147483399))))
    (.cons (.ret (.bin .mod (.bin .mod (.bin .add (.bin .mul (.v 3) (.v 3)) (.bin .fdiv (.v 3) (.c (.int 31)))) (.c (.int 2147483629))) (.v 2)))
    .nil))
def r1 : DRow := ⟨"_law_pick", top 30, ["_law_script", "_law_k", "_law_many", "_law_drawn"], ["_law_script", "_law_k", "_law_many"], ⟨3, 4, b1⟩⟩
/-- is_whole -/
def b2 : Ss :=
    (.cons (.ret (.and (.bi .isInt (.cons (.v 0) .nil)) (.and (.not (.bi .isBool (.cons (.v 0) .nil))) (.chain .le .le (.v 1) (.v 0) (.v 2)))))
    .nil)
def r2 : DRow := ⟨"is_whole", top 12, ["thing", "low", "high"], ["thing", "low", "high"], ⟨3, 3, b2⟩⟩
/-- is_point -/
def b3 : Ss :=
    (.cons (.iff (.or (.not (.bi .isTuple (.cons (.v 0) .nil))) (.or (.cmp .ne (.bi .len (.cons (.v 0) .nil)) (.c (.int 3))) (.not (.call 2 (.cons (.ix (.v 0) (.c (.int 0))) (.cons (.c (.int 0)) (.cons (.g (.int 999) "LAST") .nil))))))) (.cons (.ret (.c (.bl false)))
    .nil) .nil)
    (.cons (.ret (.bi .all (.cons (.lc (.call 2 (.cons (.v 1) (.cons (.bin .sub (.c (.int 0)) (.g (.int 99) "FARTHEST")) (.cons (.g (.int 99) "FARTHEST") .nil)))) (.nm 1) .seq (.cons (.slF (.v 0) (.c (.int 1))) .nil) .nil [1]) .nil)))
    .nil))
def r3 : DRow := ⟨"is_point", top 13, ["thing", "one"], ["thing"], ⟨1, 2, b3⟩⟩
/-- is_track -/
def b4 : Ss :=
    (.cons (.iff (.or (.not (.bi .isTuple (.cons (.v 0) .nil))) (.or (.not (.chain .le .le (.c (.int 1)) (.bi .len (.cons (.v 0) .nil)) (.g (.int 12) "MOST"))) (.not (.bi .all (.cons (.lc (.call 3 (.cons (.v 1) .nil)) (.nm 1) .seq (.cons (.v 0) .nil) .nil [1]) .nil))))) (.cons (.ret (.c (.bl false)))
    .nil) .nil)
    (.cons (.ret (.bi .all (.cons (.lc (.cmp .lt (.ix (.v 2) (.c (.int 0))) (.ix (.v 3) (.c (.int 0)))) (.tup (.cons (.nm 2) (.cons (.nm 3) .nil))) .zip (.cons (.v 0) (.cons (.slF (.v 0) (.c (.int 1))) .nil)) .nil [2, 3]) .nil)))
    .nil))
def r4 : DRow := ⟨"is_track", top 14, ["thing", "point", "one", "other"], ["thing"], ⟨1, 4, b4⟩⟩
/-- look_track -/
def b5 : Ss :=
    (.cons (.iff (.not (.call 4 (.cons (.v 0) .nil))) (.cons (.raise 1)
    .nil) .nil)
    .nil)
def r5 : DRow := ⟨"look_track", top 15, ["track"], ["track"], ⟨1, 1, b5⟩⟩
/-- share -/
def b6 : Ss :=
    (.cons (.par (.cons (.nm 2) (.cons (.nm 3) .nil)) (.cons (.bi .abs (.cons (.v 0) .nil)) (.cons (.v 1) .nil)))
    (.cons (.whl (.cmp .ne (.v 3) (.c (.int 0))) (.cons (.par (.cons (.nm 2) (.cons (.nm 3) .nil)) (.cons (.v 3) (.cons (.bin .mod (.v 2) (.v 3)) .nil)))
    .nil))
    (.cons (.ret (.tup (.cons (.bin .fdiv (.v 0) (.v 2)) (.cons (.bin .fdiv (.v 1) (.v 2)) .nil))))
    .nil)))
def r6 : DRow := ⟨"share", top 6, ["up", "down", "one", "other"], ["up", "down"], ⟨2, 4, b6⟩⟩
/-- plus -/
def b7 : Ss :=
    (.cons (.ret (.call 6 (.cons (.bin .add (.bin .mul (.ix (.v 0) (.c (.int 0))) (.ix (.v 1) (.c (.int 1)))) (.bin .mul (.ix (.v 1) (.c (.int 0))) (.ix (.v 0) (.c (.int 1))))) (.cons (.bin .mul (.ix (.v 0) (.c (.int 1))) (.ix (.v 1) (.c (.int 1)))) .nil))))
    .nil)
def r7 : DRow := ⟨"plus", top 7, ["one", "other"], ["one", "other"], ⟨2, 2, b7⟩⟩
/-- between -/
def b8 : Ss :=
    (.cons (.iff (.cmp .eq (.ix (.v 1) (.c (.int 0))) (.ix (.v 0) (.c (.int 0)))) (.cons (.ret (.tup (.cons (.tup (.cons (.ix (.v 0) (.c (.int 1))) (.cons (.c (.int 1)) .nil))) (.cons (.tup (.cons (.ix (.v 0) (.c (.int 2))) (.cons (.c (.int 1)) .nil))) .nil))))
    .nil) .nil)
    (.cons (.asg (.nm 3) (.call 6 (.cons (.bin .sub (.v 2) (.ix (.v 0) (.c (.int 0)))) (.cons (.bin .sub (.ix (.v 1) (.c (.int 0))) (.ix (.v 0) (.c (.int 0)))) .nil))))
    (.cons (.asg (.nm 4) (.lst .nil))
    (.cons (.for_ (.nm 5) .seq (.cons (.tup (.cons (.c (.int 1)) (.cons (.c (.int 2)) .nil))) .nil) (.cons (.app 4 (.call 7 (.cons (.tup (.cons (.ix (.v 0) (.v 5)) (.cons (.c (.int 1)) .nil))) (.cons (.call 6 (.cons (.bin .mul (.ix (.v 3) (.c (.int 0))) (.bin .sub (.ix (.v 1) (.v 5)) (.ix (.v 0) (.v 5)))) (.cons (.ix (.v 3) (.c (.int 1))) .nil))) .nil))))
    .nil))
    (.cons (.ret (.tup (.cons (.ix (.v 4) (.c (.int 0))) (.cons (.ix (.v 4) (.c (.int 1))) .nil))))
    .nil)))))
def r8 : DRow := ⟨"between", top 17, ["one", "other", "time", "part", "made", "place"], ["one", "other", "time"], ⟨3, 6, b8⟩⟩
/-- position -/
def b9 : Ss :=
    (.cons (.ex (.call 5 (.cons (.v 0) .nil)))
    (.cons (.iff (.not (.call 2 (.cons (.v 1) (.cons (.ix (.ix (.v 0) (.c (.int 0))) (.c (.int 0))) (.cons (.ix (.ix (.v 0) (.neg (.c (.int 1)))) (.c (.int 0))) .nil))))) (.cons (.raise 2)
    .nil) .nil)
    (.cons (.asg (.nm 2) (.ix (.lc (.v 4) (.nm 4) .seq (.cons (.v 0) .nil) (.cons (.cmp .le (.ix (.v 4) (.c (.int 0))) (.v 1)) .nil) [4]) (.neg (.c (.int 1)))))
    (.cons (.asg (.nm 3) (.ix (.lc (.v 4) (.nm 4) .seq (.cons (.v 0) .nil) (.cons (.cmp .ge (.ix (.v 4) (.c (.int 0))) (.v 1)) .nil) [4]) (.c (.int 0))))
    (.cons (.ret (.call 8 (.cons (.v 2) (.cons (.v 3) (.cons (.v 1) .nil)))))
    .nil)))))
def r9 : DRow := ⟨"position", top 18, ["track", "time", "ahead", "behind", "point"], ["track", "time"], ⟨2, 5, b9⟩⟩
/-- rounded -/
def b10 : Ss :=
    (.cons (.asg (.tup (.cons (.nm 1) (.cons (.nm 2) .nil))) (.v 0))
    (.cons (.ret (.bin .fdiv (.bin .add (.bin .mul (.c (.int 2)) (.v 1)) (.v 2)) (.bin .mul (.c (.int 2)) (.v 2))))
    .nil))
def r10 : DRow := ⟨"rounded", top 21, ["fraction", "up", "down"], ["fraction"], ⟨1, 3, b10⟩⟩
/-- at_every -/
def b11 : Ss :=
    (.cons (.ex (.call 5 (.cons (.v 0) .nil)))
    (.cons (.iff (.not (.call 2 (.cons (.v 1) (.cons (.c (.int 1)) (.cons (.g (.int 999) "LAST") .nil))))) (.cons (.raise 3)
    .nil) .nil)
    (.cons (.asg (.nm 2) (.bi .lstRng (.cons (.ix (.ix (.v 0) (.c (.int 0))) (.c (.int 0))) (.cons (.bin .add (.ix (.ix (.v 0) (.neg (.c (.int 1)))) (.c (.int 0))) (.c (.int 1))) (.cons (.v 1) .nil)))))
    (.cons (.iff (.cmp .gt (.bi .len (.cons (.v 2) .nil)) (.g (.int 12) "MOST")) (.cons (.raise 1)
    .nil) .nil)
    (.cons (.asg (.nm 3) (.lst .nil))
    (.cons (.for_ (.nm 4) .seq (.cons (.v 2) .nil) (.cons (.asg (.tup (.cons (.nm 5) (.cons (.nm 6) .nil))) (.call 9 (.cons (.v 0) (.cons (.v 4) .nil))))
    (.cons (.app 3 (.tup (.cons (.v 4) (.cons (.call 10 (.cons (.v 5) .nil)) (.cons (.call 10 (.cons (.v 6) .nil)) .nil)))))
    .nil)))
    (.cons (.ret (.bi .tuple (.cons (.v 3) .nil)))
    .nil)))))))
def r11 : DRow := ⟨"at_every", top 22, ["track", "step", "times", "made", "time", "x", "y"], ["track", "step"], ⟨2, 7, b11⟩⟩
/-- _law_track -/
def b12 : Ss :=
    (.cons (.asg (.nm 3) (.bin .add (.c (.int 1)) (.call 1 (.cons (.v 0) (.cons (.v 1) (.cons (.v 2) .nil))))))
    (.cons (.asg (.nm 4) (.ix (.lst (.cons (.c (.int 2)) (.cons (.c (.int 5)) (.cons (.c (.int 30)) .nil)))) (.call 1 (.cons (.v 0) (.cons (.bin .add (.v 1) (.c (.int 1))) (.cons (.c (.int 3)) .nil))))))
    (.cons (.asg (.nm 5) (.call 1 (.cons (.v 0) (.cons (.bin .add (.v 1) (.c (.int 2))) (.cons (.c (.int 20)) .nil)))))
    (.cons (.par (.cons (.nm 6) (.cons (.nm 7) .nil)) (.cons (.bin .sub (.call 1 (.cons (.v 0) (.cons (.bin .add (.v 1) (.c (.int 3))) (.cons (.c (.int 21)) .nil)))) (.c (.int 10))) (.cons (.bin .sub (.call 1 (.cons (.v 0) (.cons (.bin .add (.v 1) (.c (.int 4))) (.cons (.c (.int 21)) .nil)))) (.c (.int 10))) .nil)))
    (.cons (.asg (.nm 8) (.lst (.cons (.tup (.cons (.v 5) (.cons (.v 6) (.cons (.v 7) .nil)))) .nil)))
    (.cons (.for_ (.nm 9) .range (.cons (.c (.int 1)) (.cons (.v 3) .nil)) (.cons (.asg (.nm 5) (.bin .add (.bin .add (.v 5) (.c (.int 1))) (.call 1 (.cons (.v 0) (.cons (.bin .add (.v 1) (.bin .mul (.c (.int 5)) (.v 9))) (.cons (.ix (.lst (.cons (.c (.int 2)) (.cons (.c (.int 6)) (.cons (.c (.int 40)) .nil)))) (.call 1 (.cons (.v 0) (.cons (.bin .add (.bin .add (.v 1) (.c (.int 80))) (.v 9)) (.cons (.c (.int 3)) .nil))))) .nil))))))
    (.cons (.asg (.nm 6) (.bi .max (.cons (.neg (.c (.int 99))) (.cons (.bi .min (.cons (.c (.int 99)) (.cons (.bin .sub (.bin .add (.v 6) (.call 1 (.cons (.v 0) (.cons (.bin .add (.bin .add (.v 1) (.bin .mul (.c (.int 5)) (.v 9))) (.c (.int 1))) (.cons (.bin .add (.bin .mul (.c (.int 2)) (.v 4)) (.c (.int 1))) .nil))))) (.v 4)) .nil))) .nil))))
    (.cons (.asg (.nm 7) (.bi .max (.cons (.neg (.c (.int 99))) (.cons (.bi .min (.cons (.c (.int 99)) (.cons (.bin .sub (.bin .add (.v 7) (.call 1 (.cons (.v 0) (.cons (.bin .add (.bin .add (.v 1) (.bin .mul (.c (.int 5)) (.v 9))) (.c (.int 2))) (.cons (.bin .add (.bin .mul (.c (.int 2)) (.v 4)) (.c (.int 1))) .nil))))) (.v 4)) .nil))) .nil))))
    (.cons (.iff (.cmp .eq (.call 1 (.cons (.v 0) (.cons (.bin .add (.bin .add (.v 1) (.bin .mul (.c (.int 5)) (.v 9))) (.c (.int 3))) (.cons (.c (.int 4)) .nil)))) (.c (.int 0))) (.cons (.asg (.tup (.cons (.nm 6) (.cons (.nm 7) .nil))) (.slF (.ix (.v 8) (.neg (.c (.int 1)))) (.c (.int 1))))
    .nil) .nil)
    (.cons (.app 8 (.tup (.cons (.v 5) (.cons (.v 6) (.cons (.v 7) .nil)))))
    .nil))))))
    (.cons (.ret (.bi .tuple (.cons (.v 8) .nil)))
    .nil)))))))
def r12 : DRow := ⟨"_law_track", top 31, ["_law_script", "_law_at", "_law_most", "_law_many", "_law_wide", "_law_time", "_law_x", "_law_y", "_law_made", "_law_k"], ["_law_script", "_law_at", "_law_most"], ⟨3, 10, b12⟩⟩
/-- look_size -/
def b13 : Ss :=
    (.cons (.iff (.not (.call 2 (.cons (.v 0) (.cons (.c (.int 1)) (.cons (.g (.int 99) "MOST_SIZE") .nil))))) (.cons (.raise 3)
    .nil) .nil)
    .nil)
def r13 : DRow := ⟨"look_size", top 24, ["size"], ["size"], ⟨1, 1, b13⟩⟩
/-- looked -/
def b14 : Ss :=
    (.cons (.ex (.call 5 (.cons (.v 0) .nil)))
    (.cons (.ret (.v 0))
    .nil))
def r14 : DRow := ⟨"looked", top 16, ["track"], ["track"], ⟨1, 1, b14⟩⟩
/-- snapped -/
def b15 : Ss :=
    (.cons (.ex (.call 5 (.cons (.v 0) .nil)))
    (.cons (.ex (.call 13 (.cons (.v 1) .nil)))
    (.cons (.ret (.call 14 (.cons (.bi .tuple (.cons (.lc (.tup (.cons (.v 2) (.cons (.bin .mul (.bin .fdiv (.v 3) (.v 1)) (.v 1)) (.cons (.bin .mul (.bin .fdiv (.v 4) (.v 1)) (.v 1)) .nil)))) (.tup (.cons (.nm 2) (.cons (.nm 3) (.cons (.nm 4) .nil)))) .seq (.cons (.v 0) .nil) .nil [2, 3, 4]) .nil)) .nil)))
    .nil)))
def r15 : DRow := ⟨"snapped", top 27, ["track", "size", "time", "x", "y"], ["track", "size"], ⟨2, 5, b15⟩⟩
/-- cell_of -/
def b16 : Ss :=
    (.cons (.ret (.tup (.cons (.bin .fdiv (.ix (.v 0) (.c (.int 0))) (.v 1)) (.cons (.bin .fdiv (.ix (.v 0) (.c (.int 1))) (.v 1)) .nil))))
    .nil)
def r16 : DRow := ⟨"cell_of", top 23, ["place", "size"], ["place", "size"], ⟨2, 2, b16⟩⟩
/-- cells -/
def b17 : Ss :=
    (.cons (.ex (.call 5 (.cons (.v 0) .nil)))
    (.cons (.ex (.call 13 (.cons (.v 1) .nil)))
    (.cons (.asg (.nm 2) (.lc (.call 16 (.cons (.slF (.v 3) (.c (.int 1))) (.cons (.v 1) .nil))) (.nm 3) .seq (.cons (.v 0) .nil) .nil [3]))
    (.cons (.ret (.lc (.v 5) (.tup (.cons (.nm 4) (.cons (.nm 5) .nil))) .enum (.cons (.v 2) .nil) (.cons (.or (.cmp .eq (.v 4) (.c (.int 0))) (.cmp .ne (.v 5) (.ix (.v 2) (.bin .sub (.v 4) (.c (.int 1)))))) .nil) [4, 5]))
    .nil))))
def r17 : DRow := ⟨"cells", top 25, ["track", "size", "some", "point", "at", "one"], ["track", "size"], ⟨2, 6, b17⟩⟩
/-- how_often -/
def b18 : Ss :=
    (.cons (.ex (.call 5 (.cons (.v 0) .nil)))
    (.cons (.ex (.call 13 (.cons (.v 1) .nil)))
    (.cons (.asg (.nm 2) (.lc (.call 16 (.cons (.slF (.v 3) (.c (.int 1))) (.cons (.v 1) .nil))) (.nm 3) .seq (.cons (.v 0) .nil) .nil [3]))
    (.cons (.ret (.lc (.tup (.cons (.v 4) (.cons (.mt .count (.v 2) (.cons (.v 4) .nil)) .nil))) (.nm 4) .seq (.cons (.bi .sortedSet (.cons (.v 2) .nil)) .nil) .nil [4]))
    .nil))))
def r18 : DRow := ⟨"how_often", top 26, ["track", "size", "some", "point", "one"], ["track", "size"], ⟨2, 5, b18⟩⟩
/-- law -/
def b19 : Ss :=
    (.cons (.asg (.tup (.cons (.nm 1) (.cons (.nm 2) .nil))) (.tup (.cons (.bin .add (.c (.int 1)) (.call 1 (.cons (.v 0) (.cons (.c (.int 0)) (.cons (.c (.int 20)) .nil))))) (.cons (.call 12 (.cons (.v 0) (.cons (.c (.int 100)) (.cons (.c (.int 12)) .nil)))) .nil))))
    (.cons (.asg (.nm 3) (.call 1 (.cons (.v 0) (.cons (.c (.int 1)) (.cons (.c (.int 50)) .nil)))))
    (.cons (.asg (.nm 7) (.bi .tuple (.cons (.lc (.tup (.cons (.bin .add (.v 3) (.bin .mul (.v 1) (.v 11))) (.cons (.v 5) (.cons (.v 6) .nil)))) (.tup (.cons (.nm 11) (.cons (.tup (.cons (.nm 4) (.cons (.nm 5) (.cons (.nm 6) .nil)))) .nil))) .enum (.cons (.v 2) .nil) .nil [11, 4, 5, 6]) .nil)))
    (.cons (.iff (.or (.cmp .ne (.call 11 (.cons (.v 7) (.cons (.v 1) .nil))) (.v 7)) (.cmp .ne (.call 11 (.cons (.v 7) (.cons (.bin .mul (.c (.int 2)) (.v 1)) .nil))) (.even (.v 7)))) (.cons (.ret (.c (.bl false)))
    .nil) .nil)
    (.cons (.for_ (.tup (.cons (.nm 4) (.cons (.nm 5) (.cons (.nm 6) .nil)))) .seq (.cons (.call 11 (.cons (.v 7) (.cons (.bin .mul (.c (.int 3)) (.v 1)) .nil))) .nil) (.cons (.iff (.cmp .ne (.call 9 (.cons (.v 7) (.cons (.v 4) .nil))) (.tup (.cons (.tup (.cons (.v 5) (.cons (.c (.int 1)) .nil))) (.cons (.tup (.cons (.v 6) (.cons (.c (.int 1)) .nil))) .nil)))) (.cons (.ret (.c (.bl false)))
    .nil) .nil)
    .nil))
    (.cons (.asg (.nm 8) (.bin .add (.c (.int 1)) (.call 1 (.cons (.v 0) (.cons (.c (.int 2)) (.cons (.c (.int 9)) .nil))))))
    (.cons (.iff (.cmp .ne (.bi .sum (.cons (.lc (.v 13) (.tup (.cons (.nm 12) (.cons (.nm 13) .nil))) .seq (.cons (.call 18 (.cons (.v 7) (.cons (.v 8) .nil))) .nil) .nil [12, 13]) .nil)) (.bi .len (.cons (.v 7) .nil))) (.cons (.ret (.c (.bl false)))
    .nil) .nil)
    (.cons (.iff (.cmp .ne (.bi .sortedSet (.cons (.call 17 (.cons (.v 7) (.cons (.v 8) .nil))) .nil)) (.lc (.v 12) (.tup (.cons (.nm 12) (.cons (.nm 13) .nil))) .seq (.cons (.call 18 (.cons (.v 7) (.cons (.v 8) .nil))) .nil) .nil [12, 13])) (.cons (.ret (.c (.bl false)))
    .nil) .nil)
    (.cons (.iff (.cmp .lt (.bi .min (.cons (.lc (.bi .min (.cons (.v 5) (.cons (.v 6) .nil))) (.tup (.cons (.nm 4) (.cons (.nm 5) (.cons (.nm 6) .nil)))) .seq (.cons (.v 7) .nil) .nil [4, 5, 6]) .nil)) (.neg (.c (.int 90)))) (.cons (.ret (.c (.bl true)))
    .nil) .nil)
    (.cons (.for_ (.tup (.cons (.nm 9) (.cons (.nm 10) .nil))) .zip (.cons (.v 7) (.cons (.call 15 (.cons (.v 7) (.cons (.v 8) .nil))) .nil)) (.cons (.iff (.or (.cmp .ne (.ix (.v 9) (.c (.int 0))) (.ix (.v 10) (.c (.int 0)))) (.or (.not (.chain .le .lt (.c (.int 0)) (.bin .sub (.ix (.v 9) (.c (.int 1))) (.ix (.v 10) (.c (.int 1)))) (.v 8))) (.not (.chain .le .lt (.c (.int 0)) (.bin .sub (.ix (.v 9) (.c (.int 2))) (.ix (.v 10) (.c (.int 2)))) (.v 8))))) (.cons (.ret (.c (.bl false)))
    .nil) .nil)
    .nil))
    (.cons (.ret (.cmp .eq (.call 17 (.cons (.call 15 (.cons (.v 7) (.cons (.v 8) .nil))) (.cons (.v 8) .nil))) (.call 17 (.cons (.v 7) (.cons (.v 8) .nil)))))
    .nil)))))))))))
def r19 : DRow := ⟨"law", top 32, ["_law_script", "_law_step", "_law_some", "_law_start", "_law_time", "_law_x", "_law_y", "_law_track_here", "_law_size", "_law_one", "_law_other", "_law_k", "_law_cell_here", "_law_often"], ["_law_script"], ⟨1, 14, b19⟩⟩
def rows : List DRow := [r0, r1, r2, r3, r4, r5, r6, r7, r8, r9, r10, r11, r12, r13, r14, r15, r16, r17, r18, r19]
def ex (c : Nat) : Option Str := (["TrackError", "NoTrack", "NoTime", "NoNumber"] : List Str)[c]?
def gl (x : Str) : Option Int := ([("LAST", 999), ("FARTHEST", 99), ("MOST", 12), ("MOST_SIZE", 99)] : List (Str × Int)).lookup x
theorem c0 : rowB rows ex gl false r0 = true := by decide +kernel
theorem c1 : rowB rows ex gl false r1 = true := by decide +kernel
theorem c2 : rowB rows ex gl false r2 = true := by decide +kernel
theorem c3 : rowB rows ex gl false r3 = true := by decide +kernel
theorem c4 : rowB rows ex gl false r4 = true := by decide +kernel
theorem c5 : rowB rows ex gl false r5 = true := by decide +kernel
theorem c6 : rowB rows ex gl false r6 = true := by decide +kernel
theorem c7 : rowB rows ex gl false r7 = true := by decide +kernel
theorem c8 : rowB rows ex gl false r8 = true := by decide +kernel
theorem c9 : rowB rows ex gl false r9 = true := by decide +kernel
theorem c10 : rowB rows ex gl false r10 = true := by decide +kernel
theorem c11 : rowB rows ex gl false r11 = true := by decide +kernel
theorem c12 : rowB rows ex gl false r12 = true := by decide +kernel
theorem c13 : rowB rows ex gl false r13 = true := by decide +kernel
theorem c14 : rowB rows ex gl false r14 = true := by decide +kernel
theorem c15 : rowB rows ex gl false r15 = true := by decide +kernel
theorem c16 : rowB rows ex gl false r16 = true := by decide +kernel
theorem c17 : rowB rows ex gl false r17 = true := by decide +kernel
theorem c18 : rowB rows ex gl false r18 = true := by decide +kernel
theorem c19 : rowB rows ex gl false r19 = true := by decide +kernel
theorem stat : ∀ (f : Nat) (r : DRow), rows[f]? = some r → rowB rows ex gl false r = true
  | 0, _, h => by cases h; exact c0
  | 1, _, h => by cases h; exact c1
  | 2, _, h => by cases h; exact c2
  | 3, _, h => by cases h; exact c3
  | 4, _, h => by cases h; exact c4
  | 5, _, h => by cases h; exact c5
  | 6, _, h => by cases h; exact c6
  | 7, _, h => by cases h; exact c7
  | 8, _, h => by cases h; exact c8
  | 9, _, h => by cases h; exact c9
  | 10, _, h => by cases h; exact c10
  | 11, _, h => by cases h; exact c11
  | 12, _, h => by cases h; exact c12
  | 13, _, h => by cases h; exact c13
  | 14, _, h => by cases h; exact c14
  | 15, _, h => by cases h; exact c15
  | 16, _, h => by cases h; exact c16
  | 17, _, h => by cases h; exact c17
  | 18, _, h => by cases h; exact c18
  | 19, _, h => by cases h; exact c19
  | n + 20, _, h => by cases h
theorem facts {K : PySem.W.Frag} {h : Heap} {mg : Str → Option Value} {a0 a1 a2 a3 a4 a5 a6 a7 a8 a9 a10 a11 a12 a13 a14 a15 a16 a17 a18 a19 C0 C1 C2 C3 : Addr} (X : K.In h) (G : h.Ns mainGlobals mg) {od0 od1 od2 od3 od4 od5 od6 od7 od8 od9 od10 od11 od12 od13 od14 od15 od16 od17 od18 od19 : Option Addr} {an0 an1 an2 an3 an4 an5 an6 an7 an8 an9 an10 an11 an12 an13 an14 an15 an16 an17 an18 an19 : Option Addr} {sl0 sl1 sl2 sl3 sl4 sl5 sl6 sl7 sl8 sl9 sl10 sl11 sl12 sl13 sl14 sl15 sl16 sl17 sl18 sl19 : Array (Option Value)} {tk0 tk1 tk2 tk3 : Tok} {oc0 oc1 oc2 oc3 oc4 oc5 oc6 oc7 oc8 oc9 oc10 oc11 oc12 oc13 oc14 oc15 oc16 oc17 oc18 oc19 kV0 kV1 kV2 kV3 kV4 kV5 kV6 kV7 kV8 kV9 kV10 kV11 kV12 kV13 kV14 kV15 kV16 kV17 kV18 kV19 dc0 dc1 dc2 dc3 dc4 dc5 dc6 dc7 dc8 dc9 dc10 dc11 dc12 dc13 dc14 dc15 dc16 dc17 dc18 dc19 pm0 pm1 pm2 pm3 pm4 pm5 pm6 pm7 pm8 pm9 pm10 pm11 pm12 pm13 pm14 pm15 pm16 pm17 pm18 pm19 cd0 cd1 cd2 cd3 cd4 cd5 cd6 cd7 cd8 cd9 cd10 cd11 cd12 cd13 cd14 cd15 cd16 cd17 cd18 cd19 ct0 ct1 ct2 ct3 ct4 ct5 ct6 ct7 ct8 ct9 ct10 ct11 ct12 ct13 ct14 ct15 ct16 ct17 ct18 ct19 : Value}
    (n0 : PySem.W.nsIn K mainGlobals "_law_cell" = some (some (.ref a0)))
    (l0 : K.lookup a0 = some ⟨oc0, od0, .func (PySem.W.fnOf "_law_cell" "_law_cell" (defArgs (top 29)) (defBody (top 29)) (defScope (top 29)) .none kV0 dc0 pm0 an0 cd0 ct0), sl0⟩)
    (d0 : PySem.W.codeIn K cd0 "_law_cell" = true)
    (k0 : PySem.W.keepIn K (.ref a0) = true)
    (n1 : PySem.W.nsIn K mainGlobals "_law_pick" = some (some (.ref a1)))
    (l1 : K.lookup a1 = some ⟨oc1, od1, .func (PySem.W.fnOf "_law_pick" "_law_pick" (defArgs (top 30)) (defBody (top 30)) (defScope (top 30)) .none kV1 dc1 pm1 an1 cd1 ct1), sl1⟩)
    (d1 : PySem.W.codeIn K cd1 "_law_pick" = true)
    (k1 : PySem.W.keepIn K (.ref a1) = true)
    (n2 : PySem.W.nsIn K mainGlobals "is_whole" = some (some (.ref a2)))
    (l2 : K.lookup a2 = some ⟨oc2, od2, .func (PySem.W.fnOf "is_whole" "is_whole" (defArgs (top 12)) (defBody (top 12)) (defScope (top 12)) .none kV2 dc2 pm2 an2 cd2 ct2), sl2⟩)
    (d2 : PySem.W.codeIn K cd2 "is_whole" = true)
    (k2 : PySem.W.keepIn K (.ref a2) = true)
    (n3 : PySem.W.nsIn K mainGlobals "is_point" = some (some (.ref a3)))
    (l3 : K.lookup a3 = some ⟨oc3, od3, .func (PySem.W.fnOf "is_point" "is_point" (defArgs (top 13)) (defBody (top 13)) (defScope (top 13)) .none kV3 dc3 pm3 an3 cd3 ct3), sl3⟩)
    (d3 : PySem.W.codeIn K cd3 "is_point" = true)
    (k3 : PySem.W.keepIn K (.ref a3) = true)
    (n4 : PySem.W.nsIn K mainGlobals "is_track" = some (some (.ref a4)))
    (l4 : K.lookup a4 = some ⟨oc4, od4, .func (PySem.W.fnOf "is_track" "is_track" (defArgs (top 14)) (defBody (top 14)) (defScope (top 14)) .none kV4 dc4 pm4 an4 cd4 ct4), sl4⟩)
    (d4 : PySem.W.codeIn K cd4 "is_track" = true)
    (k4 : PySem.W.keepIn K (.ref a4) = true)
    (n5 : PySem.W.nsIn K mainGlobals "look_track" = some (some (.ref a5)))
    (l5 : K.lookup a5 = some ⟨oc5, od5, .func (PySem.W.fnOf "look_track" "look_track" (defArgs (top 15)) (defBody (top 15)) (defScope (top 15)) .none kV5 dc5 pm5 an5 cd5 ct5), sl5⟩)
    (d5 : PySem.W.codeIn K cd5 "look_track" = true)
    (k5 : PySem.W.keepIn K (.ref a5) = true)
    (n6 : PySem.W.nsIn K mainGlobals "share" = some (some (.ref a6)))
    (l6 : K.lookup a6 = some ⟨oc6, od6, .func (PySem.W.fnOf "share" "share" (defArgs (top 6)) (defBody (top 6)) (defScope (top 6)) .none kV6 dc6 pm6 an6 cd6 ct6), sl6⟩)
    (d6 : PySem.W.codeIn K cd6 "share" = true)
    (k6 : PySem.W.keepIn K (.ref a6) = true)
    (n7 : PySem.W.nsIn K mainGlobals "plus" = some (some (.ref a7)))
    (l7 : K.lookup a7 = some ⟨oc7, od7, .func (PySem.W.fnOf "plus" "plus" (defArgs (top 7)) (defBody (top 7)) (defScope (top 7)) .none kV7 dc7 pm7 an7 cd7 ct7), sl7⟩)
    (d7 : PySem.W.codeIn K cd7 "plus" = true)
    (k7 : PySem.W.keepIn K (.ref a7) = true)
    (n8 : PySem.W.nsIn K mainGlobals "between" = some (some (.ref a8)))
    (l8 : K.lookup a8 = some ⟨oc8, od8, .func (PySem.W.fnOf "between" "between" (defArgs (top 17)) (defBody (top 17)) (defScope (top 17)) .none kV8 dc8 pm8 an8 cd8 ct8), sl8⟩)
    (d8 : PySem.W.codeIn K cd8 "between" = true)
    (k8 : PySem.W.keepIn K (.ref a8) = true)
    (n9 : PySem.W.nsIn K mainGlobals "position" = some (some (.ref a9)))
    (l9 : K.lookup a9 = some ⟨oc9, od9, .func (PySem.W.fnOf "position" "position" (defArgs (top 18)) (defBody (top 18)) (defScope (top 18)) .none kV9 dc9 pm9 an9 cd9 ct9), sl9⟩)
    (d9 : PySem.W.codeIn K cd9 "position" = true)
    (k9 : PySem.W.keepIn K (.ref a9) = true)
    (n10 : PySem.W.nsIn K mainGlobals "rounded" = some (some (.ref a10)))
    (l10 : K.lookup a10 = some ⟨oc10, od10, .func (PySem.W.fnOf "rounded" "rounded" (defArgs (top 21)) (defBody (top 21)) (defScope (top 21)) .none kV10 dc10 pm10 an10 cd10 ct10), sl10⟩)
    (d10 : PySem.W.codeIn K cd10 "rounded" = true)
    (k10 : PySem.W.keepIn K (.ref a10) = true)
    (n11 : PySem.W.nsIn K mainGlobals "at_every" = some (some (.ref a11)))
    (l11 : K.lookup a11 = some ⟨oc11, od11, .func (PySem.W.fnOf "at_every" "at_every" (defArgs (top 22)) (defBody (top 22)) (defScope (top 22)) .none kV11 dc11 pm11 an11 cd11 ct11), sl11⟩)
    (d11 : PySem.W.codeIn K cd11 "at_every" = true)
    (k11 : PySem.W.keepIn K (.ref a11) = true)
    (n12 : PySem.W.nsIn K mainGlobals "_law_track" = some (some (.ref a12)))
    (l12 : K.lookup a12 = some ⟨oc12, od12, .func (PySem.W.fnOf "_law_track" "_law_track" (defArgs (top 31)) (defBody (top 31)) (defScope (top 31)) .none kV12 dc12 pm12 an12 cd12 ct12), sl12⟩)
    (d12 : PySem.W.codeIn K cd12 "_law_track" = true)
    (k12 : PySem.W.keepIn K (.ref a12) = true)
    (n13 : PySem.W.nsIn K mainGlobals "look_size" = some (some (.ref a13)))
    (l13 : K.lookup a13 = some ⟨oc13, od13, .func (PySem.W.fnOf "look_size" "look_size" (defArgs (top 24)) (defBody (top 24)) (defScope (top 24)) .none kV13 dc13 pm13 an13 cd13 ct13), sl13⟩)
    (d13 : PySem.W.codeIn K cd13 "look_size" = true)
    (k13 : PySem.W.keepIn K (.ref a13) = true)
    (n14 : PySem.W.nsIn K mainGlobals "looked" = some (some (.ref a14)))
    (l14 : K.lookup a14 = some ⟨oc14, od14, .func (PySem.W.fnOf "looked" "looked" (defArgs (top 16)) (defBody (top 16)) (defScope (top 16)) .none kV14 dc14 pm14 an14 cd14 ct14), sl14⟩)
    (d14 : PySem.W.codeIn K cd14 "looked" = true)
    (k14 : PySem.W.keepIn K (.ref a14) = true)
    (n15 : PySem.W.nsIn K mainGlobals "snapped" = some (some (.ref a15)))
    (l15 : K.lookup a15 = some ⟨oc15, od15, .func (PySem.W.fnOf "snapped" "snapped" (defArgs (top 27)) (defBody (top 27)) (defScope (top 27)) .none kV15 dc15 pm15 an15 cd15 ct15), sl15⟩)
    (d15 : PySem.W.codeIn K cd15 "snapped" = true)
    (k15 : PySem.W.keepIn K (.ref a15) = true)
    (n16 : PySem.W.nsIn K mainGlobals "cell_of" = some (some (.ref a16)))
    (l16 : K.lookup a16 = some ⟨oc16, od16, .func (PySem.W.fnOf "cell_of" "cell_of" (defArgs (top 23)) (defBody (top 23)) (defScope (top 23)) .none kV16 dc16 pm16 an16 cd16 ct16), sl16⟩)
    (d16 : PySem.W.codeIn K cd16 "cell_of" = true)
    (k16 : PySem.W.keepIn K (.ref a16) = true)
    (n17 : PySem.W.nsIn K mainGlobals "cells" = some (some (.ref a17)))
    (l17 : K.lookup a17 = some ⟨oc17, od17, .func (PySem.W.fnOf "cells" "cells" (defArgs (top 25)) (defBody (top 25)) (defScope (top 25)) .none kV17 dc17 pm17 an17 cd17 ct17), sl17⟩)
    (d17 : PySem.W.codeIn K cd17 "cells" = true)
    (k17 : PySem.W.keepIn K (.ref a17) = true)
    (n18 : PySem.W.nsIn K mainGlobals "how_often" = some (some (.ref a18)))
    (l18 : K.lookup a18 = some ⟨oc18, od18, .func (PySem.W.fnOf "how_often" "how_often" (defArgs (top 26)) (defBody (top 26)) (defScope (top 26)) .none kV18 dc18 pm18 an18 cd18 ct18), sl18⟩)
    (d18 : PySem.W.codeIn K cd18 "how_often" = true)
    (k18 : PySem.W.keepIn K (.ref a18) = true)
    (n19 : PySem.W.nsIn K mainGlobals "law" = some (some (.ref a19)))
    (l19 : K.lookup a19 = some ⟨oc19, od19, .func (PySem.W.fnOf "law" "law" (defArgs (top 32)) (defBody (top 32)) (defScope (top 32)) .none kV19 dc19 pm19 an19 cd19 ct19), sl19⟩)
    (d19 : PySem.W.codeIn K cd19 "law" = true)
    (k19 : PySem.W.keepIn K (.ref a19) = true)
    (e0 : PySem.W.nsIn K mainGlobals "TrackError" = some (some (.ref C0)))
    (x0 : PySem.W.excIn K C0 [.type "ValueError", .type "Exception", .type "BaseException", .type "object"] "ValueError.__new__" = true)
    (y0 : PySem.W.keepIn K (.ref C0) = true)
    (s0 : PySem.W.subIn K (.ref C0) (.type "BaseException") = some true)
    (t0 : PySem.W.typeIn K (.ref C0) = some (.type "type"))
    (e1 : PySem.W.nsIn K mainGlobals "NoTrack" = some (some (.ref C1)))
    (x1 : PySem.W.excIn K C1 [.type "ValueError", .type "Exception", .type "BaseException", .type "object"] "ValueError.__new__" = true)
    (y1 : PySem.W.keepIn K (.ref C1) = true)
    (s1 : PySem.W.subIn K (.ref C1) (.type "BaseException") = some true)
    (t1 : PySem.W.typeIn K (.ref C1) = some (.type "type"))
    (e2 : PySem.W.nsIn K mainGlobals "NoTime" = some (some (.ref C2)))
    (x2 : PySem.W.excIn K C2 [.type "ValueError", .type "Exception", .type "BaseException", .type "object"] "ValueError.__new__" = true)
    (y2 : PySem.W.keepIn K (.ref C2) = true)
    (s2 : PySem.W.subIn K (.ref C2) (.type "BaseException") = some true)
    (t2 : PySem.W.typeIn K (.ref C2) = some (.type "type"))
    (e3 : PySem.W.nsIn K mainGlobals "NoNumber" = some (some (.ref C3)))
    (x3 : PySem.W.excIn K C3 [.type "ValueError", .type "Exception", .type "BaseException", .type "object"] "ValueError.__new__" = true)
    (y3 : PySem.W.keepIn K (.ref C3) = true)
    (s3 : PySem.W.subIn K (.ref C3) (.type "BaseException") = some true)
    (t3 : PySem.W.typeIn K (.ref C3) = some (.type "type"))
    (gg0 : PySem.W.nsIn K mainGlobals "LAST" = some (some (.int 999 tk0)))
    (gg1 : PySem.W.nsIn K mainGlobals "FARTHEST" = some (some (.int 99 tk1)))
    (gg2 : PySem.W.nsIn K mainGlobals "MOST" = some (some (.int 12 tk2)))
    (gg3 : PySem.W.nsIn K mainGlobals "MOST_SIZE" = some (some (.int 99 tk3)))
    (b_range : PySem.W.nsIn K mainGlobals "range" = some none)
    (b_len : PySem.W.nsIn K mainGlobals "len" = some none)
    (b_abs : PySem.W.nsIn K mainGlobals "abs" = some none)
    (b_min : PySem.W.nsIn K mainGlobals "min" = some none)
    (b_max : PySem.W.nsIn K mainGlobals "max" = some none)
    (b_sum : PySem.W.nsIn K mainGlobals "sum" = some none)
    (b_any : PySem.W.nsIn K mainGlobals "any" = some none)
    (b_all : PySem.W.nsIn K mainGlobals "all" = some none)
    (b_sorted : PySem.W.nsIn K mainGlobals "sorted" = some none)
    (b_tuple : PySem.W.nsIn K mainGlobals "tuple" = some none)
    (b_list : PySem.W.nsIn K mainGlobals "list" = some none)
    (b_dict : PySem.W.nsIn K mainGlobals "dict" = some none)
    (b_int : PySem.W.nsIn K mainGlobals "int" = some none)
    (b_str : PySem.W.nsIn K mainGlobals "str" = some none)
    (b_set : PySem.W.nsIn K mainGlobals "set" = some none)
    (b_zip : PySem.W.nsIn K mainGlobals "zip" = some none)
    (b_enumerate : PySem.W.nsIn K mainGlobals "enumerate" = some none)
    (b_isinstance : PySem.W.nsIn K mainGlobals "isinstance" = some none)
    (b_bool : PySem.W.nsIn K mainGlobals "bool" = some none)
    (b_ValueError : PySem.W.nsIn K mainGlobals "ValueError" = some none) :
    (∀ (f : Nat) (r : DRow), rows[f]? = some r → RowAt K mg r) ∧ (∀ x ∈ blts, mg x = none) ∧ (∀ (x : Str) (i : Int), gl x = some i → ∃ t, mg x = some (.int i t)) ∧ (∀ (c : Nat) (x : Str), ex c = some x → ExAt K mg (cmOf K ex) c x) ∧ (false = true → ∀ (k : Nat) (x : Str), ex k = some x → ExI K (cmOf K ex) ex k) := by
  have hc0 : cmOf K ex 0 = .ref C0 := by show cmOf K ex 0 = _; simp only [cmOf, ex, List.getElem?_cons_zero, List.getElem?_cons_succ]; rw [e0]
  have hc1 : cmOf K ex 1 = .ref C1 := by show cmOf K ex 1 = _; simp only [cmOf, ex, List.getElem?_cons_zero, List.getElem?_cons_succ]; rw [e1]
  have hc2 : cmOf K ex 2 = .ref C2 := by show cmOf K ex 2 = _; simp only [cmOf, ex, List.getElem?_cons_zero, List.getElem?_cons_succ]; rw [e2]
  have hc3 : cmOf K ex 3 = .ref C3 := by show cmOf K ex 3 = _; simp only [cmOf, ex, List.getElem?_cons_zero, List.getElem?_cons_succ]; rw [e3]
  refine ⟨fun f r e => ?_, fun x hx => ?_, fun x i e => ?_, fun c x e => ?_, ?_⟩
  · match f, e with
    | 0, e => cases e; exact rowAt_mk (r := r0) X G n0 l0 d0 k0 fun _ _ _ _ _ _ us hl => match us, hl with | [_, _], _ => rfl
    | 1, e => cases e; exact rowAt_mk (r := r1) X G n1 l1 d1 k1 fun _ _ _ _ _ _ us hl => match us, hl with | [_, _, _], _ => rfl
    | 2, e => cases e; exact rowAt_mk (r := r2) X G n2 l2 d2 k2 fun _ _ _ _ _ _ us hl => match us, hl with | [_, _, _], _ => rfl
    | 3, e => cases e; exact rowAt_mk (r := r3) X G n3 l3 d3 k3 fun _ _ _ _ _ _ us hl => match us, hl with | [_], _ => rfl
    | 4, e => cases e; exact rowAt_mk (r := r4) X G n4 l4 d4 k4 fun _ _ _ _ _ _ us hl => match us, hl with | [_], _ => rfl
    | 5, e => cases e; exact rowAt_mk (r := r5) X G n5 l5 d5 k5 fun _ _ _ _ _ _ us hl => match us, hl with | [_], _ => rfl
    | 6, e => cases e; exact rowAt_mk (r := r6) X G n6 l6 d6 k6 fun _ _ _ _ _ _ us hl => match us, hl with | [_, _], _ => rfl
    | 7, e => cases e; exact rowAt_mk (r := r7) X G n7 l7 d7 k7 fun _ _ _ _ _ _ us hl => match us, hl with | [_, _], _ => rfl
    | 8, e => cases e; exact rowAt_mk (r := r8) X G n8 l8 d8 k8 fun _ _ _ _ _ _ us hl => match us, hl with | [_, _, _], _ => rfl
    | 9, e => cases e; exact rowAt_mk (r := r9) X G n9 l9 d9 k9 fun _ _ _ _ _ _ us hl => match us, hl with | [_, _], _ => rfl
    | 10, e => cases e; exact rowAt_mk (r := r10) X G n10 l10 d10 k10 fun _ _ _ _ _ _ us hl => match us, hl with | [_], _ => rfl
    | 11, e => cases e; exact rowAt_mk (r := r11) X G n11 l11 d11 k11 fun _ _ _ _ _ _ us hl => match us, hl with | [_, _], _ => rfl
    | 12, e => cases e; exact rowAt_mk (r := r12) X G n12 l12 d12 k12 fun _ _ _ _ _ _ us hl => match us, hl with | [_, _, _], _ => rfl
    | 13, e => cases e; exact rowAt_mk (r := r13) X G n13 l13 d13 k13 fun _ _ _ _ _ _ us hl => match us, hl with | [_], _ => rfl
    | 14, e => cases e; exact rowAt_mk (r := r14) X G n14 l14 d14 k14 fun _ _ _ _ _ _ us hl => match us, hl with | [_], _ => rfl
    | 15, e => cases e; exact rowAt_mk (r := r15) X G n15 l15 d15 k15 fun _ _ _ _ _ _ us hl => match us, hl with | [_, _], _ => rfl
    | 16, e => cases e; exact rowAt_mk (r := r16) X G n16 l16 d16 k16 fun _ _ _ _ _ _ us hl => match us, hl with | [_, _], _ => rfl
    | 17, e => cases e; exact rowAt_mk (r := r17) X G n17 l17 d17 k17 fun _ _ _ _ _ _ us hl => match us, hl with | [_, _], _ => rfl
    | 18, e => cases e; exact rowAt_mk (r := r18) X G n18 l18 d18 k18 fun _ _ _ _ _ _ us hl => match us, hl with | [_, _], _ => rfl
    | 19, e => cases e; exact rowAt_mk (r := r19) X G n19 l19 d19 k19 fun _ _ _ _ _ _ us hl => match us, hl with | [_], _ => rfl
    | n + 20, e => cases e
  · simp only [blts, List.mem_cons, List.not_mem_nil, or_false] at hx
    rcases hx with rfl | rfl | rfl | rfl | rfl | rfl | rfl | rfl | rfl | rfl | rfl | rfl | rfl | rfl | rfl | rfl | rfl | rfl | rfl | rfl
    · exact PySem.W.mg_none_of X G b_range
    · exact PySem.W.mg_none_of X G b_len
    · exact PySem.W.mg_none_of X G b_abs
    · exact PySem.W.mg_none_of X G b_min
    · exact PySem.W.mg_none_of X G b_max
    · exact PySem.W.mg_none_of X G b_sum
    · exact PySem.W.mg_none_of X G b_any
    · exact PySem.W.mg_none_of X G b_all
    · exact PySem.W.mg_none_of X G b_sorted
    · exact PySem.W.mg_none_of X G b_tuple
    · exact PySem.W.mg_none_of X G b_list
    · exact PySem.W.mg_none_of X G b_dict
    · exact PySem.W.mg_none_of X G b_int
    · exact PySem.W.mg_none_of X G b_str
    · exact PySem.W.mg_none_of X G b_set
    · exact PySem.W.mg_none_of X G b_zip
    · exact PySem.W.mg_none_of X G b_enumerate
    · exact PySem.W.mg_none_of X G b_isinstance
    · exact PySem.W.mg_none_of X G b_bool
    · exact PySem.W.mg_none_of X G b_ValueError
  · unfold gl at e
    rw [List.lookup_cons] at e
    split at e
    · rename_i hq; cases e; rw [beq_iff_eq.mp hq]; exact ⟨tk0, PySem.W.mg_of X G gg0⟩
    rw [List.lookup_cons] at e
    split at e
    · rename_i hq; cases e; rw [beq_iff_eq.mp hq]; exact ⟨tk1, PySem.W.mg_of X G gg1⟩
    rw [List.lookup_cons] at e
    split at e
    · rename_i hq; cases e; rw [beq_iff_eq.mp hq]; exact ⟨tk2, PySem.W.mg_of X G gg2⟩
    rw [List.lookup_cons] at e
    split at e
    · rename_i hq; cases e; rw [beq_iff_eq.mp hq]; exact ⟨tk3, PySem.W.mg_of X G gg3⟩
    cases e
  · match c, e with
    | 0, e => cases e; exact ⟨C0, _, _, _, _, hc0, F.excBase_ValueError, x0, PySem.W.mg_of X G e0, y0, s0, t0⟩
    | 1, e => cases e; exact ⟨C1, _, _, _, _, hc1, F.excBase_ValueError, x1, PySem.W.mg_of X G e1, y1, s1, t1⟩
    | 2, e => cases e; exact ⟨C2, _, _, _, _, hc2, F.excBase_ValueError, x2, PySem.W.mg_of X G e2, y2, s2, t2⟩
    | 3, e => cases e; exact ⟨C3, _, _, _, _, hc3, F.excBase_ValueError, x3, PySem.W.mg_of X G e3, y3, s3, t3⟩
    | n + 4, e => cases e
  · intro h; cases h
end K34
set_option maxRecDepth 10000
namespace K34
open PD
def depth : Nat := 20
theorem T : Trk rows 2 3 4 5 1 := ⟨⟨r2, rfl, rfl⟩, ⟨r3, rfl, rfl⟩, ⟨r4, rfl, rfl⟩, ⟨r5, rfl, rfl⟩⟩
theorem W : Drw rows 0 1 := ⟨⟨r0, rfl, rfl⟩, ⟨r1, rfl, rfl⟩⟩
section
variable {k : Nat} {ps : List Pt}
theorem f_every (h : okT ps = true) {s : Int} {d m : Nat} (hd : 1 ≤ d) (hm : 1 ≤ m) (hmd : m * d ≤ 999) (he : evenT s d ps) : runL (PTof rows) (k + 6) 11 [trD ps, .int ((m * d : Nat) : Int)] = .ok false (trD (everyL m ps ((ps.length - 1) / m + 1))) :=
  run_every (f := 11) (fpo := 9) (fro := 10) (fb := 8) (fs := 6) (fp := 7) (c3 := 3) (cx := 2) T ⟨r8, rfl, rfl⟩ ⟨r9, rfl, rfl⟩ ⟨r10, rfl, rfl⟩ ⟨r11, rfl, rfl⟩ h hd hm hmd he
theorem f_pos (h : okT ps = true) {j : Nat} (hj : j < ps.length) : runL (PTof rows) (k + 5) 9 [trD ps, .int (ps.getD j (0, 0, 0)).1] = .ok false (plQ (ps.getD j (0, 0, 0))) := run_posP (f := 9) (fb := 8) (fs := 6) (fp := 7) (cx := 2) T ⟨r8, rfl, rfl⟩ ⟨r9, rfl, rfl⟩ h hj
theorem f_cells (h : okT ps = true) {z : Int} (hz : 1 ≤ z ∧ z ≤ 99) : runL (PTof rows) (k + 5) 17 [trD ps, .int z] = .ok true (.lst ((cellsL (someC z ps)).map plD)) := run_cells (f := 17) (fz := 13) (fc := 16) (cx := 3) T ⟨r13, rfl, rfl⟩ ⟨r16, rfl, rfl⟩ ⟨r17, rfl, rfl⟩ h hz
theorem f_often (h : okT ps = true) {z : Int} (hz : 1 ≤ z ∧ z ≤ 99) : runL (PTof rows) (k + 5) 18 [trD ps, .int z] = .ok true (.lst ((sortU (someC z ps)).map (oftD (someC z ps)))) := run_often (f := 18) (fz := 13) (fc := 16) (cx := 3) T ⟨r13, rfl, rfl⟩ ⟨r16, rfl, rfl⟩ ⟨r18, rfl, rfl⟩ h hz
theorem f_snap (h : okT ps = true) {z : Int} (hz : 1 ≤ z ∧ z ≤ 99) (hok : okT (ps.map (snapP z)) = true) : runL (PTof rows) (k + 6) 15 [trD ps, .int z] = .ok false (trD (ps.map (snapP z))) := run_snap (f := 15) (fz := 13) (fl := 14) (cx := 3) T ⟨r13, rfl, rfl⟩ ⟨r14, rfl, rfl⟩ ⟨r15, rfl, rfl⟩ h hz hok
end
/-- the track at even times -/
def mkT (s d : Int) (qs : List Pt) : List Pt := (List.range qs.length).map fun (j : Nat) => (s + d * (j : Int), (qs.getD j (0, 0, 0)).2)
theorem mkT_len {s d : Int} {qs : List Pt} : (mkT s d qs).length = qs.length := by unfold mkT; rw [List.length_map, List.length_range]
theorem mkT_get {s d : Int} {qs : List Pt} {j : Nat} (h : j < qs.length) : (mkT s d qs).getD j (0, 0, 0) = (s + d * (j : Int), (qs.getD j (0, 0, 0)).2) := by
  unfold mkT
  rw [List.getD_eq_getElem?_getD, List.getElem?_map, List.getElem?_range h]
  rfl
theorem mkT_ok {s : Int} {d : Nat} {qs : List Pt} (h : okT qs = true) (hs : 0 ≤ s ∧ s < 50) (hd : 1 ≤ d ∧ d ≤ 20) : okT (mkT s d qs) = true := by
  have hl := okT_len h
  refine okT_of (by rw [mkT_len]; exact hl.1) (by rw [mkT_len]; exact hl.2) (fun q hq => ?_) ?_
  · obtain ⟨j, hj, rfl⟩ := List.mem_map.mp hq
    have hj := List.mem_range.mp hj
    have := okT_pt h (getD_mem (ps := qs) (j := j) hj)
    have b1 : (d : Int) * (j : Int) ≤ 20 * 11 := Int.mul_le_mul (by omega) (by omega) (by omega) (by decide)
    have b0 : 0 ≤ (d : Int) * (j : Int) := Int.mul_nonneg (by omega) (by omega)
    rw [okP_iff]
    dsimp only
    omega
  · rw [rises_pair]
    unfold mkT
    rw [List.pairwise_map]
    refine List.pairwise_lt_range.imp fun {a b} hab => ?_
    dsimp only
    have : (d : Int) * (a : Int) < (d : Int) * (b : Int) := Int.mul_lt_mul_of_pos_left (by omega) (by omega)
    omega
theorem mkT_even {s : Int} {d : Nat} {qs : List Pt} : evenT s d (mkT s d qs) := fun j hj => by
  rw [mkT_len] at hj
  rw [mkT_get hj]
theorem every1 (ps : List Pt) (h : 1 ≤ ps.length) : everyL 1 ps ((ps.length - 1) / 1 + 1) = ps := by
  rw [Nat.div_one, show ps.length - 1 + 1 = ps.length by omega]
  unfold everyL
  apply List.ext_getElem?
  intro j
  rw [List.getElem?_map]
  by_cases hj : j < ps.length
  · rw [List.getElem?_range hj, List.getElem?_eq_getElem hj]
    show some (ps.getD (1 * j) (0, 0, 0)) = _
    rw [Nat.one_mul, List.getD_eq_getElem?_getD, List.getElem?_eq_getElem hj]; rfl
  · rw [List.getElem?_eq_none (by simpa using Nat.le_of_not_lt hj), List.getElem?_eq_none (Nat.le_of_not_lt hj)]; rfl
theorem evens_map {α β : Type} (f : α → β) : ∀ l : List α, evens (l.map f) = (evens l).map f
  | [] => rfl
  | [a] => rfl
  | a :: b :: r => by simp only [List.map_cons, evens, evens_map f r]
theorem every2 (ps : List Pt) (h : 1 ≤ ps.length) : everyL 2 ps ((ps.length - 1) / 2 + 1) = evens ps := by
  unfold everyL
  apply List.ext_getElem?
  intro j
  rw [List.getElem?_map, evens_get]
  by_cases hj : j < (ps.length - 1) / 2 + 1
  · rw [List.getElem?_range hj, List.getElem?_eq_getElem (show 2 * j < ps.length by omega)]
    show some (ps.getD (2 * j) (0, 0, 0)) = _
    rw [List.getD_eq_getElem?_getD, List.getElem?_eq_getElem (show 2 * j < ps.length by omega)]; rfl
  · rw [List.getElem?_eq_none (by simp; omega), List.getElem?_eq_none (by omega)]; rfl
theorem snap_ok {ps : List Pt} (h : okT ps = true) {z : Int} (hz : 1 ≤ z ∧ z ≤ 9) (hm : ∀ q ∈ ps, -90 ≤ q.2.1 ∧ -90 ≤ q.2.2) : okT (ps.map (snapP z)) = true := by
  have hl := okT_len h
  have key : ∀ x : Int, x / z * z ≤ x ∧ x - z < x / z * z := fun x => by
    have h1 := Int.emod_nonneg x (show z ≠ 0 by omega)
    have h2 := Int.emod_lt_of_pos x (show 0 < z by omega)
    have h3 := Int.mul_ediv_add_emod x z
    rw [Int.mul_comm] at h3
    omega
  refine okT_of (by simpa using hl.1) (by simpa using hl.2) (fun q hq => ?_) ?_
  · obtain ⟨y, hy, rfl⟩ := List.mem_map.mp hq
    have h1 := okT_pt h hy
    have h2 := hm y hy
    have k1 := key y.2.1
    have k2 := key y.2.2
    rw [okP_iff]
    dsimp only [snapP]
    omega
  · rw [rises_pair, List.pairwise_map]
    exact rises_pair.mp (okT_rises h)
theorem snap_cells {ps : List Pt} {z : Int} (hz : 1 ≤ z) : someC z (ps.map (snapP z)) = someC z ps := by
  unfold someC
  rw [List.map_map]
  apply List.map_congr_left
  intro q _
  simp only [Function.comp, snapP, cellP]
  rw [Int.mul_ediv_cancel _ (by omega), Int.mul_ediv_cancel _ (by omega)]
def cMk : E := .lc (.tup (.cons (.bin .add (.v 3) (.bin .mul (.v 1) (.v 11))) (.cons (.v 5) (.cons (.v 6) .nil)))) (.tup (.cons (.nm 11) (.cons (.tup (.cons (.nm 4) (.cons (.nm 5) (.cons (.nm 6) .nil)))) .nil))) .enum (.cons (.v 2) .nil) .nil [11, 4, 5, 6]
def cSm : E := .lc (.v 13) (.tup (.cons (.nm 12) (.cons (.nm 13) .nil))) .seq (.cons (.call 18 (.cons (.v 7) (.cons (.v 8) .nil))) .nil) .nil [12, 13]
def cCl : E := .lc (.v 12) (.tup (.cons (.nm 12) (.cons (.nm 13) .nil))) .seq (.cons (.call 18 (.cons (.v 7) (.cons (.v 8) .nil))) .nil) .nil [12, 13]
def cMn : E := .lc (.bi .min (.cons (.v 5) (.cons (.v 6) .nil))) (.tup (.cons (.nm 4) (.cons (.nm 5) (.cons (.nm 6) .nil)))) .seq (.cons (.v 7) .nil) .nil [4, 5, 6]
theorem enumD_mapP : ∀ (L : List Pt) (n : Nat), enumD n (L.map pD) = (List.range L.length).map fun j : Nat => .tup [.int ((n + j : Nat) : Int), pD (L.getD j (0, 0, 0))]
  | [], n => rfl
  | a :: r, n => by
    rw [List.map_cons, List.length_cons, List.range_succ_eq_map, List.map_cons, List.map_map]
    show D.tup [.int (n : Int), pD a] :: enumD (n + 1) (r.map pD) = _
    rw [enumD_mapP r (n + 1)]
    congr 1
    apply List.map_congr_left
    intro j _
    show _ = D.tup [.int ((n + (j + 1) : Nat) : Int), pD ((a :: r).getD (j + 1) (0, 0, 0))]
    rw [show n + 1 + j = n + (j + 1) by omega]
    rfl
theorem e_mk {FT : Nat → List D → FR} {qs : List Pt} {s d : Int} (hl : qs.length ≤ 12) (hd : d.natAbs < 2 ^ 64) (s0 s7 s8 s9 s10 s12 s13 : Slot) : evE FT cMk [s0, .sh (.int d), .sh (trD qs), .sh (.int s), .no, .no, .no, s7, s8, s9, s10, .no, s12, s13] = .ok (true, .lst ((mkT s d qs).map pD)) [s0, .sh (.int d), .sh (trD qs), .sh (.int s), .no, .no, .no, s7, s8, s9, s10, .no, s12, s13] := by
  have m := lcGo_map (tg := .tup (.cons (.nm 11) (.cons (.tup (.cons (.nm 4) (.cons (.nm 5) (.cons (.nm 6) .nil)))) .nil))) (own := [11, 4, 5, 6]) (cond := evC FT .nil) (elt := evE FT (.tup (.cons (.bin .add (.v 3) (.bin .mul (.v 1) (.v 11))) (.cons (.v 5) (.cons (.v 6) .nil))))) (enc := fun j : Nat => .tup [.int ((0 + j : Nat) : Int), pD (qs.getD j (0, 0, 0))]) (f := fun j : Nat => pD (s + d * (j : Int), (qs.getD j (0, 0, 0)).2)) (w := [s0, .sh (.int d), .sh (trD qs), .sh (.int s), .no, .no, .no, s7, s8, s9, s10, .no, s12, s13]) (List.range qs.length) []
    fun j hj => ⟨[s0, .sh (.int d), .sh (trD qs), .sh (.int s), .sh (.int (qs.getD j (0, 0, 0)).1), .sh (.int (qs.getD j (0, 0, 0)).2.1), .sh (.int (qs.getD j (0, 0, 0)).2.2), s7, s8, s9, s10, .sh (.int (j : Int)), s12, s13], false, false, _, [s0, .sh (.int d), .sh (trD qs), .sh (.int s), .sh (.int (qs.getD j (0, 0, 0)).1), .sh (.int (qs.getD j (0, 0, 0)).2.1), .sh (.int (qs.getD j (0, 0, 0)).2.2), s7, s8, s9, s10, .sh (.int (j : Int)), s12, s13], by (generalize qs.getD j (0, 0, 0) = g; simp [pD]), by rw [evC_nil], by
      have mo : mulOk d (j : Int) := mulOk_l hd
      generalize qs.getD j (0, 0, 0) = g
      simp [pD, mo], by simp [wipeS]⟩
  have EE := evE_lc_of (FT := FT) (k := .enum) (es := .cons (.v 2) .nil) (st := [s0, .sh (.int d), .sh (trD qs), .sh (.int s), .no, .no, .no, s7, s8, s9, s10, .no, s12, s13]) (st1 := [s0, .sh (.int d), .sh (trD qs), .sh (.int s), .no, .no, .no, s7, s8, s9, s10, .no, s12, s13]) (os := [.val (trD qs)]) (ds := [trD qs]) (by simp) rfl (by show some (enumD 0 (qs.map pD)) = _; rw [enumD_mapP]) (by
    rw [Bool.and_eq_true]; refine ⟨rfl, decide_eq_true ?_⟩
    rw [List.length_map, List.length_range]; exact sz_12 hl) m
  have e : (List.range qs.length).map (fun j : Nat => pD (s + d * (j : Int), (qs.getD j (0, 0, 0)).2)) = (mkT s d qs).map pD := by unfold mkT; rw [List.map_map]; rfl
  rw [List.nil_append, e] at EE
  simp only [lockAll, backS, unlockAll, List.nil_append, List.getElem?_cons_zero, List.getElem?_cons_succ, Option.getD_some, List.set] at EE
  exact EE
theorem e_sm {FT : Nat → List D → FR} {L U : List P2} {t : D} {z : Int} (hl : U.length ≤ 12) (h : FT 18 [t, .int z] = .ok true (.lst (U.map (oftD L)))) (s0 s1 s2 s3 s4 s5 s6 s9 s10 s11 : Slot) : evE FT cSm [s0, s1, s2, s3, s4, s5, s6, .sh t, .sh (.int z), s9, s10, s11, .no, .no] = .ok (true, .lst (U.map fun x => .int (L.count x : Nat))) [s0, s1, s2, s3, s4, s5, s6, .sh t, .sh (.int z), s9, s10, s11, .no, .no] := by
  have m := lcGo_map (tg := .tup (.cons (.nm 12) (.cons (.nm 13) .nil))) (own := [12, 13]) (cond := evC FT .nil) (elt := evE FT (.v 13)) (enc := oftD L) (f := fun x => .int (L.count x : Nat)) (w := [s0, s1, s2, s3, s4, s5, s6, .sh t, .sh (.int z), s9, s10, s11, .no, .no]) U []
    fun x _ => ⟨[s0, s1, s2, s3, s4, s5, s6, .sh t, .sh (.int z), s9, s10, s11, .sh (plD x), .sh (.int (L.count x : Nat))], false, false, _, [s0, s1, s2, s3, s4, s5, s6, .sh t, .sh (.int z), s9, s10, s11, .sh (plD x), .sh (.int (L.count x : Nat))], by simp [oftD], by rw [evC_nil], by simp, by simp [wipeS]⟩
  have EE := evE_lc_of (FT := FT) (k := .seq) (es := .cons (.call 18 (.cons (.v 7) (.cons (.v 8) .nil))) .nil) (st := [s0, s1, s2, s3, s4, s5, s6, .sh t, .sh (.int z), s9, s10, s11, .no, .no]) (st1 := [s0, s1, s2, s3, s4, s5, s6, .sh t, .sh (.int z), s9, s10, s11, .no, .no]) (os := [.val (.lst (U.map (oftD L)))]) (ds := [.lst (U.map (oftD L))]) (by simp [h]) rfl rfl (by
    rw [Bool.and_eq_true]; refine ⟨rfl, decide_eq_true ?_⟩
    rw [List.length_map]; exact sz_12 hl) m
  simp only [lockAll, backS, unlockAll, List.nil_append, List.getElem?_cons_zero, List.getElem?_cons_succ, Option.getD_some, List.set] at EE
  exact EE
theorem e_cl {FT : Nat → List D → FR} {L U : List P2} {t : D} {z : Int} (hl : U.length ≤ 12) (h : FT 18 [t, .int z] = .ok true (.lst (U.map (oftD L)))) (s0 s1 s2 s3 s4 s5 s6 s9 s10 s11 : Slot) : evE FT cCl [s0, s1, s2, s3, s4, s5, s6, .sh t, .sh (.int z), s9, s10, s11, .no, .no] = .ok (true, .lst (U.map fun x => plD x)) [s0, s1, s2, s3, s4, s5, s6, .sh t, .sh (.int z), s9, s10, s11, .no, .no] := by
  have m := lcGo_map (tg := .tup (.cons (.nm 12) (.cons (.nm 13) .nil))) (own := [12, 13]) (cond := evC FT .nil) (elt := evE FT (.v 12)) (enc := oftD L) (f := fun x => plD x) (w := [s0, s1, s2, s3, s4, s5, s6, .sh t, .sh (.int z), s9, s10, s11, .no, .no]) U []
    fun x _ => ⟨[s0, s1, s2, s3, s4, s5, s6, .sh t, .sh (.int z), s9, s10, s11, .sh (plD x), .sh (.int (L.count x : Nat))], false, false, _, [s0, s1, s2, s3, s4, s5, s6, .sh t, .sh (.int z), s9, s10, s11, .sh (plD x), .sh (.int (L.count x : Nat))], by simp [oftD], by rw [evC_nil], by simp, by simp [wipeS]⟩
  have EE := evE_lc_of (FT := FT) (k := .seq) (es := .cons (.call 18 (.cons (.v 7) (.cons (.v 8) .nil))) .nil) (st := [s0, s1, s2, s3, s4, s5, s6, .sh t, .sh (.int z), s9, s10, s11, .no, .no]) (st1 := [s0, s1, s2, s3, s4, s5, s6, .sh t, .sh (.int z), s9, s10, s11, .no, .no]) (os := [.val (.lst (U.map (oftD L)))]) (ds := [.lst (U.map (oftD L))]) (by simp [h]) rfl rfl (by
    rw [Bool.and_eq_true]; refine ⟨rfl, decide_eq_true ?_⟩
    rw [List.length_map]; exact sz_12 hl) m
  simp only [lockAll, backS, unlockAll, List.nil_append, List.getElem?_cons_zero, List.getElem?_cons_succ, Option.getD_some, List.set] at EE
  exact EE
def mnQ (q : Pt) : Int := if q.2.2 < q.2.1 then q.2.2 else q.2.1
theorem e_mn {FT : Nat → List D → FR} {ps : List Pt} (hl : ps.length ≤ 12) (s0 s1 s2 s3 s4 s5 s6 s8 s9 s10 s11 s12 s13 : Slot) (h4 : isOw s4 = false) (h5 : isOw s5 = false) (h6 : isOw s6 = false) : evE FT cMn [s0, s1, s2, s3, s4, s5, s6, .sh (trD ps), s8, s9, s10, s11, s12, s13] = .ok (true, .lst (ps.map fun q => .int (mnQ q))) [s0, s1, s2, s3, s4, s5, s6, .sh (trD ps), s8, s9, s10, s11, s12, s13] := by
  have m := lcGo_map (tg := .tup (.cons (.nm 4) (.cons (.nm 5) (.cons (.nm 6) .nil)))) (own := [4, 5, 6]) (cond := evC FT .nil) (elt := evE FT (.bi .min (.cons (.v 5) (.cons (.v 6) .nil)))) (enc := pD) (f := fun q => .int (mnQ q)) (w := [s0, s1, s2, s3, .no, .no, .no, .sh (trD ps), s8, s9, s10, s11, s12, s13]) ps []
    fun q _ => ⟨[s0, s1, s2, s3, .sh (.int q.1), .sh (.int q.2.1), .sh (.int q.2.2), .sh (trD ps), s8, s9, s10, s11, s12, s13], false, false, _, [s0, s1, s2, s3, .sh (.int q.1), .sh (.int q.2.1), .sh (.int q.2.2), .sh (trD ps), s8, s9, s10, s11, s12, s13], by simp [pD], by rw [evC_nil], by simp [minB_int, mnQ], by simp [wipeS]⟩
  have EE := evE_lc_of (FT := FT) (k := .seq) (es := .cons (.v 7) .nil) (st := [s0, s1, s2, s3, s4, s5, s6, .sh (trD ps), s8, s9, s10, s11, s12, s13]) (st1 := [s0, s1, s2, s3, s4, s5, s6, .sh (trD ps), s8, s9, s10, s11, s12, s13]) (os := [.val (trD ps)]) (ds := [trD ps]) (by simp) rfl rfl (by
    cases s4 <;> simp [isOw] at h4 <;> cases s5 <;> simp [isOw] at h5 <;> cases s6 <;> simp [isOw] at h6 <;> simp [wipeOk, lockAll] <;> exact sz_12 hl) m
  simp only [lockAll, backS, unlockAll, List.nil_append, List.getElem?_cons_zero, List.getElem?_cons_succ, Option.getD_some, List.set] at EE
  exact EE
theorem evE_ev {FT : Nat → List D → FR} {a : E} {st : List Slot} : evE FT (.even a) st = (opnd a (evE FT a) st).th fun x st => match rs1 st x with
    | some (.tup xs) => .ok (false, .tup (evens xs)) st
    | _ => .bad := by first | (simp only [evE]; done) | (simp only [evE]; rfl)
def bP : Ss := (.cons (.iff (.cmp .ne (.call 9 (.cons (.v 7) (.cons (.v 4) .nil))) (.tup (.cons (.tup (.cons (.v 5) (.cons (.c (.int 1)) .nil))) (.cons (.tup (.cons (.v 6) (.cons (.c (.int 1)) .nil))) .nil)))) (.cons (.ret (.c (.bl false))) .nil) .nil) .nil)
def bQ : Ss := (.cons (.iff (.or (.cmp .ne (.ix (.v 9) (.c (.int 0))) (.ix (.v 10) (.c (.int 0)))) (.or (.not (.chain .le .lt (.c (.int 0)) (.bin .sub (.ix (.v 9) (.c (.int 1))) (.ix (.v 10) (.c (.int 1)))) (.v 8))) (.not (.chain .le .lt (.c (.int 0)) (.bin .sub (.ix (.v 9) (.c (.int 2))) (.ix (.v 10) (.c (.int 2)))) (.v 8))))) (.cons (.ret (.c (.bl false))) .nil) .nil) .nil)
theorem law34 {FT : Nat → List D → FR} {ns : List Int} {tq : D} {M M2 M3 MS CN CL UP MN PR : List D} {a0 d s z0 z n mn : Int}
    (p0 : FT 1 [.scr ns, .int 0, .int 20] = .ok false (.int a0))
    (hd : 1 + a0 = d)
    (hs : FT 12 [.scr ns, .int 100, .int 12] = .ok false tq)
    (p1 : FT 1 [.scr ns, .int 1, .int 50] = .ok false (.int s))
    (eM : evE FT cMk [.sh (.scr ns), .sh (.int d), .sh tq, .sh (.int s), .no, .no, .no, .no, .no, .no, .no, .no, .no, .no] = .ok (true, .lst M) [.sh (.scr ns), .sh (.int d), .sh tq, .sh (.int s), .no, .no, .no, .no, .no, .no, .no, .no, .no, .no])
    (e1 : FT 11 [.tup M, .int d] = .ok false (.tup M))
    (m2 : mulOk 2 d)
    (e2 : FT 11 [.tup M, .int (2 * d)] = .ok false (.tup M2))
    (hv : evens M = M2)
    (eA : eqD (.tup M) (.tup M) = some true)
    (eB : eqD (.tup M2) (.tup M2) = some true)
    (m3 : mulOk 3 d)
    (e3 : FT 11 [.tup M, .int (3 * d)] = .ok false (.tup M3))
    (hF : ∃ s4 s5 s6, isOw s4 = false ∧ isOw s5 = false ∧ isOw s6 = false ∧ forGo (.tup (.cons (.nm 4) (.cons (.nm 5) (.cons (.nm 6) .nil)))) (evSs FT bP) M3 [.sh (.scr ns), .sh (.int d), .sh tq, .sh (.int s), .no, .no, .no, .sh (.tup M), .no, .no, .no, .no, .no, .no] = .ok .nx [.sh (.scr ns), .sh (.int d), .sh tq, .sh (.int s), s4, s5, s6, .sh (.tup M), .no, .no, .no, .no, .no, .no])
    (p2 : FT 1 [.scr ns, .int 2, .int 9] = .ok false (.int z0))
    (hz : 1 + z0 = z)
    (eSm : ∀ (s0 s1 s2 s3 s4 s5 s6 s9 s10 s11 : Slot), evE FT cSm [s0, s1, s2, s3, s4, s5, s6, .sh (.tup M), .sh (.int z), s9, s10, s11, .no, .no] = .ok (true, .lst CN) [s0, s1, s2, s3, s4, s5, s6, .sh (.tup M), .sh (.int z), s9, s10, s11, .no, .no])
    (sm : sumB [.lst CN] = some (false, .int n))
    (hn : (M.length : Int) = n)
    (cl1 : FT 17 [.tup M, .int z] = .ok true (.lst CL))
    (ss : sortedSetB [.lst CL] = some (true, .lst UP))
    (eCl : ∀ (s0 s1 s2 s3 s4 s5 s6 s9 s10 s11 : Slot), evE FT cCl [s0, s1, s2, s3, s4, s5, s6, .sh (.tup M), .sh (.int z), s9, s10, s11, .no, .no] = .ok (true, .lst UP) [s0, s1, s2, s3, s4, s5, s6, .sh (.tup M), .sh (.int z), s9, s10, s11, .no, .no])
    (eU : eqD (.lst UP) (.lst UP) = some true)
    (eMn : ∀ (s4 s5 s6 : Slot), isOw s4 = false → isOw s5 = false → isOw s6 = false → evE FT cMn [.sh (.scr ns), .sh (.int d), .sh tq, .sh (.int s), s4, s5, s6, .sh (.tup M), .sh (.int z), .no, .no, .no, .no, .no] = .ok (true, .lst MN) [.sh (.scr ns), .sh (.int d), .sh tq, .sh (.int s), s4, s5, s6, .sh (.tup M), .sh (.int z), .no, .no, .no, .no, .no])
    (mnB : minB [.lst MN] = some (false, .int mn))
    (hN : ¬ mn < -90 → FT 15 [.tup M, .int z] = .ok false (.tup MS) ∧ FT 17 [.tup MS, .int z] = .ok true (.lst CL) ∧ ∀ s4 s5 s6 : Slot, ∃ s9 s10, forGo (.tup (.cons (.nm 9) (.cons (.nm 10) .nil))) (evSs FT bQ) PR [.sh (.scr ns), .sh (.int d), .sh tq, .sh (.int s), s4, s5, s6, .sh (.tup M), .sh (.int z), .no, .no, .no, .no, .no] = .ok .nx [.sh (.scr ns), .sh (.int d), .sh tq, .sh (.int s), s4, s5, s6, .sh (.tup M), .sh (.int z), s9, s10, .no, .no, .no])
    (hZ : zipD M MS = PR)
    (eC : eqD (.lst CL) (.lst CL) = some true)
    : endOf (evSs FT b19 [.sh (.scr ns), .no, .no, .no, .no, .no, .no, .no, .no, .no, .no, .no, .no, .no]) = .ok false (.bl true) := by
  obtain ⟨s4, s5, s6, h4, h5, h6, fF⟩ := hF
  have q1 : evS FT (.asg (.tup (.cons (.nm 1) (.cons (.nm 2) .nil))) (.tup (.cons (.bin .add (.c (.int 1)) (.call 1 (.cons (.v 0) (.cons (.c (.int 0)) (.cons (.c (.int 20)) .nil))))) (.cons (.call 12 (.cons (.v 0) (.cons (.c (.int 100)) (.cons (.c (.int 12)) .nil)))) .nil)))) [.sh (.scr ns), .no, .no, .no, .no, .no, .no, .no, .no, .no, .no, .no, .no, .no] = .ok .nx [.sh (.scr ns), .sh (.int d), .sh tq, .no, .no, .no, .no, .no, .no, .no, .no, .no, .no, .no] := by simp [p0, hs, hd]
  have q2 : evS FT (.asg (.nm 3) (.call 1 (.cons (.v 0) (.cons (.c (.int 1)) (.cons (.c (.int 50)) .nil))))) [.sh (.scr ns), .sh (.int d), .sh tq, .no, .no, .no, .no, .no, .no, .no, .no, .no, .no, .no] = .ok .nx [.sh (.scr ns), .sh (.int d), .sh tq, .sh (.int s), .no, .no, .no, .no, .no, .no, .no, .no, .no, .no] := by simp [p1]
  have q3 : evS FT (.asg (.nm 7) (.bi .tuple (.cons cMk .nil))) [.sh (.scr ns), .sh (.int d), .sh tq, .sh (.int s), .no, .no, .no, .no, .no, .no, .no, .no, .no, .no] = .ok .nx [.sh (.scr ns), .sh (.int d), .sh tq, .sh (.int s), .no, .no, .no, .sh (.tup M), .no, .no, .no, .no, .no, .no] := by
    have c := eM
    have O : ∀ st, opnd cMk (evE FT cMk) st = (evE FT cMk st).th fun a st => .ok (.val a.2) st := fun _ => rfl
    generalize cMk = C at *
    simp [c, O, tupleB, seqD, sh1]
  have q4 : evS FT (.iff (.or (.cmp .ne (.call 11 (.cons (.v 7) (.cons (.v 1) .nil))) (.v 7)) (.cmp .ne (.call 11 (.cons (.v 7) (.cons (.bin .mul (.c (.int 2)) (.v 1)) .nil))) (.even (.v 7)))) (.cons (.ret (.c (.bl false))) .nil) .nil) [.sh (.scr ns), .sh (.int d), .sh tq, .sh (.int s), .no, .no, .no, .sh (.tup M), .no, .no, .no, .no, .no, .no] = .ok .nx [.sh (.scr ns), .sh (.int d), .sh tq, .sh (.int s), .no, .no, .no, .sh (.tup M), .no, .no, .no, .no, .no, .no] := by simp [e1, e2, m2, evE_ev, hv, eA, eB]
  have q5 : evS FT (.for_ (.tup (.cons (.nm 4) (.cons (.nm 5) (.cons (.nm 6) .nil)))) .seq (.cons (.call 11 (.cons (.v 7) (.cons (.bin .mul (.c (.int 3)) (.v 1)) .nil))) .nil) bP) [.sh (.scr ns), .sh (.int d), .sh tq, .sh (.int s), .no, .no, .no, .sh (.tup M), .no, .no, .no, .no, .no, .no] = .ok .nx [.sh (.scr ns), .sh (.int d), .sh tq, .sh (.int s), s4, s5, s6, .sh (.tup M), .no, .no, .no, .no, .no, .no] := evS_for_nx (ds := [.tup M3]) (by simp [e3, m3]) rfl fF
  have q6 : evS FT (.asg (.nm 8) (.bin .add (.c (.int 1)) (.call 1 (.cons (.v 0) (.cons (.c (.int 2)) (.cons (.c (.int 9)) .nil)))))) [.sh (.scr ns), .sh (.int d), .sh tq, .sh (.int s), s4, s5, s6, .sh (.tup M), .no, .no, .no, .no, .no, .no] = .ok .nx [.sh (.scr ns), .sh (.int d), .sh tq, .sh (.int s), s4, s5, s6, .sh (.tup M), .sh (.int z), .no, .no, .no, .no, .no] := by simp [p2, hz]
  have q7 : evS FT (.iff (.cmp .ne (.bi .sum (.cons cSm .nil)) (.bi .len (.cons (.v 7) .nil))) (.cons (.ret (.c (.bl false))) .nil) .nil) [.sh (.scr ns), .sh (.int d), .sh tq, .sh (.int s), s4, s5, s6, .sh (.tup M), .sh (.int z), .no, .no, .no, .no, .no] = .ok .nx [.sh (.scr ns), .sh (.int d), .sh tq, .sh (.int s), s4, s5, s6, .sh (.tup M), .sh (.int z), .no, .no, .no, .no, .no] := by
    have c := eSm (.sh (.scr ns)) (.sh (.int d)) (.sh tq) (.sh (.int s)) s4 s5 s6 .no .no .no
    have O : ∀ st, opnd cSm (evE FT cSm) st = (evE FT cSm st).th fun a st => .ok (.val a.2) st := fun _ => rfl
    generalize cSm = C at *
    simp [c, O, sm, hn]
  have q8 : evS FT (.iff (.cmp .ne (.bi .sortedSet (.cons (.call 17 (.cons (.v 7) (.cons (.v 8) .nil))) .nil)) cCl) (.cons (.ret (.c (.bl false))) .nil) .nil) [.sh (.scr ns), .sh (.int d), .sh tq, .sh (.int s), s4, s5, s6, .sh (.tup M), .sh (.int z), .no, .no, .no, .no, .no] = .ok .nx [.sh (.scr ns), .sh (.int d), .sh tq, .sh (.int s), s4, s5, s6, .sh (.tup M), .sh (.int z), .no, .no, .no, .no, .no] := by
    have c := eCl (.sh (.scr ns)) (.sh (.int d)) (.sh tq) (.sh (.int s)) s4 s5 s6 .no .no .no
    have O : ∀ st, opnd cCl (evE FT cCl) st = (evE FT cCl st).th fun a st => .ok (.val a.2) st := fun _ => rfl
    generalize cCl = C at *
    simp [c, O, cl1, ss, eU]
  have eb : b19 = (.cons (.asg (.tup (.cons (.nm 1) (.cons (.nm 2) .nil))) (.tup (.cons (.bin .add (.c (.int 1)) (.call 1 (.cons (.v 0) (.cons (.c (.int 0)) (.cons (.c (.int 20)) .nil))))) (.cons (.call 12 (.cons (.v 0) (.cons (.c (.int 100)) (.cons (.c (.int 12)) .nil)))) .nil)))) (.cons (.asg (.nm 3) (.call 1 (.cons (.v 0) (.cons (.c (.int 1)) (.cons (.c (.int 50)) .nil))))) (.cons (.asg (.nm 7) (.bi .tuple (.cons cMk .nil))) (.cons (.iff (.or (.cmp .ne (.call 11 (.cons (.v 7) (.cons (.v 1) .nil))) (.v 7)) (.cmp .ne (.call 11 (.cons (.v 7) (.cons (.bin .mul (.c (.int 2)) (.v 1)) .nil))) (.even (.v 7)))) (.cons (.ret (.c (.bl false))) .nil) .nil) (.cons (.for_ (.tup (.cons (.nm 4) (.cons (.nm 5) (.cons (.nm 6) .nil)))) .seq (.cons (.call 11 (.cons (.v 7) (.cons (.bin .mul (.c (.int 3)) (.v 1)) .nil))) .nil) bP) (.cons (.asg (.nm 8) (.bin .add (.c (.int 1)) (.call 1 (.cons (.v 0) (.cons (.c (.int 2)) (.cons (.c (.int 9)) .nil)))))) (.cons (.iff (.cmp .ne (.bi .sum (.cons cSm .nil)) (.bi .len (.cons (.v 7) .nil))) (.cons (.ret (.c (.bl false))) .nil) .nil) (.cons (.iff (.cmp .ne (.bi .sortedSet (.cons (.call 17 (.cons (.v 7) (.cons (.v 8) .nil))) .nil)) cCl) (.cons (.ret (.c (.bl false))) .nil) .nil) (.cons (.iff (.cmp .lt (.bi .min (.cons cMn .nil)) (.neg (.c (.int 90)))) (.cons (.ret (.c (.bl true))) .nil) .nil) (.cons (.for_ (.tup (.cons (.nm 9) (.cons (.nm 10) .nil))) .zip (.cons (.v 7) (.cons (.call 15 (.cons (.v 7) (.cons (.v 8) .nil))) .nil)) bQ) (.cons (.ret (.cmp .eq (.call 17 (.cons (.call 15 (.cons (.v 7) (.cons (.v 8) .nil))) (.cons (.v 8) .nil))) (.call 17 (.cons (.v 7) (.cons (.v 8) .nil))))) .nil))))))))))) := rfl
  rw [eb]
  rw [evSs_cons, q1, th_ok']; dsimp only
  rw [evSs_cons, q2, th_ok']; dsimp only
  rw [evSs_cons, q3, th_ok']; dsimp only
  rw [evSs_cons, q4, th_ok']; dsimp only
  rw [evSs_cons, q5, th_ok']; dsimp only
  rw [evSs_cons, q6, th_ok']; dsimp only
  rw [evSs_cons, q7, th_ok']; dsimp only
  rw [evSs_cons, q8, th_ok']; dsimp only
  by_cases hmn : mn < -90
  · have c := eMn s4 s5 s6 h4 h5 h6
    have O : ∀ st, opnd cMn (evE FT cMn) st = (evE FT cMn st).th fun a st => .ok (.val a.2) st := fun _ => rfl
    generalize cMn = C at *
    simp [c, O, mnB, hmn]
  · obtain ⟨sn, cl2, fG⟩ := hN hmn
    obtain ⟨s9, s10, fG⟩ := fG s4 s5 s6
    have q9 : evS FT (.iff (.cmp .lt (.bi .min (.cons cMn .nil)) (.neg (.c (.int 90)))) (.cons (.ret (.c (.bl true))) .nil) .nil) [.sh (.scr ns), .sh (.int d), .sh tq, .sh (.int s), s4, s5, s6, .sh (.tup M), .sh (.int z), .no, .no, .no, .no, .no] = .ok .nx [.sh (.scr ns), .sh (.int d), .sh tq, .sh (.int s), s4, s5, s6, .sh (.tup M), .sh (.int z), .no, .no, .no, .no, .no] := by
      have c := eMn s4 s5 s6 h4 h5 h6
      have O : ∀ st, opnd cMn (evE FT cMn) st = (evE FT cMn st).th fun a st => .ok (.val a.2) st := fun _ => rfl
      generalize cMn = C at *
      simp [c, O, mnB, hmn]
    have q10 : evS FT (.for_ (.tup (.cons (.nm 9) (.cons (.nm 10) .nil))) .zip (.cons (.v 7) (.cons (.call 15 (.cons (.v 7) (.cons (.v 8) .nil))) .nil)) bQ) [.sh (.scr ns), .sh (.int d), .sh tq, .sh (.int s), s4, s5, s6, .sh (.tup M), .sh (.int z), .no, .no, .no, .no, .no] = .ok .nx [.sh (.scr ns), .sh (.int d), .sh tq, .sh (.int s), s4, s5, s6, .sh (.tup M), .sh (.int z), s9, s10, .no, .no, .no] := evS_for_nx (ds := [.tup M, .tup MS]) (by simp [sn]) (by show some (zipD M MS) = _; rw [hZ]) fG
    rw [evSs_cons, q9, th_ok']; dsimp only
    rw [evSs_cons, q10, th_ok']; dsimp only
    simp [sn, cl1, cl2, eC]
theorem bP_ok {FT : Nat → List D → FR} {t : D} {q : Pt} (h : FT 9 [t, .int q.1] = .ok false (plQ q)) (s0 s1 s2 s3 s8 s9 s10 s11 s12 s13 : Slot) : evSs FT bP [s0, s1, s2, s3, .sh (.int q.1), .sh (.int q.2.1), .sh (.int q.2.2), .sh t, s8, s9, s10, s11, s12, s13] = .ok .nx [s0, s1, s2, s3, .sh (.int q.1), .sh (.int q.2.1), .sh (.int q.2.2), .sh t, s8, s9, s10, s11, s12, s13] := by
  have e := eqD_self (d := plQ q) (by unfold plQ; rfl)
  unfold plQ at h e
  simp [bP, h, e]
theorem bQ_ok {FT : Nat → List D → FR} {q : Pt} {z : Int} (hz : 1 ≤ z) (s0 s1 s2 s3 s4 s5 s6 s7 s11 s12 s13 : Slot) : evSs FT bQ [s0, s1, s2, s3, s4, s5, s6, s7, .sh (.int z), .sh (pD q), .sh (pD (snapP z q)), s11, s12, s13] = .ok .nx [s0, s1, s2, s3, s4, s5, s6, s7, .sh (.int z), .sh (pD q), .sh (pD (snapP z q)), s11, s12, s13] := by
  have key : ∀ x : Int, 0 ≤ x - x / z * z ∧ x - x / z * z < z := fun x => by
    have h1 := Int.emod_nonneg x (show z ≠ 0 by omega)
    have h2 := Int.emod_lt_of_pos x (show 0 < z by omega)
    have h3 := Int.mul_ediv_add_emod x z
    rw [Int.mul_comm] at h3
    omega
  have k1 := key q.2.1
  have k2 := key q.2.2
  unfold pD snapP
  dsimp only
  generalize q.2.1 / z * z = a at *
  generalize q.2.2 / z * z = b at *
  have g1 : a ≤ q.2.1 := by omega
  have g2 : b ≤ q.2.2 := by omega
  simp [bQ, g1, g2, k1.2, k2.2]
theorem zip_snap (f : Pt → Pt) : ∀ ps : List Pt, zipD (ps.map pD) ((ps.map f).map pD) = ps.map fun q => .tup [pD q, pD (f q)]
  | [] => rfl
  | a :: r => by simp only [List.map_cons, zipD, zip_snap f r]
theorem holds (ns : List Int) (_h : ns.length ≤ 63) : runL (PTof rows) depth 19 [.scr ns] = .ok false (.bl true) := by
  show runL (PTof rows) (19 + 1) 19 [.scr ns] = _
  rw [runL_at (d := ⟨1, 14, b19⟩) ⟨r19, rfl, rfl⟩ rfl]
  obtain ⟨a0, p0, u0, v0⟩ := W.at (k := 17) ns 0 (by decide) (show (0 : Int) < 20 by decide)
  obtain ⟨qs, hs, hqs, hl1, hl2⟩ := run_draw (k := 16) W (g := 12) ⟨r12, rfl, rfl⟩ ns 100 12 (by decide) (by decide) (by decide)
  obtain ⟨s, p1, u1, v1⟩ := W.at (k := 17) ns 1 (by decide) (show (0 : Int) < 50 by decide)
  obtain ⟨z0, p2, u2, v2⟩ := W.at (k := 17) ns 2 (by decide) (show (0 : Int) < 9 by decide)
  obtain ⟨d, hd⟩ : ∃ d : Nat, 1 + a0 = (d : Int) := ⟨(1 + a0).toNat, by omega⟩
  have hd1 : 1 ≤ d ∧ d ≤ 20 := by omega
  obtain ⟨z, hz⟩ : ∃ z, 1 + z0 = z := ⟨_, rfl⟩
  have hz9 : 1 ≤ z ∧ z ≤ 9 := by omega
  obtain ⟨ps, eps⟩ : ∃ ps, ps = mkT s (d : Int) qs := ⟨_, rfl⟩
  have ok : okT ps = true := by rw [eps]; exact mkT_ok hqs ⟨u1, v1⟩ hd1
  have ev : evenT s d ps := by rw [eps]; exact mkT_even
  have hn := okT_len ok
  have E1 := f_every (k := 13) ok hd1.1 (m := 1) (by decide) (by omega) ev
  have E2 := f_every (k := 13) ok hd1.1 (m := 2) (by decide) (by omega) ev
  have E3 := f_every (k := 13) ok hd1.1 (m := 3) (by decide) (by omega) ev
  rw [every1 ps hn.1, Nat.one_mul] at E1
  rw [every2 ps hn.1, Int.natCast_mul] at E2
  rw [Int.natCast_mul] at E3
  have eM := e_mk (FT := runL (PTof rows) 19) (s := s) (d := (d : Int)) hl2 (by omega) (.sh (.scr ns)) .no .no .no .no .no .no
  rw [← eps] at eM
  have lU : (sortU (someC z ps)).length ≤ 12 := Nat.le_trans (sortU_len _) (by unfold someC; rw [List.length_map]; exact hn.2)
  have oft := f_often (k := 14) ok (z := z) (by omega)
  have eSm := e_sm (FT := runL (PTof rows) 19) lU oft
  have eCl := e_cl (FT := runL (PTof rows) 19) lU oft
  have sm : sumB [.lst ((sortU (someC z ps)).map fun x => D.int ((someC z ps).count x : Nat))] = some (false, .int (ps.length : Nat)) := by
    rw [sumB_map]
    have h1 := sum_count (sortU (someC z ps)) (someC z ps) ((List.mergeSort_perm _ _).nodup_iff.mpr (dedP_nodup _)) (fun x hx => mem_sortU.mpr hx)
    have h2 : (someC z ps).length = ps.length := by unfold someC; rw [List.length_map]
    rw [h2] at h1
    rw [← h1]
    congr 3
    generalize sortU (someC z ps) = U
    induction U with
    | nil => rfl
    | cons a r ih => simp only [List.map_cons, List.sum_cons, ih]; omega
  have c1 := f_cells (k := 14) ok (z := z) (by omega)
  have ss := sortedSetB_pl (l := cellsL (someC z ps)) (by
    unfold cellsL
    rw [List.length_map]
    have := List.length_filter_le (newAt (someC z ps)) (List.range (someC z ps).length)
    rw [List.length_range] at this
    have h2 : (someC z ps).length = ps.length := by unfold someC; rw [List.length_map]
    omega)
  rw [sortU_cells] at ss
  obtain ⟨a, r, ea⟩ : ∃ a r, ps = a :: r := by cases ps with | nil => simp at hn | cons a r => exact ⟨a, r, rfl⟩
  have mB := minB_map mnQ a r
  rw [← ea] at mB
  have msp : ∀ x ∈ ps.map mnQ, minI (ps.map mnQ) ≤ x := by rw [ea]; exact (minI_spec (mnQ a) (r.map mnQ)).2
  have hN : ¬ minI (ps.map mnQ) < -90 → okT (ps.map (snapP z)) = true := fun hm => snap_ok ok hz9 fun q hq => by
    have := msp (mnQ q) (List.mem_map_of_mem hq)
    have kq : mnQ q ≤ q.2.1 ∧ mnQ q ≤ q.2.2 := by unfold mnQ; split <;> omega
    omega
  have hZ := zip_snap (snapP z) ps
  obtain ⟨st3, fF, s4, s5, s6, h4, h5, h6, rfl⟩ := forGo_ix (tg := .tup (.cons (.nm 4) (.cons (.nm 5) (.cons (.nm 6) .nil)))) (b := evSs (runL (PTof rows) 19) bP) (enc := pD) (I := fun _ st => ∃ s4 s5 s6 : Slot, isOw s4 = false ∧ isOw s5 = false ∧ isOw s6 = false ∧ st = [.sh (.scr ns), .sh (.int (d : Int)), .sh (trD qs), .sh (.int s), s4, s5, s6, .sh (trD ps), .no, .no, .no, .no, .no, .no])
    (everyL 3 ps ((ps.length - 1) / 3 + 1)) 0 [.sh (.scr ns), .sh (.int (d : Int)), .sh (trD qs), .sh (.int s), .no, .no, .no, .sh (trD ps), .no, .no, .no, .no, .no, .no]
    (fun j q st hj hI => by
      obtain ⟨s4, s5, s6, h4, h5, h6, rfl⟩ := hI
      have hm : ∃ i, i < ps.length ∧ q = ps.getD i (0, 0, 0) := by
        have := List.mem_of_getElem? hj
        unfold everyL at this
        obtain ⟨i, hi, rfl⟩ := List.mem_map.mp this
        have hi := List.mem_range.mp hi
        exact ⟨3 * i, by omega, rfl⟩
      obtain ⟨i, hi, rfl⟩ := hm
      have po := f_pos (k := 14) ok hi
      exact ⟨_, _, by simp [pD], bP_ok po _ _ _ _ _ _ _ _ _ _, _, _, _, rfl, rfl, rfl, rfl⟩) ⟨.no, .no, .no, rfl, rfl, rfl, rfl⟩
  have hG : ∀ s4 s5 s6 : Slot, ∃ s9 s10 : Slot, forGo (.tup (.cons (.nm 9) (.cons (.nm 10) .nil))) (evSs (runL (PTof rows) 19) bQ) (ps.map fun q => .tup [pD q, pD (snapP z q)]) [.sh (.scr ns), .sh (.int (d : Int)), .sh (trD qs), .sh (.int s), s4, s5, s6, .sh (trD ps), .sh (.int z), .no, .no, .no, .no, .no] = .ok .nx [.sh (.scr ns), .sh (.int (d : Int)), .sh (trD qs), .sh (.int s), s4, s5, s6, .sh (trD ps), .sh (.int z), s9, s10, .no, .no, .no] := fun s4 s5 s6 => by
    obtain ⟨st4, gF, s9, s10, h9, h10, rfl⟩ := forGo_ix (tg := .tup (.cons (.nm 9) (.cons (.nm 10) .nil))) (b := evSs (runL (PTof rows) 19) bQ) (enc := fun q => .tup [pD q, pD (snapP z q)]) (I := fun _ st => ∃ s9 s10 : Slot, isOw s9 = false ∧ isOw s10 = false ∧ st = [.sh (.scr ns), .sh (.int (d : Int)), .sh (trD qs), .sh (.int s), s4, s5, s6, .sh (trD ps), .sh (.int z), s9, s10, .no, .no, .no])
      ps 0 [.sh (.scr ns), .sh (.int (d : Int)), .sh (trD qs), .sh (.int s), s4, s5, s6, .sh (trD ps), .sh (.int z), .no, .no, .no, .no, .no]
      (fun j q st hj hI => by
        obtain ⟨s9, s10, h9, h10, rfl⟩ := hI
        exact ⟨[.sh (.scr ns), .sh (.int (d : Int)), .sh (trD qs), .sh (.int s), s4, s5, s6, .sh (trD ps), .sh (.int z), .sh (pD q), .sh (pD (snapP z q)), .no, .no, .no], _, by simp, bQ_ok (by omega) _ _ _ _ _ _ _ _ _ _ _, _, _, rfl, rfl, rfl⟩) ⟨.no, .no, rfl, rfl, rfl⟩
    exact ⟨s9, s10, gF⟩
  have hv : evens (ps.map pD) = (evens ps).map pD := evens_map pD ps
  have snp : ¬ minI (ps.map mnQ) < -90 → _ := fun hm => And.intro (f_snap (k := 13) ok (z := z) (by omega) (hN hm)) (f_cells (k := 14) (hN hm) (z := z) (by omega))
  simp only [snap_cells hz9.1] at snp
  exact law34 (FT := runL (PTof rows) 19) p0 hd hs p1 eM E1 (mulOk_l (by decide)) E2 hv (eqD_self (clean_trD ps)) (eqD_self (clean_trD _)) (mulOk_l (by decide)) E3 ⟨s4, s5, s6, h4, h5, h6, fF⟩ p2 hz eSm sm (by rw [List.length_map]) c1 ss eCl (eqD_self (clean_pls _))
    (fun s4 s5 s6 h4 h5 h6 => e_mn hn.2 _ _ _ _ s4 s5 s6 _ _ _ _ _ _ h4 h5 h6) mB (fun hm => ⟨(snp hm).1, (snp hm).2, hG⟩) hZ (eqD_self (clean_pls _))
end K34
set_option maxRecDepth 100000
open PySem PySem.W PyProof.Rows
set_option maxRecDepth 100000 in
set_option maxHeartbeats 0 in
theorem PySem.Challenge.cw_tracklines_k34_whole_grids_held_holds : PySem.Challenge.rw_tracklines_k34_whole_grids_held.Holds := by
  w_on; o_law; k_head; (case hw => w_witness2)
  k_fill
  refine PD.walkPD (l := PySem.Challenge.rw_tracklines_k34_whole_grids_held) (n := 63) (k := K34.depth) (f := 19) (rows := K34.rows) (ex := K34.ex) (gl := K34.gl) (ei := false) (r := K34.r19) (x := "_law_script") rfl (by decide) rfl ⟨rfl, by decide, by decide⟩ rfl rfl rfl (fun w h Y => PySem.W.kIn_of Y) K34.stat ?F K34.holds
  case F =>
    intro w mg h KX G
    refine' K34.facts KX G ?n0 ?l0 ?d0 ?k0 ?n1 ?l1 ?d1 ?k1 ?n2 ?l2 ?d2 ?k2 ?n3 ?l3 ?d3 ?k3 ?n4 ?l4 ?d4 ?k4 ?n5 ?l5 ?d5 ?k5 ?n6 ?l6 ?d6 ?k6 ?n7 ?l7 ?d7 ?k7 ?n8 ?l8 ?d8 ?k8 ?n9 ?l9 ?d9 ?k9 ?n10 ?l10 ?d10 ?k10 ?n11 ?l11 ?d11 ?k11 ?n12 ?l12 ?d12 ?k12 ?n13 ?l13 ?d13 ?k13 ?n14 ?l14 ?d14 ?k14 ?n15 ?l15 ?d15 ?k15 ?n16 ?l16 ?d16 ?k16 ?n17 ?l17 ?d17 ?k17 ?n18 ?l18 ?d18 ?k18 ?n19 ?l19 ?d19 ?k19 ?e0 ?x0 ?y0 ?s0 ?t0 ?e1 ?x1 ?y1 ?s1 ?t1 ?e2 ?x2 ?y2 ?s2 ?t2 ?e3 ?x3 ?y3 ?s3 ?t3 ?gg0 ?gg1 ?gg2 ?gg3 ?b_range ?b_len ?b_abs ?b_min ?b_max ?b_sum ?b_any ?b_all ?b_sorted ?b_tuple ?b_list ?b_dict ?b_int ?b_str ?b_set ?b_zip ?b_enumerate ?b_isinstance ?b_bool ?b_ValueError
    (case n0 => k_is)
    (case l0 => k_is)
    (case d0 => k_is)
    (case k0 => k_is)
    (case n1 => k_is)
    (case l1 => k_is)
    (case d1 => k_is)
    (case k1 => k_is)
    (case n2 => k_is)
    (case l2 => k_is)
    (case d2 => k_is)
    (case k2 => k_is)
    (case n3 => k_is)
    (case l3 => k_is)
    (case d3 => k_is)
    (case k3 => k_is)
    (case n4 => k_is)
    (case l4 => k_is)
    (case d4 => k_is)
    (case k4 => k_is)
    (case n5 => k_is)
    (case l5 => k_is)
    (case d5 => k_is)
    (case k5 => k_is)
    (case n6 => k_is)
    (case l6 => k_is)
    (case d6 => k_is)
    (case k6 => k_is)
    (case n7 => k_is)
    (case l7 => k_is)
    (case d7 => k_is)
    (case k7 => k_is)
    (case n8 => k_is)
    (case l8 => k_is)
    (case d8 => k_is)
    (case k8 => k_is)
    (case n9 => k_is)
    (case l9 => k_is)
    (case d9 => k_is)
    (case k9 => k_is)
    (case n10 => k_is)
    (case l10 => k_is)
    (case d10 => k_is)
    (case k10 => k_is)
    (case n11 => k_is)
    (case l11 => k_is)
    (case d11 => k_is)
    (case k11 => k_is)
    (case n12 => k_is)
    (case l12 => k_is)
    (case d12 => k_is)
    (case k12 => k_is)
    (case n13 => k_is)
    (case l13 => k_is)
    (case d13 => k_is)
    (case k13 => k_is)
    (case n14 => k_is)
    (case l14 => k_is)
    (case d14 => k_is)
    (case k14 => k_is)
    (case n15 => k_is)
    (case l15 => k_is)
    (case d15 => k_is)
    (case k15 => k_is)
    (case n16 => k_is)
    (case l16 => k_is)
    (case d16 => k_is)
    (case k16 => k_is)
    (case n17 => k_is)
    (case l17 => k_is)
    (case d17 => k_is)
    (case k17 => k_is)
    (case n18 => k_is)
    (case l18 => k_is)
    (case d18 => k_is)
    (case k18 => k_is)
    (case n19 => k_is)
    (case l19 => k_is)
    (case d19 => k_is)
    (case k19 => k_is)
    (case e0 => k_is)
    (case x0 => k_exc)
    (case y0 => k_is)
    (case s0 => k_is)
    (case t0 => k_is)
    (case e1 => k_is)
    (case x1 => k_exc)
    (case y1 => k_is)
    (case s1 => k_is)
    (case t1 => k_is)
    (case e2 => k_is)
    (case x2 => k_exc)
    (case y2 => k_is)
    (case s2 => k_is)
    (case t2 => k_is)
    (case e3 => k_is)
    (case x3 => k_exc)
    (case y3 => k_is)
    (case s3 => k_is)
    (case t3 => k_is)
    (case gg0 => k_is)
    (case gg1 => k_is)
    (case gg2 => k_is)
    (case gg3 => k_is)
    (case b_range => k_is)
    (case b_len => k_is)
    (case b_abs => k_is)
    (case b_min => k_is)
    (case b_max => k_is)
    (case b_sum => k_is)
    (case b_any => k_is)
    (case b_all => k_is)
    (case b_sorted => k_is)
    (case b_tuple => k_is)
    (case b_list => k_is)
    (case b_dict => k_is)
    (case b_int => k_is)
    (case b_str => k_is)
    (case b_set => k_is)
    (case b_zip => k_is)
    (case b_enumerate => k_is)
    (case b_isinstance => k_is)
    (case b_bool => k_is)
    (case b_ValueError => k_is)
#print axioms PySem.Challenge.cw_tracklines_k34_whole_grids_held_holds
