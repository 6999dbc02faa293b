import PyProof.Rows.All
import Wide.All
import OpenK.AllK
import Wide.FinOn
import KE.KStateDown
import Lean
import HandS.ForMost
import HandS.ForExc
import HandS.Wide
import HandS.WideBits
import HandS.TupAny
import HandS.Deep
import HandS.IsInst
import HandS.Codes
import HandS.Conv
import HandS.Zip
import HandS.Walk
import HandS.CallSlots
import HandS.Defaults
import HandS.TupLe
import HandS.Sort
import HandS.SortInts
import HandS.SortRule
import HandS.Dict
import HandS.HeadHook1
import HandS.Lambda
import PyProof.LongRange
import HandS.TupMul
import HandS.SetFor
import HandS.Strs
import PyProof.FactsAll.subtypes_4
import KE.DataMinMax
import PyProof.ListStr
import PyProof.TupleOfStr
import PyProof.NeKinds
import KE.DataCmp
import HandS.Style
import PyProof.Rows.RegReprOcc
import HandS.SortKw
import KE.DataMinKey
import HandS.ExcIs
import HandS.ExcField
import HandS.ExcOwn
import HandS.HotCalls
import KE.KExcIs
import HandS.Text
import HandS.StrMore
import HandS.StrSplit
import KE.GoesMore
import KE.GoesEnum
import KE.GoesZip
import HandS.NoneIn
import HandS.Small
import HandS.TryOnly
import HandS.Head0
import HandS.Head1
import HandS.Head2
import HandS.HeadEnd
import HandS.EndBits
import HandS.HeadHook2
import HandS.HeadHook4
import HandS.EndTab
import PySem.Challenge.RW_besideseats_k10_halls_written_and_read
set_option Elab.async false
set_option linter.all false
set_option maxRecDepth 100000
section
/-! PsCore: data without a heap, a small language over slots, what it computes. Nothing of the model. -/
namespace Ps
inductive D where
  | non
  | bl (b : Bool)
  | int (i : Int)
  | str (s : List Nat)
  | tup (xs : List D)
  | lst (xs : List D)
  | dic (kvs : List (D × D))
  | dik (kvs : List (D × D))
  | obj (c : String) (fs : List (String × D))
deriving Inhabited
inductive Res (α : Type) where
  | ok (a : α)
  | exc (c : String) (ps : List D)
  | stuck
def Res.bind {α β : Type} (r : Res α) (f : α → Res β) : Res β :=
  match r with
  | .ok a => f a
  | .exc c ps => .exc c ps
  | .stuck => .stuck
@[simp] theorem Res.bind_ok {α β : Type} (a : α) (f : α → Res β) : (Res.ok a).bind f = f a := rfl
@[simp] theorem Res.bind_exc {α β : Type} (c : String) (ps : List D) (f : α → Res β) : (Res.exc c ps).bind f = .exc c ps := rfl
@[simp] theorem Res.bind_stuck {α β : Type} (f : α → Res β) : (Res.stuck : Res α).bind f = .stuck := rfl
abbrev Rho := List (Option D)
def getv (ρ : Rho) (i : Nat) : Res D :=
  match ρ[i]? with
  | some (some d) => .ok d
  | _ => .stuck
def wipeE (ρ : Rho) : List Nat → Rho
  | [] => ρ
  | v :: vs => (wipeE ρ vs).set v none
/-- the longest that a sequence may be -/
def SZ : Nat := 16777216
/-- the place that an index tells -/
def ixP (n : Nat) (i : Int) : Option Nat :=
  if 0 ≤ i then (if i < n then some i.toNat else none)
  else (if -(n : Int) ≤ i then some (i + n).toNat else none)
def atP {α : Type} (xs : List α) (i : Int) : Option α := (ixP xs.length i).bind fun j => xs[j]?
/-- a slice's bound -/
def bndP (n d : Nat) : Option Int → Nat
  | none => d
  | some v => if v < 0 then (v + n).toNat else min v.toNat n
def cutP {α : Type} (xs : List α) (lo hi : Option Int) : List α :=
  (xs.drop (bndP xs.length 0 lo)).take (bndP xs.length xs.length hi - bndP xs.length 0 lo)
/-- how many bits a number has -/
def bitsI (i : Int) : Nat := if i = 0 then 0 else i.natAbs.log2 + 1
inductive BO where
  | add | sub | mul | fdiv | mod | pow | shl | shr | eq | ne | lt | le | gt | ge | inn | nin | is_ | isn
deriving DecidableEq
mutual
def eqD : D → D → Bool
  | .non, .non => true
  | .bl a, .bl b => a == b
  | .bl a, .int j => (if a then 1 else 0) == j
  | .int i, .bl b => i == (if b then 1 else 0)
  | .int i, .int j => i == j
  | .str x, .str y => x == y
  | .lst xs, .lst ys => eqDs xs ys
  | .tup xs, .tup ys => eqDs xs ys
  | _, _ => false
def eqDs : List D → List D → Bool
  | [], [] => true
  | x :: xs, y :: ys => eqD x y && eqDs xs ys
  | _, _ => false
end
mutual
/-- how deep; a dict is too deep for a comparison -/
def dep : D → Nat
  | .tup xs => deps xs + 1
  | .lst xs => deps xs + 1
  | .dic _ => 1000
  | .dik _ => 1000
  | .obj _ _ => 1000
  | _ => 0
def deps : List D → Nat
  | [] => 0
  | x :: xs => max (dep x) (deps xs)
end
/-- may be compared -/
def cmpB (d : D) : Bool := decide (dep d ≤ 64)
/-- a dict beside a text -/
def dsB : D → D → Bool
  | .dic _, .str _ => true
  | _, _ => false
def eqR (d e : D) : Res Bool := if cmpB d && cmpB e then .ok (eqD d e) else if dsB d e then .ok false else .stuck
/-- what may be a dict's key: a tuple of whole numbers -/
def keyB : D → Bool
  | .tup ds => ds.all fun d => match d with | .int _ => true | _ => false
  | _ => false
/-- a dict with one entry more, or another value -/
def putD (kvs : List (D × D)) (k v : D) : List (D × D) :=
  if (kvs.any fun p => eqD p.1 k) = true then kvs.map (fun p => if eqD p.1 k = true then (p.1, v) else p) else kvs ++ [(k, v)]
def inR (x c : D) : Res Bool :=
  match c with
  | .lst ys => if cmpB x && cmpB c then .ok (ys.any fun y => eqD y x) else .stuck
  | .dic kvs => if keyB x then .ok (kvs.any fun p => eqD p.1 x) else .stuck
  | .tup ys => if cmpB x && cmpB c then .ok (ys.any fun y => eqD y x) else .stuck
  | .str s => match x with
    | .str [z] => .ok (s.any fun c => c == z)
    | _ => .stuck
  | _ => .stuck
def intR (a b : D) (f : Int → Int → Res D) : Res D :=
  match a, b with
  | .int i, .int j => f i j
  | _, _ => .stuck
def addR : D → D → Res D
  | .int i, .int j => .ok (.int (i + j))
  | .str x, .str y => if x.length + y.length ≤ SZ then .ok (.str (x ++ y)) else .stuck
  | .tup x, .tup y => if x.length + y.length ≤ SZ then .ok (.tup (x ++ y)) else .stuck
  | .lst x, .lst y => if x.length + y.length ≤ SZ then .ok (.lst (x ++ y)) else .stuck
  | _, _ => .stuck
def isR : D → D → Res Bool
  | .bl a, .bl b => .ok (a == b)
  | _, _ => .stuck
/-- a product of numbers; a text some times over -/
def mulR : D → D → Res D
  | .int i, .int j => if bitsI i + bitsI j ≤ 134217728 then .ok (.int (i * j)) else .stuck
  | .str s, .int n => if 0 ≤ n ∧ n ≤ 1000000 ∧ s.length * n.toNat ≤ 1000000 then .ok (.str (List.replicate n.toNat s).flatten) else .stuck
  | .tup xs, .int n => if 0 ≤ n ∧ n ≤ 1000 ∧ xs.length ≤ 1000 then .ok (.tup (List.replicate n.toNat xs).flatten) else .stuck
  | _, _ => .stuck
mutual
/-- the two can be compared by order, place by place -/
def alkD : D → D → Bool
  | .non, .non => true
  | .bl _, .bl _ => true
  | .int _, .int _ => true
  | .str _, .str _ => true
  | .lst xs, .lst ys => alkDs xs ys
  | .tup xs, .tup ys => alkDs xs ys
  | _, _ => false
def alkDs : List D → List D → Bool
  | x :: xs, y :: ys => alkD x y && alkDs xs ys
  | [], _ => true
  | _ :: _, [] => true
end
mutual
/-- one is ahead of the other -/
def ltD : D → D → Bool
  | .bl a, .bl b => !a && b
  | .int i, .int j => decide (i < j)
  | .str s, .str t => decide (s < t)
  | .lst xs, .lst ys => ltDs xs ys
  | .tup xs, .tup ys => ltDs xs ys
  | _, _ => false
def ltDs : List D → List D → Bool
  | x :: xs, y :: ys => if eqD x y then ltDs xs ys else ltD x y
  | [], _ :: _ => true
  | _, _ => false
end
/-- a <= b: whole numbers, or tuples that are alike place by place -/
def leR : D → D → Res D
  | .int i, .int j => .ok (.bl (decide (i ≤ j)))
  | .tup xs, .tup ys => if alkDs xs ys = true ∧ alkDs ys xs = true ∧ deps xs ≤ 60 ∧ deps ys ≤ 60 then .ok (.bl (!ltDs ys xs)) else .stuck
  | _, _ => .stuck
def binR : BO → D → D → Res D
  | .add, a, b => addR a b
  | .sub, a, b => intR a b fun i j => .ok (.int (i - j))
  | .mul, a, b => mulR a b
  | .fdiv, a, b => intR a b fun i j => if 0 < j ∧ bitsI j ≤ 9000 then .ok (.int (i / j)) else .stuck
  | .mod, a, b => intR a b fun i j => if 0 < j then .ok (.int (i % j)) else .stuck
  | .pow, a, b => intR a b fun i j => if 0 ≤ j ∧ j ≤ 1000000 ∧ bitsI i ≤ 64 then .ok (.int (i ^ j.toNat)) else .stuck
  | .shl, a, b => intR a b fun i j => if 0 ≤ j ∧ (bitsI i : Int) + j ≤ 134217728 then .ok (.int (i * 2 ^ j.toNat)) else .stuck
  | .shr, a, b => intR a b fun i j => if 0 ≤ j then .ok (.int (i / 2 ^ j.toNat)) else .stuck
  | .lt, a, b => intR a b fun i j => .ok (.bl (decide (i < j)))
  | .le, a, b => leR a b
  | .gt, a, b => intR a b fun i j => .ok (.bl (decide (j < i)))
  | .ge, a, b => intR a b fun i j => .ok (.bl (decide (j ≤ i)))
  | .eq, a, b => (eqR a b).bind fun r => .ok (.bl r)
  | .ne, a, b => (eqR a b).bind fun r => .ok (.bl (!r))
  | .inn, a, b => (inR a b).bind fun r => .ok (.bl r)
  | .nin, a, b => (inR a b).bind fun r => .ok (.bl (!r))
  | .is_, a, b => (isR a b).bind fun r => .ok (.bl r)
  | .isn, a, b => (isR a b).bind fun r => .ok (.bl (!r))
/-- i in range(l, h) -/
def inrR (n : Bool) : D → D → D → Res D
  | .int i, .int l, .int h => .ok (.bl (n != decide (l ≤ i ∧ i < h)))
  | _, _, _ => .stuck
/-- the types that are asked for -/
inductive Ty where
  | str | int | bool | tuple | list
deriving DecidableEq
def isTy : D → Ty → Bool
  | .str _, .str => true
  | .int _, .int => true
  | .bl _, .int => true
  | .bl _, .bool => true
  | .tup _, .tuple => true
  | .lst _, .list => true
  | _, _ => false
def truR : D → Res Bool
  | .non => .ok false
  | .bl b => .ok b
  | .int i => .ok (i != 0)
  | .str s => .ok (!s.isEmpty)
  | .tup xs => .ok (!xs.isEmpty)
  | .lst xs => .ok (!xs.isEmpty)
  | .dic _ => .stuck
  | .dik _ => .stuck
  | .obj _ _ => .stuck
/-- built-in functions and methods of texts, lists, tuples that only read -/
inductive BF where
  | len | tuple | list | int | max2 | min2 | sum | all | max1 | min1 | sorted | str
deriving DecidableEq
/-- methods of a text with one argument, or none -/
inductive SM where
  | join | count | split | part | index | upper
deriving DecidableEq
/-- cut at each c -/
def splC (c : Nat) : List Nat → List Nat → List (List Nat)
  | acc, [] => [acc]
  | acc, x :: r => if x = c then acc :: splC c [] r else splC c (acc ++ [x]) r
/-- cut at the first c -/
def parC (c : Nat) : List Nat → List Nat → Option (List Nat × List Nat)
  | _, [] => none
  | acc, x :: r => if x = c then some (acc, r) else parC c (acc ++ [x]) r
def upC (c : Nat) : Nat := if 97 ≤ c ∧ c ≤ 122 then c - 32 else c
/-- a number's figures, figures' number -/
def decL (n : Nat) : List Nat := (Nat.toDigits 10 n).map Char.toNat
def decV (s : List Nat) : Nat := s.foldl (fun a c => a * 10 + (c - 48)) 0
def figs (s : List Nat) : Bool := s.all fun c => decide (48 ≤ c ∧ c ≤ 57)
def intsD : List D → Option (List Int)
  | [] => some []
  | .int i :: r => (intsD r).map (i :: ·)
  | _ :: _ => none
def boolsD : List D → Option (List Bool)
  | [] => some []
  | .bl i :: r => (boolsD r).map (i :: ·)
  | _ :: _ => none
def strsD : List D → Option (List (List Nat))
  | [] => some []
  | .str i :: r => (strsD r).map (i :: ·)
  | _ :: _ => none
def joinL (sep : List Nat) : List (List Nat) → List Nat
  | [] => []
  | [x] => x
  | x :: y :: r => x ++ sep ++ joinL sep (y :: r)
def ofOpt {α : Type} : Option α → Res α
  | some a => .ok a
  | none => .stuck
def pairsD : List D → Option (List (Int × Int))
  | [] => some []
  | .tup [.int i, .int j] :: r => (pairsD r).map ((i, j) :: ·)
  | _ :: _ => none
def leP (p q : Int × Int) : Bool := decide (p.1 < q.1 ∨ (p.1 = q.1 ∧ p.2 ≤ q.2))
def insB {α : Type} (le : α → α → Bool) (n : α) : List α → List α
  | [] => [n]
  | m :: r => if le n m then n :: m :: r else m :: insB le n r
def srtB {α : Type} (le : α → α → Bool) : List α → List α
  | [] => []
  | n :: r => insB le n (srtB le r)
/-- sorted(x), whole numbers or pairs of them -/
def sortR (xs : List D) : Res D :=
  match intsD xs with
  | some ns => .ok (.lst ((srtB (fun i j => decide (i ≤ j)) ns).map .int))
  | none => (ofOpt (pairsD xs)).bind fun ps => .ok (.lst ((srtB leP ps).map fun p => .tup [.int p.1, .int p.2]))
def isNon : D → Bool
  | .non => true
  | _ => false
/-- each may be compared by order with each -/
def alkP (xs : List D) : Bool := xs.all fun a => !isNon a && xs.all fun b => alkD a b
/-- the first of the least -/
def minDD (x : D) (xs : List D) : D := xs.foldl (fun a y => if ltD y a then y else a) x
def minR : List D → Res D
  | [] => .stuck
  | d :: ds => if alkP (d :: ds) = true ∧ deps (d :: ds) ≤ 64 then .ok (minDD d ds) else .stuck
def min1R (xs : List D) : Res D :=
  match intsD xs with
  | some ns => (ofOpt ns.min?).bind fun m => .ok (.int m)
  | none => minR xs
def bltR : BF → List D → Res D
  | .len, [.str s] => .ok (.int s.length)
  | .len, [.tup xs] => .ok (.int xs.length)
  | .len, [.lst xs] => .ok (.int xs.length)
  | .tuple, [.tup xs] => .ok (.tup xs)
  | .tuple, [.lst xs] => .ok (.tup xs)
  | .list, [.tup xs] => .ok (.lst xs)
  | .tuple, [.str s] => .ok (.tup (s.map fun c => .str [c]))
  | .list, [.str s] => .ok (.lst (s.map fun c => .str [c]))
  | .list, [.lst xs] => .ok (.lst xs)
  | .int, [.int i] => .ok (.int i)
  | .int, [.bl b] => .ok (.int (if b then 1 else 0))
  | .int, [.str s] => if s ≠ [] ∧ s.length ≤ 640 ∧ figs s = true then .ok (.int (decV s : Nat)) else .stuck
  | .str, [.int i] => if 0 ≤ i ∧ bitsI i ≤ 1900 then .ok (.str (decL i.toNat)) else .stuck
  | .max2, [.int i, .int j] => .ok (.int (if j > i then j else i))
  | .min2, [.int i, .int j] => .ok (.int (if j < i then j else i))
  | .sum, [.lst xs] => (ofOpt (intsD xs)).bind fun ns => .ok (.int ns.sum)
  | .all, [.lst xs] => (ofOpt (boolsD xs)).bind fun bs => .ok (.bl (bs.all id))
  | .max1, [.lst xs] => (ofOpt (intsD xs)).bind fun ns => (ofOpt ns.max?).bind fun m => .ok (.int m)
  | .sorted, [.lst xs] => sortR xs
  | .sorted, [.tup xs] => (ofOpt (pairsD xs)).bind fun ps => .ok (.lst ((srtB leP ps).map fun p => .tup [.int p.1, .int p.2]))
  | .min1, [.lst xs] => min1R xs
  | _, _ => .stuck
def joinR (s : List Nat) (xs : List D) : Res D :=
  (ofOpt (strsD xs)).bind fun ss => if (ss.map (·.length)).sum + ss.length * s.length ≤ SZ then .ok (.str (joinL s ss)) else .stuck
def smR : SM → List Nat → D → Res D
  | .join, s, .lst xs => joinR s xs
  | .join, s, .tup xs => joinR s xs
  | .join, _, _ => .stuck
  | .count, s, .str [c] => .ok (.int (s.count c : Nat))
  | .count, _, _ => .stuck
  | .split, s, .str [c] => if c < 256 ∧ s.length + 2 ≤ SZ then .ok (.lst ((splC c [] s).map .str)) else .stuck
  | .split, _, _ => .stuck
  | .part, s, .str [c] => if c < 256 ∧ s.length ≤ SZ then .ok (match parC c [] s with
    | some (a, b) => .tup [.str a, .str [c], .str b]
    | none => .tup [.str s, .str [], .str []]) else .stuck
  | .part, _, _ => .stuck
  | .index, s, .str [c] => if c < 256 then (match parC c [] s with
    | some (a, _) => .ok (.int (a.length : Nat))
    | none => .stuck) else .stuck
  | .index, _, _ => .stuck
  | .upper, s, .non => if s.length ≤ 5000000 ∧ (s.all fun c => decide (c < 128)) = true then .ok (.str (s.map upC)) else .stuck
  | .upper, _, _ => .stuck
/-- a list some times over -/
def repR (xs : List D) (n : D) : Res D :=
  match n with
  | .int n => if n ≤ 1000000 ∧ -1000000 ≤ n ∧ xs.length * n.toNat ≤ SZ then .ok (.lst (List.replicate n.toNat xs).flatten) else .stuck
  | _ => .stuck
/-- from the end to the begin -/
def revR : D → Res D
  | .lst xs => .ok (.lst xs.reverse)
  | .tup xs => .ok (.tup xs.reverse)
  | .str s => .ok (.str s.reverse)
  | _ => .stuck
/-- put in its place, once -/
def insI (n : Int) : List Int → List Int
  | [] => [n]
  | m :: r => if n < m then n :: m :: r else if n = m then m :: r else m :: insI n r
def srtI : List Int → List Int
  | [] => []
  | n :: r => insI n (srtI r)
/-- sorted(set(x)) -/
def ssetR : D → Res D
  | .tup xs => (ofOpt (intsD xs)).bind fun ns => if ns.length < 64 then .ok (.lst ((srtI ns).map .int)) else .stuck
  | .lst xs => (ofOpt (intsD xs)).bind fun ns => if ns.length < 64 then .ok (.lst ((srtI ns).map .int)) else .stuck
  | _ => .stuck
def idxR : D → D → Res D
  | .lst xs, .int i => ofOpt (atP xs i)
  | .tup xs, .int i => ofOpt (atP xs i)
  | .str s, .int i => (ofOpt (atP s i)).bind fun c => .ok (.str [c])
  | _, _ => .stuck
def slcR (x : D) (lo hi : Option Int) : Res D :=
  match x with
  | .lst xs => .ok (.lst (cutP xs lo hi))
  | .tup xs => .ok (.tup (cutP xs lo hi))
  | .str xs => .ok (.str (cutP xs lo hi))
  | _ => .stuck
/-- a target -/
inductive Tg where
  | nm (i : Nat)
  | tp (is : List Nat)
def bindAll (ρ : Rho) : List Nat → List D → Option Rho
  | [], [] => some ρ
  | i :: is, d :: ds => bindAll (ρ.set i (some d)) is ds
  | _, _ => none
def bindT (ρ : Rho) : Tg → D → Option Rho
  | .nm i, d => some (ρ.set i (some d))
  | .tp is, .tup ds => bindAll ρ is ds
  | .tp is, .lst ds => bindAll ρ is ds
  | .tp _, _ => none
mutual
inductive CE where
  | var (i : Nat)
  | cst (d : D)
  | bin (op : BO) (a b : CE)
  | neg (a : CE)
  | isN (n : Bool) (a : CE)
  | chain (p q : BO) (a b c : CE)
  | inr (n : Bool) (a lo hi : CE)
  | and (a b : CE)
  | or (a b : CE)
  | not (a : CE)
  | ite (c a b : CE)
  | tup (es : CL)
  | lst (es : CL)
  | ix (a i : CE)
  | slc (a : CE) (lo hi : CO)
  | rep (es : CL) (b : CE)
  | dnew
  | rev (a : CE)
  | sset (a : CE)
  | call (f : String) (es : CL)
  | blt (f : BF) (es : CL)
  | sm1 (f : SM) (o a : CE)
  | isi (a : CE) (t : Ty)
  | comp (elt : CE) (t : Tg) (it : CI) (cond : CL) (own : List Nat)
  | fld (a : CE) (c f : String)
  | meth (i : Nat) (c m key : String) (es : CL)
  /-- min(a, key=lambda ..: b), the slot i holds the lambda's parameter -/
  | minK (a : CE) (i : Nat) (b : CE)
  /-- min(a, key=f), f a def that tells data -/
  | minF (a : CE) (f : String)
inductive CL where
  | nil
  | cons (e : CE) (es : CL)
inductive CO where
  | no
  | yes (e : CE)
inductive CI where
  | seq (e : CE)
  | rng1 (a : CE)
  | rng2 (a b : CE)
  | rng3 (a b : CE)
  | enu (a : CE)
  | zip (a b : CE)
  | zip3 (a b c : CE)
end
/-- the items that are walked -/
def itemsR : D → Res (List D)
  | .lst xs => .ok xs
  | .tup xs => .ok xs
  | .str s => .ok (s.map fun c => .str [c])
  | _ => .stuck
def rngR (i j : Int) : Res (List D) :=
  if -(2 ^ 62) ≤ i ∧ i < 2 ^ 62 ∧ -(2 ^ 62) ≤ j ∧ j < 2 ^ 62 then .ok ((List.range (j - i).toNat).map fun (n : Nat) => .int (i + (n : Int))) else .stuck
/-- .. with both ends told, wherever they lie -/
def rngR2 (i j : Int) : Res (List D) :=
  if j - i < 2 ^ 62 then .ok ((List.range (j - i).toNat).map fun (n : Nat) => .int (i + (n : Int))) else .stuck
/-- .. downward -/
def rngR3 (i j : Int) : Res (List D) :=
  if -(2 ^ 62) ≤ i ∧ i < 2 ^ 62 ∧ -(2 ^ 62) ≤ j ∧ j < 2 ^ 62 then .ok ((List.range (i - j).toNat).map fun (n : Nat) => .int (i - (n : Int))) else .stuck
def zipR : D → D → Res (List D)
  | .lst xs, .lst ys => .ok (List.zipWith (fun p q => .tup [p, q]) xs ys)
  | .tup xs, .tup ys => .ok (List.zipWith (fun p q => .tup [p, q]) xs ys)
  | .lst xs, .tup ys => .ok (List.zipWith (fun p q => .tup [p, q]) xs ys)
  | .tup xs, .lst ys => .ok (List.zipWith (fun p q => .tup [p, q]) xs ys)
  | _, _ => .stuck
/-- a list's or a tuple's items -/
def sqD : D → Option (List D)
  | .lst xs => some xs
  | .tup xs => some xs
  | _ => none
def zipW3 : List D → List D → List D → List D
  | x :: xs, y :: ys, z :: zs => .tup [x, y, z] :: zipW3 xs ys zs
  | _, _, _ => []
def zip3R (x y z : D) : Res (List D) :=
  match sqD x, sqD y, sqD z with
  | some xs, some ys, some zs => .ok (zipW3 xs ys zs)
  | _, _, _ => .stuck
/-- nothing raised may leave a comprehension -/
def quiet {α : Type} : Res α → Res α
  | .ok a => .ok a
  | _ => .stuck
/-- a comprehension's loop: f tells what an item gives, if anything -/
def compL (f : D → Res (Option D)) : List D → Res (List D)
  | [] => .ok []
  | x :: xs => (f x).bind fun
    | none => compL f xs
    | some y => (compL f xs).bind fun ys => .ok (y :: ys)
abbrev FEnv := String → List D → Res D
def boolR : D → Res Bool
  | .bl b => .ok b
  | _ => .stuck
def lstD : D → Res (List D)
  | .lst xs => .ok xs
  | _ => .stuck
def intD : D → Res Int
  | .int i => .ok i
  | _ => .stuck
/-- an object's field: data -/
def fldR (c f : String) : D → Res D
  | .obj c' fs => if c' = c then (match fs.lookup f with
    | some (.dik _) => .stuck
    | some d => .ok d
    | none => .stuck) else .stuck
  | _ => .stuck
/-- an object of the class c without a field m -/
def obM (c m : String) : D → Bool
  | .obj c' fs => decide (c' = c) && (fs.lookup m).isNone
  | _ => false
/-- a field stored -/
def putFD (f : String) (d : D) : List (String × D) → List (String × D)
  | [] => [(f, d)]
  | (g, e) :: r => if g = f then (g, d) :: r else (g, e) :: putFD f d r
/-- the keys, one by one -/
def keysL (f : D → Res D) : List D → Res (List Int)
  | [] => .ok []
  | x :: xs => (f x).bind fun k => (intD k).bind fun i => (keysL f xs).bind fun is => .ok (i :: is)
/-- the first of those whose key is the least -/
def bestI (ks : List Int) : Nat → Nat
  | 0 => 0
  | j + 1 => if ks.getD (j + 1) 0 < ks.getD (bestI ks j) 0 then j + 1 else bestI ks j
def pickK (xs : List D) (ks : List Int) : Res D := if xs.isEmpty then .stuck else ofOpt xs[bestI ks (xs.length - 1)]?
/-- the keys that a def tells -/
def datL (f : D → Res D) : List D → Res (List D)
  | [] => .ok []
  | x :: xs => (f x).bind fun k => (datL f xs).bind fun ks => .ok (k :: ks)
def bestD (ks : List D) : Nat → Nat
  | 0 => 0
  | j + 1 => if ltD (ks.getD (j + 1) .non) (ks.getD (bestD ks j) .non) = true then j + 1 else bestD ks j
def pickD (xs ks : List D) : Res D := if xs.isEmpty = false ∧ alkP ks = true ∧ deps ks ≤ 64 then ofOpt xs[bestD ks (xs.length - 1)]? else .stuck
mutual
def ev (Φ : FEnv) : CE → Rho → Res D
  | .var i, ρ => getv ρ i
  | .cst d, _ => .ok d
  | .bin op a b, ρ => (ev Φ a ρ).bind fun x => (ev Φ b ρ).bind fun y => binR op x y
  | .neg a, ρ => (ev Φ a ρ).bind fun x => (intD x).bind fun i => .ok (.int (-i))
  | .isN n a, ρ => (ev Φ a ρ).bind fun x => match x with
    | .non => .ok (.bl (!n))
    | _ => .ok (.bl n)
  | .chain p q a b c, ρ => (ev Φ a ρ).bind fun x => (ev Φ b ρ).bind fun y => (binR p x y).bind fun r => (boolR r).bind fun k =>
    match k with
    | true => (ev Φ c ρ).bind fun z => (binR q y z).bind fun r' => (boolR r').bind fun k' => .ok (.bl k')
    | false => .ok (.bl false)
  | .inr n a lo hi, ρ => (ev Φ a ρ).bind fun x => (ev Φ lo ρ).bind fun y => (ev Φ hi ρ).bind fun z => inrR n x y z
  | .and a b, ρ => (ev Φ a ρ).bind fun x => (boolR x).bind fun k => match k with
    | true => ev Φ b ρ
    | false => .ok (.bl false)
  | .or a b, ρ => (ev Φ a ρ).bind fun x => (boolR x).bind fun k => match k with
    | true => .ok (.bl true)
    | false => ev Φ b ρ
  | .not a, ρ => (ev Φ a ρ).bind fun x => (boolR x).bind fun k => .ok (.bl (!k))
  | .ite c a b, ρ => (ev Φ c ρ).bind fun x => (truR x).bind fun k => match k with
    | true => ev Φ a ρ
    | false => ev Φ b ρ
  | .tup es, ρ => (evs Φ es ρ).bind fun xs => if xs.length ≤ SZ then .ok (.tup xs) else .stuck
  | .lst es, ρ => (evs Φ es ρ).bind fun xs => if xs.length ≤ SZ then .ok (.lst xs) else .stuck
  | .ix a i, ρ => (ev Φ a ρ).bind fun x => (ev Φ i ρ).bind fun y => idxR x y
  | .slc a lo hi, ρ => (ev Φ a ρ).bind fun x => (evo Φ lo ρ).bind fun l => (evo Φ hi ρ).bind fun h => slcR x l h
  | .rep es b, ρ => (evs Φ es ρ).bind fun xs => if xs.length ≤ SZ then (ev Φ b ρ).bind fun y => repR xs y else .stuck
  | .dnew, _ => .ok (.dic [])
  | .rev a, ρ => (ev Φ a ρ).bind fun x => revR x
  | .sset a, ρ => (ev Φ a ρ).bind fun x => ssetR x
  | .call f es, ρ => (evs Φ es ρ).bind fun xs => Φ f xs
  | .blt f es, ρ => (evs Φ es ρ).bind fun xs => bltR f xs
  | .sm1 f o a, ρ => (ev Φ o ρ).bind fun x => match x with
    | .str s => (ev Φ a ρ).bind fun y => smR f s y
    | _ => .stuck
  | .isi a t, ρ => (ev Φ a ρ).bind fun x => .ok (.bl (isTy x t))
  | .comp elt t it cond own, ρ => (evi Φ it ρ).bind fun xs =>
    (quiet (compL (fun x => match bindT (wipeE ρ own) t x with
      | none => .stuck
      | some ρ' => (evc Φ cond ρ').bind fun k => match k with
        | true => (ev Φ elt ρ').bind fun y => .ok (some y)
        | false => .ok none) xs)).bind fun ys => if ys.length ≤ SZ then .ok (.lst ys) else .stuck
  | .fld a c f, ρ => (ev Φ a ρ).bind (fldR c f)
  | .meth i c m key es, ρ => (getv ρ i).bind fun d => if obM c m d = true then (evs Φ es ρ).bind fun xs => Φ key (d :: xs) else .stuck
  | .minK a i b, ρ => (ev Φ a ρ).bind fun x => (lstD x).bind fun xs => (quiet (keysL (fun y => ev Φ b (ρ.set i (some y))) xs)).bind (pickK xs)
  | .minF a f, ρ => (ev Φ a ρ).bind fun x => (lstD x).bind fun xs => (quiet (datL (fun y => Φ f [y]) xs)).bind (pickD xs)
def evs (Φ : FEnv) : CL → Rho → Res (List D)
  | .nil, _ => .ok []
  | .cons e es, ρ => (ev Φ e ρ).bind fun x => (evs Φ es ρ).bind fun xs => .ok (x :: xs)
/-- the tests of a clause: none or one -/
def evc (Φ : FEnv) : CL → Rho → Res Bool
  | .nil, _ => .ok true
  | .cons e .nil, ρ => (ev Φ e ρ).bind truR
  | .cons _ _, _ => .stuck
def evo (Φ : FEnv) : CO → Rho → Res (Option Int)
  | .no, _ => .ok none
  | .yes e, ρ => (ev Φ e ρ).bind fun x => (intD x).bind fun i => .ok (some i)
def evi (Φ : FEnv) : CI → Rho → Res (List D)
  | .seq e, ρ => (ev Φ e ρ).bind itemsR
  | .rng1 a, ρ => (ev Φ a ρ).bind fun x => (intD x).bind fun j => rngR 0 j
  | .rng2 a b, ρ => (ev Φ a ρ).bind fun x => (ev Φ b ρ).bind fun y => (intD x).bind fun i => (intD y).bind fun j => rngR2 i j
  | .rng3 a b, ρ => (ev Φ a ρ).bind fun x => (ev Φ b ρ).bind fun y => (intD x).bind fun i => (intD y).bind fun j => rngR3 i j
  | .enu a, ρ => (ev Φ a ρ).bind fun x => (itemsR x).bind fun xs => .ok (xs.zipIdx.map fun p => .tup [.int (p.2 : Int), p.1])
  | .zip a b, ρ => (ev Φ a ρ).bind fun x => (ev Φ b ρ).bind fun y => zipR x y
  | .zip3 a b c, ρ => (ev Φ a ρ).bind fun x => (ev Φ b ρ).bind fun y => (ev Φ c ρ).bind fun z => zip3R x y z
end
/-! ### expressions that change what their own objects hold -/
mutual
inductive EE where
  | pu (e : CE)
  /-- a def is called, its parameters os.1 are lent to be changed: they are the slots os.2; a method, where w tells its class and name -/
  | io (w : Option (Nat × String × String)) (key : String) (os : List (Nat × Nat)) (es : CL)
  | call (f : String) (es : EL)
  | tup (es : EL)
inductive EL where
  | nil
  | cons (e : EE) (es : EL)
end
/-! ### what is told of a caught exception -/
/-- a class of refusals and one that it stands under -/
def subX (c n : String) : Bool := c == n || (n == "SeatError" || n == "ValueError")
/-- the fields of a class of refusals -/
def xflds (c : String) : List String := if c = "Full" then ["paper"] else if c = "TooGreat" then ["many", "most"] else []
mutual
inductive XE where
  | cst (d : D)
  | var (i : Nat)
  | isI (n : String)
  | isM (ns : List String)
  | fld (f : String)
  | fty (f : String) (t : Ty)
  | not (a : XE)
  | and (a b : XE)
  | or (a b : XE)
  | lst (es : XL)
  | add (a b : XE)
  | call (f : String)
inductive XL where
  | nil
  | cons (e : XE) (es : XL)
end
/-- statements of an except suite -/
inductive XS where
  | asg (i : Nat) (e : XE)
  | ret (e : XE)
  | ifR (k e : XE)
mutual
def xv (Φ : FEnv) (c : String) (fs : List (String × D)) : XE → Rho → Res D
  | .cst d, _ => .ok d
  | .var i, ρ => getv ρ i
  | .isI n, _ => .ok (.bl (subX c n))
  | .isM ns, _ => .ok (.bl (ns.any (subX c)))
  | .fld f, _ => ofOpt (fs.lookup f)
  | .fty f t, _ => (ofOpt (fs.lookup f)).bind fun d => .ok (.bl (isTy d t))
  | .not a, ρ => (xv Φ c fs a ρ).bind fun x => (boolR x).bind fun k => .ok (.bl (!k))
  | .and a b, ρ => (xv Φ c fs a ρ).bind fun x => (boolR x).bind fun k => match k with
    | true => xv Φ c fs b ρ
    | false => .ok (.bl false)
  | .or a b, ρ => (xv Φ c fs a ρ).bind fun x => (boolR x).bind fun k => match k with
    | true => .ok (.bl true)
    | false => xv Φ c fs b ρ
  | .lst es, ρ => (xvs Φ c fs es ρ).bind fun xs => if xs.length ≤ SZ then .ok (.lst xs) else .stuck
  | .add a b, ρ => (xv Φ c fs a ρ).bind fun x => (xv Φ c fs b ρ).bind fun y => addR x y
  | .call f, _ => quiet (Φ f [.obj c fs])
def xvs (Φ : FEnv) (c : String) (fs : List (String × D)) : XL → Rho → Res (List D)
  | .nil, _ => .ok []
  | .cons e es, ρ => (xv Φ c fs e ρ).bind fun x => (xvs Φ c fs es ρ).bind fun xs => .ok (x :: xs)
end
/-! ### statements -/
inductive CS where
  | skip
  | nope
  | seq (a b : CS)
  | asg (t : Tg) (e : CE)
  | aug (i : Nat) (e : CE)
  | app (i : Nat) (e : CE)
  | ext (i : Nat) (e : CE)
  | put (i : Nat) (k e : CE)
  | pop (k i : Nat) (a : CE)
  | ins (i : Nat) (a b : CE)
  | exp (e : CE)
  | ret (e : CE)
  | retN
  | cond (c : CE) (a b : CS)
  | loop (t : Tg) (it : CI) (body : CS)
  | whil (c : CE) (body : CS)
  | brk
  | cnt
  | rais (c : String) (es : CL)
  | tryX (body : CS) (hs : List (String × Option Nat × List XS))
  | xdef (b : List XS)
  | fset (i : Nat) (c f : String) (e : CE)
  | new (i : Nat) (c key : String) (es : CL)
  | asgE (t : Tg) (e : EE)
  | expE (e : EE)
  | retE (e : EE)
  | appE (i : Nat) (e : EE)
inductive Out where
  | nx (ρ : Rho)
  | rt (d : D) (ρ : Rho)
  | bk (ρ : Rho)
  | ct (ρ : Rho)
  | exc (c : String) (ps : List D) (ρ : Rho)
  | stuck
def Res.out {α : Type} (r : Res α) (ρ : Rho) (f : α → Out) : Out :=
  match r with
  | .ok a => f a
  | .exc c ps => .exc c ps ρ
  | .stuck => .stuck
@[simp] theorem Res.out_ok {α : Type} (a : α) (ρ : Rho) (f : α → Out) : (Res.ok a).out ρ f = f a := rfl
@[simp] theorem Res.out_exc {α : Type} (c : String) (ps : List D) (ρ : Rho) (f : α → Out) : (Res.exc c ps).out ρ f = .exc c ps ρ := rfl
@[simp] theorem Res.out_stuck {α : Type} (ρ : Rho) (f : α → Out) : (Res.stuck : Res α).out ρ f = .stuck := rfl
def Out.next (o : Out) (f : Rho → Out) : Out :=
  match o with
  | .nx ρ => f ρ
  | o => o
@[simp] theorem Out.next_nx (ρ : Rho) (f : Rho → Out) : (Out.nx ρ).next f = f ρ := rfl
@[simp] theorem Out.next_rt (d : D) (ρ : Rho) (f : Rho → Out) : (Out.rt d ρ).next f = .rt d ρ := rfl
@[simp] theorem Out.next_exc (c : String) (ps : List D) (ρ : Rho) (f : Rho → Out) : (Out.exc c ps ρ).next f = .exc c ps ρ := rfl
@[simp] theorem Out.next_bk (ρ : Rho) (f : Rho → Out) : (Out.bk ρ).next f = .bk ρ := rfl
@[simp] theorem Out.next_ct (ρ : Rho) (f : Rho → Out) : (Out.ct ρ).next f = .ct ρ := rfl
@[simp] theorem Out.next_stuck (f : Rho → Out) : (Out.stuck).next f = .stuck := rfl
/-- a for loop over items -/
def forL (f : D → Rho → Out) : List D → Rho → Out
  | [], ρ => .nx ρ
  | x :: xs, ρ => match f x ρ with
    | .nx ρ' => forL f xs ρ'
    | .ct ρ' => forL f xs ρ'
    | .bk ρ' => .nx ρ'
    | o => o
/-- a while loop, at most so many turns -/
def whiL (c : Rho → Res Bool) (f : Rho → Out) : Nat → Rho → Out
  | 0, _ => .stuck
  | n + 1, ρ => (c ρ).out ρ fun k => match k with
    | false => .nx ρ
    | true => match f ρ with
      | .nx ρ' => whiL c f n ρ'
      | .ct ρ' => whiL c f n ρ'
      | .bk ρ' => .nx ρ'
      | o => o
def TURNS : Nat := 1000000
def addI (x y : D) : Res D := intR x y fun i j => .ok (.int (i + j))
def setT (ρ : Rho) (t : Tg) (d : D) : Out :=
  match bindT ρ t d with
  | some ρ' => .nx ρ'
  | none => .stuck
def appO (ρ : Rho) (i : Nat) (x y : D) : Out :=
  match x with
  | .lst xs => if xs.length < SZ then .nx (ρ.set i (some (.lst (xs ++ [y])))) else .stuck
  | _ => .stuck
def extO (ρ : Rho) (i : Nat) (x y : D) : Out :=
  match x, y with
  | .lst xs, .lst ys => if xs.length + ys.length ≤ SZ then .nx (ρ.set i (some (.lst (xs ++ ys)))) else .stuck
  | _, _ => .stuck
def insO (ρ : Rho) (i : Nat) (x j y : D) : Out :=
  match x, j with
  | .lst xs, .int j => if 0 ≤ j ∧ j ≤ 1000000 ∧ xs.length < SZ then .nx (ρ.set i (some (.lst (xs.take j.toNat ++ [y] ++ xs.drop j.toNat)))) else .stuck
  | _, _ => .stuck
def putO (ρ : Rho) (i : Nat) (x j y : D) : Out :=
  match x, j with
  | .lst xs, .int j => (ofOpt (ixP xs.length j)).out ρ fun p => .nx (ρ.set i (some (.lst (xs.set p y))))
  | .dic kvs, .tup ks => match y with
    | .bl b => if keyB (.tup ks) = true ∧ kvs.length < SZ then .nx (ρ.set i (some (.dic (putD kvs (.tup ks) (.bl b))))) else .stuck
    | _ => .stuck
  | _, _ => .stuck
/-- a list's element taken out: the list without it, and it -/
def popR (x j : D) : Res D :=
  match x, j with
  | .lst xs, .int j => if xs.length < SZ then (ofOpt (ixP xs.length j)).bind fun p => (ofOpt xs[p]?).bind fun d => .ok (.tup [.lst (xs.eraseIdx p), d]) else .stuck
  | _, _ => .stuck
/-- the slots os take these -/
def setAll (ρ : Rho) : List (Nat × Nat) → List D → Option Rho
  | [], [] => some ρ
  | o :: os, d :: ds => setAll (ρ.set o.2 (some d)) os ds
  | _, _ => none
/-- what a call of a def with lent parameters gives: its answer, what the slots hold then -/
def ioO (ρ : Rho) (os : List (Nat × Nat)) (r : Res D) : Out :=
  match r with
  | .ok (.tup (d :: ds)) => (match setAll ρ os ds with
    | some ρ' => .rt d ρ'
    | none => .stuck)
  | .exc c ps => (match setAll ρ os (ps.take os.length) with
    | some ρ' => .exc c (ps.drop os.length) ρ'
    | none => .stuck)
  | _ => .stuck
def ioM (ρ : Rho) (w : Option (Nat × String × String)) : Bool := match w with
  | none => true
  | some (i, c, m) => match ρ[i]? with
    | some (some d) => obM c m d
    | _ => false
/-- first this, then with its answer that -/
def Out.thn (o : Out) (f : D → Rho → Out) : Out :=
  match o with
  | .rt d ρ => f d ρ
  | .exc c ps ρ => .exc c ps ρ
  | _ => .stuck
@[simp] theorem Out.thn_rt (d : D) (ρ : Rho) (f : D → Rho → Out) : (Out.rt d ρ).thn f = f d ρ := rfl
@[simp] theorem Out.thn_exc (c : String) (ps : List D) (ρ : Rho) (f : D → Rho → Out) : (Out.exc c ps ρ).thn f = .exc c ps ρ := rfl
@[simp] theorem Out.thn_stuck (f : D → Rho → Out) : Out.stuck.thn f = .stuck := rfl
mutual
def eve (Φ : FEnv) : EE → Rho → Out
  | .pu e, ρ => (ev Φ e ρ).out ρ fun d => .rt d ρ
  | .io w key os es, ρ => if ioM ρ w = true then (evs Φ es ρ).out ρ fun xs => ioO ρ os (Φ key xs) else .stuck
  | .call f es, ρ => (eves Φ es ρ).thn fun d ρ' => match d with
    | .tup xs => (Φ f xs).out ρ' fun d => .rt d ρ'
    | _ => .stuck
  | .tup es, ρ => (eves Φ es ρ).thn fun d ρ' => match d with
    | .tup xs => if xs.length ≤ SZ then .rt (.tup xs) ρ' else .stuck
    | _ => .stuck
/-- arguments: as a tuple -/
def eves (Φ : FEnv) : EL → Rho → Out
  | .nil, ρ => .rt (.tup []) ρ
  | .cons e es, ρ => (eve Φ e ρ).thn fun x ρ1 => (eves Φ es ρ1).thn fun d ρ2 => match d with
    | .tup xs => .rt (.tup (x :: xs)) ρ2
    | _ => .stuck
end
def fsetO (ρ : Rho) (i : Nat) (c f : String) (x d : D) : Out :=
  match x with
  | .obj c' fs => if c' = c ∧ fs.length < 100 then .nx (ρ.set i (some (.obj c (putFD f d fs)))) else .stuck
  | _ => .stuck
def newO (ρ : Rho) (i : Nat) (r : Res D) : Out :=
  match r with
  | .ok (.tup [.non, o]) => .nx (ρ.set i (some o))
  | .exc c ps => .exc c (ps.drop 1) ρ
  | _ => .stuck
/-- an except suite -/
def xx (Φ : FEnv) (c : String) (fs : List (String × D)) : List XS → Rho → Out
  | [], ρ => .nx ρ
  | .asg i e :: r, ρ => (quiet (xv Φ c fs e ρ)).out ρ fun d => xx Φ c fs r (ρ.set i (some d))
  | .ret e :: _, ρ => (quiet (xv Φ c fs e ρ)).out ρ fun d => .rt d ρ
  | .ifR k e :: r, ρ => (quiet ((xv Φ c fs k ρ).bind truR)).out ρ fun k => match k with
    | true => (quiet (xv Φ c fs e ρ)).out ρ fun d => .rt d ρ
    | false => xx Φ c fs r ρ
/-- the exception's name goes -/
def offX (ρ : Rho) : Option Nat → Rho
  | none => ρ
  | some i => ρ.set i none
def offO (i : Option Nat) : Out → Out
  | .nx ρ => .nx (offX ρ i)
  | o => o
def ex (Φ : FEnv) : CS → Rho → Out
  | .skip, ρ => .nx ρ
  | .nope, _ => .stuck
  | .seq a b, ρ => (ex Φ a ρ).next (ex Φ b)
  | .asg t e, ρ => (ev Φ e ρ).out ρ fun d => setT ρ t d
  | .aug i e, ρ => (getv ρ i).out ρ fun x => (ev Φ e ρ).out ρ fun y => (addI x y).out ρ fun z => .nx (ρ.set i (some z))
  | .app i e, ρ => (getv ρ i).out ρ fun x => (lstD x).out ρ fun xs => (ev Φ e ρ).out ρ fun y => appO ρ i (.lst xs) y
  | .ext i e, ρ => (getv ρ i).out ρ fun x => (lstD x).out ρ fun xs => (ev Φ e ρ).out ρ fun y => extO ρ i (.lst xs) y
  | .put i k e, ρ => (ev Φ e ρ).out ρ fun y => (getv ρ i).out ρ fun x => (ev Φ k ρ).out ρ fun j => putO ρ i x j y
  | .pop k i a, ρ => (getv ρ i).out ρ fun x => (lstD x).out ρ fun xs => (ev Φ a ρ).out ρ fun j => (popR (.lst xs) j).out ρ fun d => setT ρ (.tp [i, k]) d
  | .ins i a b, ρ => (getv ρ i).out ρ fun x => (lstD x).out ρ fun xs => (ev Φ a ρ).out ρ fun j => (ev Φ b ρ).out ρ fun y => insO ρ i (.lst xs) j y
  | .exp e, ρ => (ev Φ e ρ).out ρ fun _ => .nx ρ
  | .ret e, ρ => (ev Φ e ρ).out ρ fun d => .rt d ρ
  | .retN, ρ => .rt .non ρ
  | .cond c a b, ρ => ((ev Φ c ρ).bind truR).out ρ fun k => match k with
    | true => ex Φ a ρ
    | false => ex Φ b ρ
  | .loop t it body, ρ => (evi Φ it ρ).out ρ fun xs => forL (fun x ρ => (setT ρ t x).next (ex Φ body)) xs ρ
  | .whil c body, ρ => whiL (fun ρ => (ev Φ c ρ).bind truR) (ex Φ body) TURNS ρ
  | .brk, ρ => .bk ρ
  | .cnt, ρ => .ct ρ
  | .rais c es, ρ => (evs Φ es ρ).out ρ fun xs => if xs.length = (xflds c).length then .exc c xs ρ else .stuck
  | .tryX body hs, ρ => match ex Φ body ρ with
    | .exc c ps ρ' => (match hs.find? fun h => subX c h.1 with
      | some h => offO h.2.1 (xx Φ c ((xflds c).zip ps) h.2.2 (offX ρ' h.2.1))
      | none => .exc c ps ρ')
    | o => o
  | .xdef b, ρ => match (ρ[0]? : Option (Option D)) with
    | some (some (D.obj c fs)) => xx (fun _ _ => .stuck) c fs b (ρ.set 0 none)
    | _ => .stuck
  | .fset i c f e, ρ => (ev Φ e ρ).out ρ fun d => (getv ρ i).out ρ fun x => fsetO ρ i c f x d
  | .new i c key es, ρ => (evs Φ es ρ).out ρ fun xs => newO ρ i (Φ key (.obj c [] :: xs))
  | .asgE t e, ρ => (eve Φ e ρ).thn fun d ρ' => setT ρ' t d
  | .expE e, ρ => (eve Φ e ρ).thn fun _ ρ' => .nx ρ'
  | .retE e, ρ => (eve Φ e ρ).thn fun d ρ' => .rt d ρ'
  | .appE i e, ρ => (getv ρ i).out ρ fun x => (lstD x).out ρ fun _ => (eve Φ e ρ).thn fun y ρ' => (getv ρ' i).out ρ' fun x => appO ρ' i x y
/-- a def: its parameters' number, its slots' number, its body -/
structure Fn where
  par : Nat
  slots : Nat
  body : CS
  /-- the parameters that are lent to be changed -/
  io : List Nat
abbrev Prog := String → Option Fn
/-- what the lent parameters hold at the end -/
def outsOf (ρ : Rho) : List Nat → Option (List D)
  | [] => some []
  | i :: is => match ρ[i]? with
    | some (some d) => (outsOf ρ is).map (d :: ·)
    | _ => none
def finR (io : List Nat) (d : D) (ρ : Rho) : Res D :=
  if io.isEmpty then .ok d else match outsOf ρ io with
    | some os => .ok (.tup (d :: os))
    | none => .stuck
def finX (io : List Nat) (c : String) (ps : List D) (ρ : Rho) : Res D :=
  if io.isEmpty then .exc c ps else match outsOf ρ io with
    | some os => .exc c (os ++ ps)
    | none => .stuck
def endOf (io : List Nat) : Out → Res D
  | .nx ρ => finR io .non ρ
  | .rt d ρ => finR io d ρ
  | .exc c ps ρ => finX io c ps ρ
  | _ => .stuck
/-- entered with these -/
def enter (fn : Fn) (args : List D) : Rho := args.map some ++ List.replicate (fn.slots - args.length) none
def run (P : Prog) : Nat → FEnv
  | 0, _, _ => .stuck
  | k + 1, f, args => match P f with
    | none => .stuck
    | some fn => if args.length = fn.par then endOf fn.io (ex (run P k) fn.body (enter fn args)) else .stuck
end Ps
end
section
/-! PsRep: how data stand in the abstract heap. -/
namespace Ps
open PySem PySem.Spec PyProof.Rows L2
/-- a text that the model may hold -/
def GoodS (s : List Nat) : Prop := s.length ≤ SZ ∧ s.all (fun c => decide (c < 0x110000)) = true
theorem SZ_line : SZ = sizeLine := by rw [sizeLine_eq]; rfl
/-- a dict's entries: keys of whole numbers, truths -/
inductive RepKs : List (List Key × V) → List (D × D) → Prop
  | nil : RepKs [] []
  | cons {tv : List (List Key × V)} {kvs : List (D × D)} (is : List Int) (b : Bool) (t : RepKs tv kvs) : RepKs ((is.map Sum.inl, .bl b) :: tv) ((.tup (is.map .int), .bl b) :: kvs)
mutual
inductive Rep (K : PySem.W.Frag) (R : Hp) : V → D → Prop
  | non : Rep K R .non .non
  | bl (b : Bool) : Rep K R (.bl b) (.bl b)
  | int (i : Int) : Rep K R (.int i) (.int i)
  | str {z : Str} {s : List Nat} (e : z.cps.toList = s) (g : GoodS s) : Rep K R (.str z) (.str s)
  | tup {a : Addr} {vs : List V} {ds : List D} (h : R a = some (.tup vs)) (r : Reps K R vs ds) : Rep K R (.ref a) (.tup ds)
  | lst {a : Addr} {vs : List V} {ds : List D} (h : SqL K R a vs) (r : Reps K R vs ds) : Rep K R (.ref a) (.lst ds)
  | dic {a : Addr} {tv : List (List Key × V)} {kvs : List (D × D)} (h : R a = some (.dT tv)) (r : RepKs tv kvs) : Rep K R (.ref a) (.dic kvs)
inductive Reps (K : PySem.W.Frag) (R : Hp) : List V → List D → Prop
  | nil : Reps K R [] []
  | cons {v : V} {vs : List V} {d : D} {ds : List D} (h : Rep K R v d) (t : Reps K R vs ds) : Reps K R (v :: vs) (d :: ds)
end
section
variable {K : PySem.W.Frag} {R R' H H' : Hp}
theorem Same.seqT {a : Addr} {xs : List V} (e : Same H H') (h : SqT K H a xs) : SqT K H' a xs := by
  rcases h with (h | ⟨o, h⟩) | h
  · exact .inl (.inl (e _ _ h))
  · exact .inl (.inr ⟨o, e _ _ h⟩)
  · exact .inr h
mutual
theorem Rep.mono (e : Same R R') : ∀ (d : D) (v : V), Rep K R v d → Rep K R' v d
  | .non, _, h => by cases h; exact .non
  | .bl b, _, h => by cases h; exact .bl b
  | .int i, _, h => by cases h; exact .int i
  | .str s, _, h => by
    cases h with
    | str e1 g => exact .str e1 g
  | .tup ds, _, h => by
    cases h with
    | tup h r => exact .tup (e _ _ h) (Reps.mono e ds _ r)
  | .lst ds, _, h => by
    cases h with
    | lst h r => exact .lst (e.seq h) (Reps.mono e ds _ r)
  | .dic _, _, h => by
    cases h with
    | dic h r => exact .dic (e _ _ h) r
  | .dik _, _, h => by cases h
  | .obj _ _, _, h => by cases h
theorem Reps.mono (e : Same R R') : ∀ (ds : List D) (vs : List V), Reps K R vs ds → Reps K R' vs ds
  | [], _, h => by cases h; exact .nil
  | d :: ds, _, h => by
    cases h with
    | cons h t => exact .cons (Rep.mono e d _ h) (Reps.mono e ds _ t)
end
theorem Reps.length : ∀ {vs : List V} {ds : List D}, Reps K R vs ds → vs.length = ds.length
  | _, _, .nil => rfl
  | _, _, .cons _ t => congrArg Nat.succ (Reps.length t)
theorem Reps.get : ∀ {vs : List V} {ds : List D} {i : Nat} {d : D}, Reps K R vs ds → ds[i]? = some d → ∃ v, vs[i]? = some v ∧ Rep K R v d
  | _, _, _, _, .nil, e => by simp at e
  | _, _, 0, _, .cons h _, e => by simp at e; subst e; exact ⟨_, rfl, h⟩
  | _, _, i + 1, d, .cons _ t, e => by
    obtain ⟨v, h1, h2⟩ := Reps.get (i := i) (d := d) t (by simpa using e)
    exact ⟨v, by simpa using h1, h2⟩
theorem Reps.append : ∀ {vs ws : List V} {ds es : List D}, Reps K R vs ds → Reps K R ws es → Reps K R (vs ++ ws) (ds ++ es)
  | _, _, _, _, .nil, s => s
  | _, _, _, _, .cons h t, s => .cons h (Reps.append t s)
theorem Reps.drop : ∀ {vs : List V} {ds : List D} (n : Nat), Reps K R vs ds → Reps K R (vs.drop n) (ds.drop n)
  | _, _, 0, r => r
  | _, _, _ + 1, .nil => .nil
  | _, _, n + 1, .cons _ t => Reps.drop n t
theorem Reps.take : ∀ {vs : List V} {ds : List D} (n : Nat), Reps K R vs ds → Reps K R (vs.take n) (ds.take n)
  | _, _, 0, _ => .nil
  | _, _, _ + 1, .nil => .nil
  | _, _, n + 1, .cons h t => .cons h (Reps.take n t)
theorem Reps.set {v : V} {d : D} (r : Rep K R v d) : ∀ {vs : List V} {ds : List D} (i : Nat), Reps K R vs ds → Reps K R (vs.set i v) (ds.set i d)
  | _, _, _, .nil => .nil
  | _, _, 0, .cons _ t => .cons r t
  | _, _, i + 1, .cons h t => .cons h (Reps.set r i t)
theorem Reps.one {v : V} {d : D} (r : Rep K R v d) : Reps K R [v] [d] := .cons r .nil
theorem Reps.reverse : ∀ {vs : List V} {ds : List D}, Reps K R vs ds → Reps K R vs.reverse ds.reverse
  | _, _, .nil => .nil
  | _, _, .cons h t => by
    rw [List.reverse_cons, List.reverse_cons]
    exact (Reps.reverse t).append (.one h)
theorem Reps.of_ints : ∀ (ns : List Int), Reps K R (ns.map V.int) (ns.map D.int)
  | [] => .nil
  | n :: r => .cons (.int n) (Reps.of_ints r)
/-! ### against the model's data -/
mutual
def toPy : D → PyData
  | .non => .none
  | .bl b => .bool b
  | .int i => .int i
  | .str s => .str ⟨s.toArray⟩
  | .tup xs => .tuple (toPys xs)
  | .lst xs => .list (toPys xs)
  | .dic _ => .dict []
  | .dik _ => .dict []
  | .obj _ _ => .dict []
def toPys : List D → List PyData
  | [] => []
  | x :: xs => toPy x :: toPys xs
end
theorem toPys_map : ∀ xs : List D, toPys xs = xs.map toPy
  | [] => rfl
  | x :: xs => by rw [toPys, toPys_map xs]; rfl
theorem str_eta {z : Str} {s : List Nat} (e : z.cps.toList = s) : z = ⟨s.toArray⟩ := by
  subst e
  cases z
  simp
theorem dep_cons {d : D} {ds : List D} (c : deps (d :: ds) < 1000) : dep d < 1000 ∧ deps ds < 1000 := by
  simp only [deps] at c
  omega
mutual
theorem Rep.dp (e : Same R H) : ∀ (d : D) (v : V), dep d < 1000 → Rep K R v d → Dp K H v (toPy d)
  | .non, _, _, h => by cases h; exact .non
  | .bl b, _, _, h => by cases h; exact .bl b
  | .int i, _, _, h => by cases h; exact .int i
  | .str s, _, _, h => by
    cases h with
    | str e1 g => rw [str_eta e1]; exact .str _
  | .tup ds, _, c, h => by
    cases h with
    | tup h r => exact .tup (SqT.of (e _ _ h)) (Reps.dp e ds _ (by simp only [dep] at c; omega) r)
  | .lst ds, _, c, h => by
    cases h with
    | lst h r => exact .lst (e.seq h) (Reps.dp e ds _ (by simp only [dep] at c; omega) r)
  | .dic _, _, c, h => by simp only [dep] at c; omega
  | .dik _, _, c, h => by cases h
  | .obj _ _, _, c, h => by cases h
theorem Reps.dp (e : Same R H) : ∀ (ds : List D) (vs : List V), deps ds < 1000 → Reps K R vs ds → DpAll K H vs (toPys ds)
  | [], _, _, h => by cases h; exact .nil
  | d :: ds, _, c, h => by
    cases h with
    | cons h t => exact .cons (Rep.dp e d _ (dep_cons c).1 h) (Reps.dp e ds _ (dep_cons c).2 t)
end
mutual
theorem Rep.lay : ∀ (d : D) (v : V), dep d < 1000 → Rep K R v d → (toPy d).canLay0 = true
  | .non, _, _, _ => by simp [toPy, PyData.canLay0]
  | .bl b, _, _, _ => by simp [toPy, PyData.canLay0]
  | .int i, _, _, _ => by simp [toPy, PyData.canLay0]
  | .str s, _, _, h => by
    cases h with
    | str e1 g =>
      simp only [toPy, PyData.canLay0, PyData.strOk]
      rw [← Array.all_toList]
      exact g.2
  | .tup ds, _, c, h => by
    cases h with
    | tup h r => simp only [toPy, PyData.canLay0]; exact Reps.lay ds _ (by simp only [dep] at c; omega) r
  | .lst ds, _, c, h => by
    cases h with
    | lst h r => simp only [toPy, PyData.canLay0]; exact Reps.lay ds _ (by simp only [dep] at c; omega) r
  | .dic _, _, c, h => by simp only [dep] at c; omega
  | .dik _, _, c, h => by cases h
  | .obj _ _, _, c, h => by cases h
theorem Reps.lay : ∀ (ds : List D) (vs : List V), deps ds < 1000 → Reps K R vs ds → PyData.canLayAll0 (toPys ds) = true
  | [], _, _, _ => by simp [toPys, PyData.canLayAll0]
  | d :: ds, _, c, h => by
    cases h with
    | cons h t =>
      simp only [toPys, PyData.canLayAll0, Bool.and_eq_true]
      exact ⟨Rep.lay d _ (dep_cons c).1 h, Reps.lay ds _ (dep_cons c).2 t⟩
end
mutual
theorem dep_py : ∀ d : D, (toPy d).depth ≤ dep d
  | .non => by simp [toPy, PyData.depth]
  | .bl b => by simp [toPy, PyData.depth]
  | .int i => by simp [toPy, PyData.depth]
  | .str s => by simp [toPy, PyData.depth]
  | .tup ds => by
    have := deps_py ds
    simp only [toPy, PyData.depth, dep]
    omega
  | .lst ds => by
    have := deps_py ds
    simp only [toPy, PyData.depth, dep]
    omega
  | .dic _ => by simp [toPy, PyData.depth, PyData.depthKv, dep]
  | .dik _ => by simp [toPy, PyData.depth, PyData.depthKv, dep]
  | .obj _ _ => by simp [toPy, PyData.depth, PyData.depthKv, dep]
theorem deps_py : ∀ ds : List D, PyData.depthAll (toPys ds) ≤ deps ds
  | [] => by simp [toPys, PyData.depthAll]
  | d :: ds => by
    have h1 := dep_py d
    have h2 := deps_py ds
    simp only [toPys, PyData.depthAll, deps]
    omega
end
mutual
theorem eqD_py : ∀ d e : D, eqD d e = PyData.eqv (toPy d) (toPy e)
  | .non, e => by cases e <;> simp [eqD, toPy, PyData.eqv]
  | .bl b, e => by cases e <;> simp [eqD, toPy, PyData.eqv]
  | .int b, e => by cases e <;> simp [eqD, toPy, PyData.eqv]
  | .str s, e => by
    cases e with
    | str t =>
      simp only [eqD, toPy, PyData.eqv]
      rw [Bool.eq_iff_iff]
      simp
    | _ => simp [eqD, toPy, PyData.eqv]
  | .tup s, e => by
    cases e with
    | tup t => simp only [eqD, toPy, PyData.eqv]; exact eqDs_py s t
    | _ => simp [eqD, toPy, PyData.eqv]
  | .lst s, e => by
    cases e with
    | lst t => simp only [eqD, toPy, PyData.eqv]; exact eqDs_py s t
    | _ => simp [eqD, toPy, PyData.eqv]
  | .dic s, e => by cases e <;> simp [eqD, toPy, PyData.eqv]
  | .dik s, e => by cases e <;> simp [eqD, toPy, PyData.eqv]
  | .obj _ _, e => by cases e <;> simp [eqD, toPy, PyData.eqv]
theorem eqDs_py : ∀ d e : List D, eqDs d e = PyData.eqvAll (toPys d) (toPys e)
  | [], [] => by simp [eqDs, toPys, PyData.eqvAll]
  | [], _ :: _ => by simp [eqDs, toPys, PyData.eqvAll]
  | _ :: _, [] => by simp [eqDs, toPys, PyData.eqvAll]
  | x :: xs, y :: ys => by
    simp only [eqDs, toPys, PyData.eqvAll]
    rw [eqD_py x y, eqDs_py xs ys]
end
theorem bitsI_eq (i : Int) : bitsI i = Builtin.Int.intBits i := by
  unfold bitsI Builtin.Int.intBits
  by_cases h : i = 0
  · subst h; rfl
  · rw [if_neg h, if_neg (by simpa using h)]
theorem ixP_eq (n : Nat) (i : Int) : ixP n i = ixN n i := rfl
theorem atP_eq {α : Type} (xs : List α) (i : Int) : atP xs i = atI xs i := rfl
theorem bndP_eq (n d : Nat) (o : Option Int) : bndP n d o = HT.sIx n d o := by cases o <;> rfl
theorem Reps.cut {vs : List V} {ds : List D} (lo hi : Option Int) (r : Reps K R vs ds) : Reps K R (cutV vs lo hi) (cutP ds lo hi) := by
  unfold cutP cutV
  rw [bndP_eq, bndP_eq, r.length]
  exact (r.drop _).take _
/-! ### what is kept -/
/-- a lambda's table of code objects, if the program has one: where it lies, the lambda's name -/
class Tbs where
  T : Option (Addr × Str)
  /-- the code object of the def that makes it -/
  C : Addr
variable [Tbs]
/-- what stood stands, but that a table may have grown -/
structure SameN (H H' : Hp) : Prop where
  ex : LamX.ExtN H H'
  dm : ∀ b, H b ≠ none → H' b ≠ none
  tb : ∀ p, Tbs.T = some p → LamX.TabS H p.1 p.2 → LamX.TabS H' p.1 p.2
theorem SameN.refl (H : Hp) : SameN H H := ⟨LamX.ExtN.refl H, fun _ h => h, fun _ _ h => h⟩
theorem SameN.trans {H H1 H2 : Hp} (a : SameN H H1) (b : SameN H1 H2) : SameN H H2 := ⟨a.ex.trans b.ex, fun c h => b.dm c (a.dm c h), fun p e h => b.tb p e (a.tb p e h)⟩
theorem SameN.of {H H' : Hp} (e : Same H H') : SameN H H' := ⟨LamX.ExtN.of e, fun b h => by
  cases q : H b with
  | none => exact absurd q h
  | some o => rw [e b o q]; simp, fun p _ h => h.ext e⟩
theorem SameN.free {H H' : Hp} (e : SameN H H') {a : Addr} (h : H' a = none) : H a = none := by
  cases q : H a with
  | none => rfl
  | some o => exact absurd h (e.dm a (by rw [q]; simp))
/-- no table -/
abbrev NT (o : HO) : Prop := ∀ ps, o ≠ .tbl ps
theorem SameN.at {H H' : Hp} (e : SameN H H') {b : Addr} {o : HO} (q : H b = some o) (n : NT o := by intro ps z; cases z) : H' b = some o := e.ex b o q n
/-- no code object -/
abbrev NC (o : HO) : Prop := ∀ c q, o ≠ LamX.CodeO c q
theorem nc_lst {vs : List V} : NC (.lst vs) := by intro c q z; unfold LamX.CodeO at z; cases z
theorem tabS_upd {H : Hp} {a P : Addr} {o : HO} {q : Str} (n : ∀ o', H a = some o' → NT o' ∧ NC o') (t : LamX.TabS H P q) : LamX.TabS (upd H a o) P q := by
  obtain ⟨ps, h1, h2, h3⟩ := t
  have hP : P ≠ a := fun z => by
    subst z
    exact (n _ h1).1 ps rfl
  refine ⟨ps, by rw [upd_ne hP]; exact h1, h2, fun pos cv hc => ?_⟩
  obtain ⟨c, e1, e2⟩ := h3 pos cv hc
  have hc : c ≠ a := fun z => by
    subst z
    exact (n _ e2).2 _ _ rfl
  exact ⟨c, e1, by rw [upd_ne hc]; exact e2⟩
theorem SameN.put {H H1 : Hp} {a : Addr} {o : HO} (e : SameN H H1) (h : H a = none) (n : ∀ o', H1 a = some o' → NT o' ∧ NC o') : SameN H (upd H1 a o) := by
  have ne : ∀ {b : Addr} {u : HO}, H b = some u → b ≠ a := fun {b u} q z => by
    rw [z, h] at q
    cases q
  refine ⟨fun b u q nt => by rw [upd_ne (ne q)]; exact e.ex b u q nt, fun b q => ?_, fun p hp t => tabS_upd n (e.tb p hp t)⟩
  by_cases hb : b = a
  · rw [hb, upd_same]; simp
  · rw [upd_ne hb]; exact e.dm b q
theorem SameN.seq {K : PySem.W.Frag} {H H' : Hp} {a : Addr} {xs : List V} (e : SameN H H') (h : SqL K H a xs) : SqL K H' a xs := by
  rcases h with (h | ⟨o, h⟩) | h
  · exact .inl (.inl (e.at h))
  · exact .inl (.inr ⟨o, e.at h⟩)
  · exact .inr h
theorem SameN.seqT {K : PySem.W.Frag} {H H' : Hp} {a : Addr} {xs : List V} (e : SameN H H') (h : SqT K H a xs) : SqT K H' a xs := by
  rcases h with (h | ⟨o, h⟩) | h
  · exact .inl (.inl (e.at h))
  · exact .inl (.inr ⟨o, e.at h⟩)
  · exact .inr h
structure Ext (R H R' H' : Hp) : Prop where
  hh : SameN H H'
  rr : Same R R'
  sub : Same R' H'
  new : ∀ a, R a = none → H a ≠ none → R' a = none
theorem Ext.refl (s : Same R H) : Ext R H R H := ⟨SameN.refl _, Same.refl _, s, fun _ h _ => h⟩
theorem Ext.trans {R1 H1 R2 H2 : Hp} (a : Ext R H R1 H1) (b : Ext R1 H1 R2 H2) : Ext R H R2 H2 :=
  ⟨a.hh.trans b.hh, a.rr.trans b.rr, b.sub, fun p h1 h2 => b.new p (a.new p h1 h2) (a.hh.dm p h2)⟩
theorem same_upd {a : Addr} {o : HO} (h : H a = none) : Same H (upd H a o) := fun b u e => by
  rw [upd_ne (ne_of_none e h)]
  exact e
/-- a new object, not yet among what never changes -/
theorem Ext.new_ {a : Addr} {o : HO} (s : Same R H) (h : H a = none) : Ext R H R (upd H a o) :=
  ⟨.of (same_upd h), Same.refl _, s.trans (same_upd h), fun _ q _ => q⟩
/-- .. that never changes from here on -/
theorem Ext.laid {a : Addr} {o : HO} (s : Same R H) (h : H a = none) : Ext R H (upd R a o) (upd H a o) :=
  ⟨.of (same_upd h), same_upd (s.free h), fun b u e => by
    by_cases hb : b = a
    · subst hb
      rw [upd_same] at e
      rw [upd_same]
      exact e
    · rw [upd_ne hb] at e
      rw [upd_ne hb]
      exact s b u e, fun b q n => by
    by_cases hb : b = a
    · subst hb
      exact absurd h n
    · rw [upd_ne hb]
      exact q⟩
/-- an object that stands in the heap is taken among what never changes -/
theorem Ext.froze {a : Addr} {o : HO} {R1 H1 : Hp} (e : Ext R H R1 H1) (h : H a = none) (h1 : H1 a = some o) (r1 : R1 a = none) : Ext R H (upd R1 a o) H1 :=
  ⟨e.hh, e.rr.trans (same_upd r1), fun b u q => by
    by_cases hb : b = a
    · subst hb
      rw [upd_same] at q
      rw [← q]
      exact h1
    · rw [upd_ne hb] at q
      exact e.sub b u q, fun b q n => by
    by_cases hb : b = a
    · subst hb
      exact absurd h n
    · rw [upd_ne hb]
      exact e.new b q n⟩
end
/-! ### what a def owns and may change -/
theorem ofString_inj {f g : String} (h : Str.ofString f = Str.ofString g) : f = g := by
  rw [Str.ofString_eq_toList, Str.ofString_eq_toList] at h
  injection h with h
  have h : f.toList.map Char.toNat = g.toList.map Char.toNat := by
    have := congrArg Array.toList h
    simpa using this
  have inj : ∀ (l m : List Char), l.map Char.toNat = m.map Char.toNat → l = m := by
    intro l
    induction l with
    | nil => intro m h; cases m with
      | nil => rfl
      | cons _ _ => cases h
    | cons c l ih => intro m h; cases m with
      | nil => cases h
      | cons d m =>
        simp only [List.map_cons, List.cons.injEq] at h
        rw [ih m h.2]
        congr 1
        exact Char.ext (UInt32.toNat_inj.mp h.1)
  exact String.toList_inj.mp (inj _ _ h)
/-- a dict's entries: keys are whole numbers or texts, values data -/
inductive RepKv (K : PySem.W.Frag) (R : Hp) : List (Key × V) → List (D × D) → Prop
  | nil : RepKv K R [] []
  | int (i : Int) {v : V} {d : D} {tv : List (Key × V)} {kvs : List (D × D)} (h : Rep K R v d) (t : RepKv K R tv kvs) : RepKv K R ((Sum.inl i, v) :: tv) ((.int i, d) :: kvs)
  | str (s : List Nat) (g : GoodS s) {v : V} {d : D} {tv : List (Key × V)} {kvs : List (D × D)} (h : Rep K R v d) (t : RepKv K R tv kvs) : RepKv K R ((Sum.inr ⟨s.toArray⟩, v) :: tv) ((.str s, d) :: kvs)
/-- an object's fields; the dicts among them are its own -/
inductive FReps (K : PySem.W.Frag) (R H : Hp) : List Addr → List (Str × V) → List (String × D) → Prop
  | nil : FReps K R H [] [] []
  | rep (f : String) {v : V} {d : D} {fp : List Addr} {fs : List (Str × V)} {ds : List (String × D)} (h : Rep K R v d) (t : FReps K R H fp fs ds) : FReps K R H fp ((Str.ofString f, v) :: fs) ((f, d) :: ds)
  | dik (f : String) {b : Addr} {tv : List (Key × V)} {kvs : List (D × D)} {fp : List Addr} {fs : List (Str × V)} {ds : List (String × D)} (h : H b = some (.dK tv)) (r : RepKv K R tv kvs) (n : b ∉ fp) (t : FReps K R H fp fs ds) :
      FReps K R H (b :: fp) ((Str.ofString f, .ref b) :: fs) ((f, .dik kvs) :: ds)
inductive OwnT (K : PySem.W.Frag) (R H : Hp) : Addr → D → List Addr → Prop
  | lst {a : Addr} {vs : List V} {ds : List D} (h : H a = some (.lst vs)) (r : Reps K R vs ds) : OwnT K R H a (.lst ds) [a]
  | dik {a : Addr} {tv : List (Key × V)} {kvs : List (D × D)} (h : H a = some (.dK tv)) (r : RepKv K R tv kvs) : OwnT K R H a (.dik kvs) [a]
  | obj {a dx : Addr} {fs : List (Str × V)} {c : String} {ds : List (String × D)} {fp : List Addr} (h : H a = some (.ins (He.ga K (Str.ofString c)) dx fs)) (hd : H dx = some (.own a)) (r : FReps K R H fp fs ds) :
      OwnT K R H a (.obj c ds) (a :: dx :: fp)
section
variable {K : PySem.W.Frag} {R R' H H' : Hp}
theorem RepKv.mono {tv : List (Key × V)} {kvs : List (D × D)} (e : Same R R') (h : RepKv K R tv kvs) : RepKv K R' tv kvs := by
  induction h with
  | nil => exact .nil
  | int i h t ih => exact .int i (h.mono e) ih
  | str s g h t ih => exact .str s g (h.mono e) ih
theorem FReps.keep {fp : List Addr} {fs : List (Str × V)} {ds : List (String × D)} (e : Same R R') (h : FReps K R H fp fs ds) (k : ∀ b ∈ fp, ∀ o, H b = some o → H' b = some o) : FReps K R' H' fp fs ds := by
  induction h with
  | nil => exact .nil
  | rep f h t ih => exact .rep f (h.mono e) (ih k)
  | dik f h r n t ih => exact .dik f (k _ List.mem_cons_self _ h) (r.mono e) n (ih fun b hb => k b (List.mem_cons_of_mem _ hb))
theorem OwnT.keep {a : Addr} {d : D} {fp : List Addr} (e : Same R R') (h : OwnT K R H a d fp) (k : ∀ b ∈ fp, ∀ o, H b = some o → H' b = some o) : OwnT K R' H' a d fp := by
  cases h with
  | lst h r => exact .lst (k _ List.mem_cons_self _ h) (r.mono e)
  | dik h r => exact .dik (k _ List.mem_cons_self _ h) (r.mono e)
  | obj h hd r => exact .obj (k _ List.mem_cons_self _ h) (k _ (List.mem_cons_of_mem _ List.mem_cons_self) _ hd) (r.keep e fun b hb => k b (List.mem_cons_of_mem _ (List.mem_cons_of_mem _ hb)))
theorem FReps.dom {fp : List Addr} {fs : List (Str × V)} {ds : List (String × D)} (h : FReps K R H fp fs ds) : ∀ b ∈ fp, ∃ tv, H b = some (.dK tv) := by
  induction h with
  | nil => intro b hb; cases hb
  | rep f h t ih => exact ih
  | dik f h r n t ih =>
    intro b hb
    rcases List.mem_cons.mp hb with rfl | hb
    · exact ⟨_, h⟩
    · exact ih b hb
theorem OwnT.dom {a : Addr} {d : D} {fp : List Addr} (h : OwnT K R H a d fp) : ∀ b ∈ fp, H b ≠ none := by
  intro b hb
  cases h with
  | lst h r => rw [List.mem_singleton.mp hb, h]; simp
  | dik h r => rw [List.mem_singleton.mp hb, h]; simp
  | obj h hd r =>
    rcases List.mem_cons.mp hb with rfl | hb
    · rw [h]; simp
    · rcases List.mem_cons.mp hb with rfl | hb
      · rw [hd]; simp
      · obtain ⟨tv, e⟩ := r.dom b hb
        rw [e]; simp
variable [Tbs]
theorem OwnT.nc {a : Addr} {d : D} {fp : List Addr} (h : OwnT K R H a d fp) {b : Addr} {o : HO} (hb : b ∈ fp) (q : H b = some o) : NC o := by
  intro c n z
  subst z
  unfold LamX.CodeO at q
  cases h with
  | lst h r => rw [List.mem_singleton.mp hb, h] at q; cases q
  | dik h r => rw [List.mem_singleton.mp hb, h] at q; cases q
  | obj h hd r =>
    rcases List.mem_cons.mp hb with rfl | hb
    · rw [h] at q; cases q
    · rcases List.mem_cons.mp hb with rfl | hb
      · rw [hd] at q; cases q
      · obtain ⟨tv, e⟩ := r.dom b hb
        rw [e] at q; cases q
theorem OwnT.nt {a : Addr} {d : D} {fp : List Addr} (h : OwnT K R H a d fp) {b : Addr} {o : HO} (hb : b ∈ fp) (q : H b = some o) : NT o := by
  intro ps z
  subst z
  cases h with
  | lst h r => rw [List.mem_singleton.mp hb, h] at q; cases q
  | dik h r => rw [List.mem_singleton.mp hb, h] at q; cases q
  | obj h hd r =>
    rcases List.mem_cons.mp hb with rfl | hb
    · rw [h] at q; cases q
    · rcases List.mem_cons.mp hb with rfl | hb
      · rw [hd] at q; cases q
      · obtain ⟨tv, e⟩ := r.dom b hb
        rw [e] at q; cases q
theorem OwnT.mono {a : Addr} {d : D} {fp : List Addr} (e : Same R R') (e' : SameN H H') (h : OwnT K R H a d fp) : OwnT K R' H' a d fp := h.keep e fun b hb o q => e'.at q (h.nt hb q)
theorem OwnT.at_ {a : Addr} {d : D} {fp : List Addr} (h : OwnT K R H a d fp) : a ∈ fp := by cases h <;> exact List.mem_cons_self
end
end Ps
end
section
set_option maxHeartbeats 2000000
/-! PsLong: a range, whatever its ends. -/
namespace L2
open PySem PySem.Spec PyProof.Rows
theorem turn_long {P : Program} {w : World} {K : PySem.W.Frag} {tg : Expr} (it : Addr) (lo : Int) (n : Nat) : Turn P w K tg (Itr lo n) [it] it (fun i h => IsLongIter h it (lo + (i : Nat) * 1) ((n : Int) - (i : Nat)) 1) where
  mem := by simp
  obj := fun i h st b hb => by
    have e : b = it := by simpa using hb
    subst e
    exact ⟨_, st, fun v z => by
      have z' : Data.fields _ = Data.cell v := z
      cases z'⟩
  keep := fun i h h' st k => k it (by simp) _ st
  item := by
    intro X hP hw hK hc i pins s σ H E I hf st hg
    subst hP hw hK
    obtain ⟨f0, f1, f2, f3, f4, f5⟩ := hf it (by simp)
    have W := Walks.longrange (prog := X.prog) (w := X.w) (I.ok.hd hc) it lo 1 n
    refine W.item i s _ _ hg st fun v h' tk hv st' kk => ?_
    obtain ⟨t, rfl⟩ := hv
    have I1 : Inv X pins σ H { s with heap := h', toks := tk } := I.turned (fun b o hb e => kk b o (by simpa using hb) e) f0 f1 f3 f4 f5
    refine ⟨_, rfl, go_of (s := { s with heap := h', toks := tk }) (n := "longrange_iterator") st' rfl rfl (by decide) ⟨.int (lo + i), H, I1, ⟨t, ?_⟩, ⟨rfl, rfl⟩, st', fun b hb => (hf b hb).1⟩⟩
    rw [Int.mul_one]
  done := by
    intro X hP hw hK hc i pins s σ H E I hf st hg
    subst hP hw hK
    obtain ⟨f0, f1, f2, f3, f4, f5⟩ := hf it (by simp)
    exact wpAny_pyNext_long_end (I.ok.hd hc) st (by have : n ≤ i := hg; omega) fun h' eb => ⟨rfl, I.turned (t' := s.toks) (fun b o hb e => eb b o hb e) f0 f1 f3 f4 f5⟩
  self := fun _ _ _ _ _ st h => wpAny_pyIter_longiter st h
section
variable {X : Cx} {tg : Expr}
theorem range_itA {pins : List (Addr × Obj)} {σ : St} {H : Hp} {s : Shared} {R : It → Hp → Prop} {E : Value → Shared → Prop} {lo hi : Int} {t u v : Tok} {tk : Nat} (I : Inv X pins σ H s)
    (q : R (Itr lo (hi - lo).toNat) H) : wpAny (model X.prog X.w) X.A (pyIter (.ref s.heap.objs.size)) (PIE X pins σ tg R) E { s with heap := s.heap.push { cls := .type "range", data := .fields #[.int lo t, .int hi u, .int 1 v] }, toks := tk } := by
  have I1 : Inv X pins σ H { s with heap := s.heap.push { cls := .type "range", data := .fields #[.int lo t, .int hi u, .int 1 v] }, toks := tk } := I.kept fun b o e => Heap.get?_push_of_some _ e
  have e2 : (((hi - lo).toNat : Nat) : Int) - ((0 : Nat) : Int) = Builtin.Range.rangeSize lo hi 1 := by rw [rangeSize_one]; split <;> omega
  have e1 : lo + ((0 : Nat) : Int) * 1 = lo := by simp
  cases hs : Builtin.Range.small lo hi 1 with
  | true =>
    refine wpAny_pyIter_range (IsRange.new ..) hs ?_
    refine ⟨(s.heap.push { cls := .type "range", data := .fields #[.int lo t, .int hi u, .int 1 v] }).objs.size, [(s.heap.push { cls := .type "range", data := .fields #[.int lo t, .int hi u, .int 1 v] }).objs.size], _, _, H, rfl,
      I1.kept (t' := tk) fun b o e => Heap.get?_push_of_some _ e, turn_range _ lo (hi - lo).toNat, ?_, fun b hb => ?_, q⟩
    · show IsRangeIter _ _ (lo + ((0 : Nat) : Int) * 1) ((((hi - lo).toNat : Nat) : Int) - ((0 : Nat) : Int)) 1
      rw [e1, e2]
      exact Heap.get?_push_size _ rfl
    · have e : b = (s.heap.push { cls := .type "range", data := .fields #[.int lo t, .int hi u, .int 1 v] }).objs.size := by simpa using hb
      subst e
      exact I1.fpOk (Nat.le_refl _) (I1.hok.fresh (Nat.le_refl _))
  | false =>
    refine wpAny_pyIter_longrange (IsRange.new ..) hs ?_
    refine ⟨(s.heap.push { cls := .type "range", data := .fields #[.int lo t, .int hi u, .int 1 v] }).objs.size, [(s.heap.push { cls := .type "range", data := .fields #[.int lo t, .int hi u, .int 1 v] }).objs.size], _, _, H, rfl,
      I1.kept (t' := tk) fun b o e => Heap.get?_push_of_some _ e, turn_long _ lo (hi - lo).toNat, ?_, fun b hb => ?_, q⟩
    · show IsLongIter _ _ (lo + ((0 : Nat) : Int) * 1) ((((hi - lo).toNat : Nat) : Int) - ((0 : Nat) : Int)) 1
      rw [e1, e2]
      exact Heap.get?_push_size _ rfl
    · have e : b = (s.heap.push { cls := .type "range", data := .fields #[.int lo t, .int hi u, .int 1 v] }).objs.size := by simpa using hb
      subst e
      exact I1.fpOk (Nat.le_refl _) (I1.hok.fresh (Nat.le_refl _))
def iRng2A (ta : TA) : TI := fun σ H R => ta σ H fun vs H1 => ∃ i j : Int, vs = [.int i, .int j] ∧ R (Itr i (j - i).toNat) H1
theorem pi_range2A {a b : Expr} {ta : TA} {p pos : Pos} (hg : Gl X "range") (hm : X.mg "range" = none) (ha : PA X [a, b] ta) (hs : starEach [a, b] X.env = [(false, eval a X.env), (false, eval b X.env)] := by rfl) (hs2 : starEach [b] X.env = [(false, eval b X.env)] := by rfl) :
    PI X tg (.Call (.Name "range" p) [a, b] [] pos) (iRng2A ta) := by
  refine ⟨fun pins s σ H R I h => ?_⟩
  refine Call_ (ld_blt I hg hm boot_range (PyProof.Rows.callWith_type1 (thn (ha.run pos pins s σ H _ I h) fun us s1 ⟨vs, H1, I1, r1, q1⟩ => ?_) (by rw [hs, hs2]) (by rw [hs2]; rfl)))
  obtain ⟨i, j, e, q⟩ := q1
  subst e
  cases r1 with
  | cons r rr =>
    cases rr with
    | cons r' rr =>
      cases rr
      obtain ⟨t, rfl⟩ := r
      obtain ⟨t', rfl⟩ := r'
      exact call_range_2 (range_itA I1 q)
end
end L2
end
section
set_option maxHeartbeats 4000000
/-! PsMul: tuple * int, any number of times up to 1000. -/
namespace Ps
open PySem PySem.Spec PyProof.Rows L2
theorem tuple_mul1 (l : Addr) (items : Array Value) (n : Nat) (dd : Option Addr) (sl : Array (Option Value)) (x : Int) (u : Tok) (c0 : (decide (x < -(2 ^ 63)) || decide (x ≥ 2 ^ 63)) = false) (c1 : (items.isEmpty || x == 1) = true) :
    Meets (Builtin.«tuple.__mul__» ⟨[.ref l, .int x u], []⟩) (fun _ R s => s.heap.get? l = some { cls := .type "tuple", dict := dd, data := .seq items n, slots := sl } ∧ R (.ok (.ret (Value.ref l))) s) :=
  .of_wp fun prog w A R s h => by
    obtain ⟨hp, g, d, tk, os⟩ := s
    obtain ⟨hl, h⟩ := h
    have f1 := AutoSeq1.idx_int
    wp_walk using wpAny_loadPart' hl
    repeat (first
      | (refine wpAny_ite_false (decide_eq_false (by rw [c0]; exact Bool.false_ne_true)) ?_; wp_walk using wpAny_loadPart' hl)
      | (refine wpAny_ite_true (decide_eq_true (by rw [c1])) ?_; wp_walk using wpAny_loadPart' hl))
    exact ⟨_, rfl, h⟩
theorem tuple_mul0 (l : Addr) (items : Array Value) (n : Nat) (dd : Option Addr) (sl : Array (Option Value)) (x : Int) (u : Tok) (c0 : (decide (x < -(2 ^ 63)) || decide (x ≥ 2 ^ 63)) = false) (c1 : (items.isEmpty || x == 1) = false) (c2 : (decide (x ≤ 0) || items.isEmpty) = true) :
    Meets (Builtin.«tuple.__mul__» ⟨[.ref l, .int x u], []⟩) (fun _ R s => s.heap.get? l = some { cls := .type "tuple", dict := dd, data := .seq items n, slots := sl } ∧
      R (.ok (.ret (Value.ref s.heap.objs.size))) { s with heap := s.heap.push { cls := Value.type "tuple", data := Data.seq #[] }, toks := s.toks }) :=
  .of_wp fun prog w A R s h => by
    obtain ⟨hp, g, d, tk, os⟩ := s
    obtain ⟨hl, h⟩ := h
    have f1 := AutoSeq1.idx_int
    wp_walk using wpAny_loadPart' hl
    repeat (first
      | (refine wpAny_ite_false (decide_eq_false (by rw [c0]; exact Bool.false_ne_true)) ?_; wp_walk using wpAny_loadPart' hl)
      | (refine wpAny_ite_false (decide_eq_false (by rw [c1]; exact Bool.false_ne_true)) ?_; wp_walk using wpAny_loadPart' hl)
      | (refine wpAny_ite_true (decide_eq_true (by rw [c2])) ?_; wp_walk using wpAny_loadPart' hl))
    exact ⟨_, rfl, h⟩
theorem op_repA {X : Cx} : OpR X (binaryOp .Mult) (fun x y H Q => ∃ l k xs, x = .ref l ∧ y = .int k ∧ SqT X.K H l xs ∧ 0 ≤ k ∧ k ≤ 1000 ∧ xs.length ≤ 1000 ∧
    ((xs = [] ∨ k = 1) → Q (.ref l) H) ∧ ∀ p, H p = none → Q (.ref p) (upd H p (.tup (List.replicate k.toNat xs).flatten))) := by
  intro pins s σ H x y v u Q I rx ry h
  obtain ⟨l, k, xs, rfl, rfl, hT, h0, h1, hz, q1, q⟩ := h
  by_cases hne : xs = [] ∨ k = 1 ∨ k = 0
  · cases rx
    obtain ⟨t, rfl⟩ := ry
    obtain ⟨its, r, ⟨⟨cls, dd, data, sl⟩, ho, hc, n, hd⟩, hs⟩ := I.tuple hT
    simp only at hc hd
    subst hc hd
    have hle : its.length = xs.length := r.length.symm
    have c0 : (decide (k < -(2 ^ 63)) || decide (k ≥ 2 ^ 63)) = false := by
      rw [decide_eq_false (by omega), decide_eq_false (by omega)] <;> rfl
    have go : ∀ {P : Sem Value}, P = P := fun {P} => rfl
    by_cases c : xs = [] ∨ k = 1
    · have c1 : (its.toArray.isEmpty || k == 1) = true := by
        rcases c with c | c
        · subst c
          have : its = [] := List.eq_nil_of_length_eq_zero (by simpa using hle)
          subst this
          rfl
        · subst c
          simp
      refine wpAny_binaryOp_repeat_ref (T := "tuple") (U := "int") (by decide) ⟨_, ho, rfl⟩ (fun s' => typeIs_int s' k t) noFill_tuple_mul F.fills_int_mul F.slot_int_rmul repeat_tuple F.slot_int_index.lookup
        (call_meets F.slot_int_rmul (typeIs_int s k t) F.entry_int_rmul (F.args_int_rmul_2 _ _) (int_rmul_tuple k t l its.toArray n dd sl)
          ⟨ho, rfl, ⟨_, ho, rfl⟩, call_meets F.slot_tuple_mul ⟨_, ho, rfl⟩ F.entry_tuple_mul (F.args_tuple_mul_2 _ _) (tuple_mul1 l its.toArray n dd sl k t c0 c1) ⟨ho, ?_⟩⟩)
      exact ⟨.ref l, _, I, rfl, q1 c⟩
    · have k0 : k = 0 := by
        rcases hne with h | h | h
        · exact absurd (.inl h) c
        · exact absurd (.inr h) c
        · exact h
      subst k0
      have hn : its ≠ [] := fun e => c (.inl (by
        rw [e] at hle
        exact List.eq_nil_of_length_eq_zero hle.symm))
      have hi : its.toArray.isEmpty = false := by
        cases its with
        | nil => exact absurd rfl hn
        | cons a b => rfl
      refine wpAny_binaryOp_repeat_ref (T := "tuple") (U := "int") (by decide) ⟨_, ho, rfl⟩ (fun s' => typeIs_int s' 0 t) noFill_tuple_mul F.fills_int_mul F.slot_int_rmul repeat_tuple F.slot_int_index.lookup
        (call_meets F.slot_int_rmul (typeIs_int s 0 t) F.entry_int_rmul (F.args_int_rmul_2 _ _) (int_rmul_tuple 0 t l its.toArray n dd sl)
          ⟨ho, rfl, ⟨_, ho, rfl⟩, call_meets F.slot_tuple_mul ⟨_, ho, rfl⟩ F.entry_tuple_mul (F.args_tuple_mul_2 _ _) (tuple_mul0 l its.toArray n dd sl 0 t c0 (by rw [hi]; rfl) (by rfl)) ⟨ho, ?_⟩⟩)
      refine ⟨.ref s.heap.objs.size, _, I.laid (t' := s.toks) (o := .tup []) (fun b ob q => Heap.get?_push_of_some _ q) (Nat.le_refl _) ?_, rfl, q _ (I.hok.fresh (Nat.le_refl _))⟩
      exact ⟨Nat.zero_le _, _, .nil, IsTup.new _ _⟩
  · exact op_repT pins s σ H _ _ v u Q I rx ry ⟨l, k, xs, rfl, rfl, hT, fun e => hne (.inl e), by omega, h1, hz, q⟩
end Ps
end
section
set_option maxHeartbeats 8000000
/-! PsSetL: set(x), x a list of whole numbers. -/
namespace Ps
open PySem PySem.Spec PyProof.Rows L2
section
variable {P : Program} {w : World} {A : Around} {E : Value → Shared → Prop} {s : Shared}
/-- an empty set as it is made -/
abbrev oSet (w : World) : Obj := { cls := .type "set", dict := none, data := .set #[] 0 (.fresh 0 0 (!w.params.followText "set-order")) }
theorem init_setL {l : Addr} {items : Array Value} (ns : List Int) (hh : A.handled = none) (hl : s.heap.IsList l items) (hit : IntsAre items.toList ns) (hb : ns.length + 1 < scanBound) :
    codeAny (model P w) A (.call (.builtin "set.__init__") ⟨[.ref s.heap.objs.size, .ref l], []⟩) (wants (fun r s₂ => r = .none ∧ ∃ h' tk c, s₂ = { s with heap := h', toks := tk } ∧ SetR w h' s.heap.objs.size (fun j => decide (j ∈ ns)) c ∧ c ≤ ns.length ∧
      (∀ b o, s.heap.get? b = some o → h'.get? b = some o)) E) { s with heap := s.heap.push (oSet w) } := by
  have many : items.size = ns.length := by have q := IntsAre.length hit; rwa [Array.length_toList] at q
  have gS : (s.heap.push (oSet w)).get? s.heap.objs.size = some (oSet w) := Heap.get?_push_size _ rfl
  refine codeAny_call_builtin F.called_set.init.plain F.entry_set_init (check_set_init_1 ⟨_, gS, rfl⟩ ?_)
  have L1 : (s.heap.push (oSet w)).IsList l items := hl.push _
  obtain ⟨⟨c1, c2, c3, c4⟩, h1, e1, n0, e2⟩ := id hl
  simp only at e1 e2
  subst e1 e2
  have at1 : (s.heap.push (oSet w)).get? l = some _ := Heap.get?_push_of_some _ h1
  have f1 := F.sub_list_set
  have f2 := F.sub_list_frozenset
  have f3 : (Value.type "list" == Value.type "dict") = false := by decide
  unfold Builtin.«set.__init__» noKeywords Builtin.Frozenset.updateFrom
  generalize hI : pyIter = I
  wp_walk
  subst hI
  refine wpAny_pyIter_list L1 (wpAny_bind (wpAny_runValue ?_))
  have old : l < s.heap.objs.size := Heap.lt_size h1
  have sz : (s.heap.push (oSet w)).objs.size = s.heap.objs.size + 1 := Heap.size_push ..
  have n1 : l ≠ (s.heap.push (oSet w)).objs.size := Nat.ne_of_lt (by rw [sz]; exact Nat.lt_succ_of_lt old)
  have n2 : s.heap.objs.size ∉ [(s.heap.push (oSet w)).objs.size, l] := by
    rw [sz]
    simp only [List.mem_cons, List.not_mem_nil, or_false, not_or]
    exact ⟨Nat.ne_of_lt (Nat.lt_succ_self _), Nat.ne_of_gt old⟩
  have num : ∀ (i : Nat) (v : Value), items[i]? = some v → ∃ k t, ns[i]? = some k ∧ v = .int k t := by
    intro i v hv
    have lt : i < ns.length := many ▸ (Array.getElem?_eq_some_iff.mp hv).1
    obtain ⟨t, e⟩ := IntsAre.int_at hit i v (Array.getElem?_toList ▸ hv)
    exact ⟨ns[i], t, List.getElem?_eq_getElem lt, by rw [e]; simp [List.getD_eq_getElem?_getD, lt]⟩
  have hh3 : A.in1.in1.handled = none := by simp [hh]
  refine set_update_ints ((Walks.list hh3 _ l n1 items).toS) s.heap.objs.size n2 ns many hb num items.size 0 _ (Nat.sub_zero _) (Nat.zero_le _) ?_ ?_ ?_
  · exact ⟨⟨_, Heap.get?_push_size _ rfl, rfl, rfl⟩, L1.push _⟩
  · exact ⟨0, Nat.le_refl 0, setR_new_at (Heap.get?_push_of_some _ gS)⟩
  rintro ⟨h', g', d', t', o'⟩ c' mv hc' R'
  obtain rfl : g' = s.gens := mv.gens
  obtain rfl : d' = s.drawn := mv.drawn
  obtain rfl : o' = s.os := mv.os
  refine wpAny_pure (show wpAny _ _ (ret Value.none) _ _ _ from wpAny_pure ⟨rfl, h', t', c', rfl, R', many ▸ hc', fun b o e => ?_⟩)
  have lt : b < s.heap.objs.size := Heap.lt_size e
  refine mv.heap b o ?_ (Heap.get?_push_of_some _ (Heap.get?_push_of_some _ e))
  simp only [List.mem_cons, List.not_mem_nil, or_false, not_or]
  rw [sz]
  exact ⟨Nat.ne_of_lt lt, Nat.ne_of_lt (Nat.lt_succ_of_lt lt)⟩
theorem call_setL {l : Addr} {items : Array Value} (ns : List Int) {Q : Value → Shared → Prop} (hh : A.handled = none) (hl : s.heap.IsList l items) (hit : IntsAre items.toList ns) (hb : ns.length + 1 < scanBound)
    (h : ∀ (h' : Heap) (tk c : Nat), SetR w h' s.heap.objs.size (fun j => decide (j ∈ ns)) c → c ≤ ns.length → (∀ b o, s.heap.get? b = some o → h'.get? b = some o) → Q (.ref s.heap.objs.size) { s with heap := h', toks := tk }) :
    wpAny (model P w) A (call (.type "set") [.ref l]) Q E s := by
  obtain ⟨c0, rest, mro⟩ := F.called_set.mro
  have b1 := F.called_set.made
  have b2 := F.called_set.sub
  have b3 := F.called_set.notType
  have b4 := F.called_set.canCreate
  have b5 := F.typeCall_set_1 (.ref l)
  refine wpAny_call (codeAny_of_tree (show wpAny _ _ (callAny (.type "set") _) _ _ _ from wpAny_pure ⟨Code.quiet_builtin _ (by decide +kernel), codeAny_builtin F.entry_type_call ?_⟩))
  rw [Around.under_plain (weight_type_call_type "set" [.ref l] []) rfl]
  repeat (any_goals (first | assumption | wp_step))
  refine codeAny_mono (code_set_led1 (.ref l) (E := E) (Q₁ := fun obj s₁ => obj = .ref s.heap.objs.size ∧ s₁ = { s with heap := s.heap.push (oSet w) }) ⟨rfl, rfl⟩) fun r s₁ z => ?_
  cases r with
  | error e => exact z
  | ok fl =>
    cases fl with
    | ret obj =>
      obtain ⟨e1, e2⟩ := z
      subst e1 e2
      have b6 := F.called_set.init.lookup
      have b7 := F.called_set.init.bind (.ref s.heap.objs.size)
      have b8 : Shared.TypeIs { s with heap := s.heap.push (oSet w) } (.ref s.heap.objs.size) "set" := ⟨_, Heap.get?_push_size _ rfl, rfl⟩
      repeat (any_goals (first | assumption | wp_step))
      refine codeAny_mono (init_setL (E := E) ns (by simp [hh]) hl hit hb) fun r2 s2 z2 => ?_
      cases r2 with
      | error e => exact z2
      | ok fl2 =>
        cases fl2 with
        | ret v =>
          obtain ⟨e1, h', tk, c, e2, R', hc, k⟩ := z2
          subst e1 e2
          repeat (any_goals (first | assumption | wp_step))
          exact h _ _ _ R' hc k
        | _ => exact z2.elim
    | _ => exact z.elim
end
theorem cr_setLI {X : Cx} (hc : X.calm = true) : CallR X (.type "set") (fun vs H Q => ∃ (a : Addr) (ns : List Int), vs = [V.ref a] ∧ SqL X.K H a (ns.map V.int) ∧ ns.length < 64 ∧
    ∀ p c, c ≤ ns.length → H p = none → Q (.ref p) (upd H p (SetO X.w p (fun j => decide (j ∈ ns)) c))) := by
  intro pins s σ H vs us Q I r h
  obtain ⟨a, ns, rfl, hq, hl, q⟩ := h
  rw [Vals.ref1 r]
  obtain ⟨its, rv, pt, hz⟩ := I.list hq
  refine call_setL ns (I.ok.hd hc) pt.isList (by simpa using ints_of_vals rv) (by unfold scanBound; omega) fun h' tk c R1 hcn k => ?_
  exact ⟨.ref _, _, I.laid (t' := tk) k (Nat.le_refl _) (setO_new R1), rfl, q _ c hcn (I.hok.fresh (Nat.le_refl _))⟩
end Ps
end
section
set_option maxHeartbeats 4000000
/-! PsMinD: min(x), x a list of data that are alike. -/
namespace Ps
open PySem PySem.Spec PyProof.Rows L2
open PySem.W (alike alikeAll dataLt AlikeAll minD)
mutual
theorem alkD_py : ∀ d e : D, alkD d e = PySem.W.alike (toPy d) (toPy e)
  | .non, e => by cases e <;> simp [alkD, toPy, PySem.W.alike]
  | .bl _, e => by cases e <;> simp [alkD, toPy, PySem.W.alike]
  | .int _, e => by cases e <;> simp [alkD, toPy, PySem.W.alike]
  | .str _, e => by cases e <;> simp [alkD, toPy, PySem.W.alike]
  | .tup xs, e => by
    cases e with
    | tup ys => simp only [alkD, toPy, PySem.W.alike]; exact alkDs_py xs ys
    | _ => simp [alkD, toPy, PySem.W.alike]
  | .lst xs, e => by
    cases e with
    | lst ys => simp only [alkD, toPy, PySem.W.alike]; exact alkDs_py xs ys
    | _ => simp [alkD, toPy, PySem.W.alike]
  | .dic _, e => by cases e <;> simp [alkD, toPy, PySem.W.alike]
  | .dik _, e => by cases e <;> simp [alkD, toPy, PySem.W.alike]
  | .obj _ _, e => by cases e <;> simp [alkD, toPy, PySem.W.alike]
theorem alkDs_py : ∀ d e : List D, alkDs d e = PySem.W.alikeAll (toPys d) (toPys e)
  | [], _ => by simp [alkDs, toPys, PySem.W.alikeAll]
  | _ :: _, [] => by simp [alkDs, toPys, PySem.W.alikeAll]
  | x :: xs, y :: ys => by
    simp only [alkDs, toPys, PySem.W.alikeAll]
    rw [alkD_py x y, alkDs_py xs ys]
end
mutual
theorem ltD_py : ∀ d e : D, alkD d e = true → ltD d e = PySem.W.dataLt (toPy d) (toPy e)
  | .non, e, h => by
    cases e with
    | non =>
      simp only [ltD, toPy, PySem.W.dataLt, PySem.W.keyToks]
      exact (PyProof.Rows.lex_irrefl _).symm
    | _ => simp [alkD] at h
  | .bl a, e, h => by
    cases e with
    | bl b => simp only [ltD, toPy]; rw [PySem.W.dataLt_bool]; cases a <;> cases b <;> rfl
    | _ => simp [alkD] at h
  | .int a, e, h => by
    cases e with
    | int b => simp only [ltD, toPy]; rw [PySem.W.dataLt_int]
    | _ => simp [alkD] at h
  | .str a, e, h => by
    cases e with
    | str b => simp only [ltD, toPy]; rw [PySem.W.dataLt_str]
    | _ => simp [alkD] at h
  | .tup xs, e, h => by
    cases e with
    | tup ys => simp only [ltD, toPy]; rw [PySem.W.dataLt_tuple]; exact ltDs_py xs ys (by simpa [alkD] using h)
    | _ => simp [alkD] at h
  | .lst xs, e, h => by
    cases e with
    | lst ys => simp only [ltD, toPy]; rw [PySem.W.dataLt_list]; exact ltDs_py xs ys (by simpa [alkD] using h)
    | _ => simp [alkD] at h
  | .dic _, e, h => by simp [alkD] at h
  | .dik _, e, h => by simp [alkD] at h
  | .obj _ _, e, h => by simp [alkD] at h
theorem ltDs_py : ∀ xs ys : List D, alkDs xs ys = true → ltDs xs ys = PyProof.Rows.lexLt PyProof.Rows.itemOrd (PySem.W.keyToksAll (toPys xs)) (PySem.W.keyToksAll (toPys ys))
  | [], [], _ => by simp only [ltDs]; exact (PyProof.Rows.lex_irrefl _).symm
  | [], y :: ys, _ => by
    simp only [ltDs, toPys]
    rw [PySem.W.toks_all_cons]
    simp only [PySem.W.keyToksAll]
    rw [PyProof.Rows.lex_diff (O := PyProof.Rows.itemOrd) (by simp)]
    rfl
  | x :: xs, [], _ => by
    simp only [ltDs, toPys]
    rw [PySem.W.toks_all_cons]
    simp only [PySem.W.keyToksAll]
    rw [PyProof.Rows.lex_diff (O := PyProof.Rows.itemOrd) (by simp)]
    rfl
  | x :: xs, y :: ys, h => by
    rw [alkDs, Bool.and_eq_true] at h
    have h1 : PySem.W.alike (toPy x) (toPy y) = true := by rw [← alkD_py]; exact h.1
    simp only [ltDs, toPys]
    cases e : eqD x y with
    | true =>
      rw [if_pos rfl, PySem.W.dataLt_all_yes h1 (by rw [← eqD_py]; exact e)]
      exact ltDs_py xs ys h.2
    | false =>
      rw [if_neg Bool.false_ne_true, PySem.W.dataLt_all_no h1 (by rw [← eqD_py]; exact e)]
      exact ltD_py x y h.1
end
mutual
theorem toPy_inj : ∀ d e : D, alkD d e = true → toPy d = toPy e → d = e
  | .non, e, h, q => by cases e <;> simp [alkD] at h; rfl
  | .bl a, e, h, q => by cases e <;> simp [alkD] at h; simpa [toPy] using q
  | .int a, e, h, q => by cases e <;> simp [alkD] at h; simpa [toPy] using q
  | .str a, e, h, q => by cases e <;> simp [alkD] at h; simpa [toPy] using q
  | .tup xs, e, h, q => by
    cases e with
    | tup ys =>
      simp only [toPy, PyData.tuple.injEq] at q
      rw [toPys_inj xs ys (by simpa [alkD] using h) q]
    | _ => simp [alkD] at h
  | .lst xs, e, h, q => by
    cases e with
    | lst ys =>
      simp only [toPy, PyData.list.injEq] at q
      rw [toPys_inj xs ys (by simpa [alkD] using h) q]
    | _ => simp [alkD] at h
  | .dic _, e, h, _ => by simp [alkD] at h
theorem toPys_inj : ∀ xs ys : List D, alkDs xs ys = true → toPys xs = toPys ys → xs = ys
  | [], [], _, _ => rfl
  | [], _ :: _, _, q => by simp [toPys] at q
  | _ :: _, [], _, q => by simp [toPys] at q
  | x :: xs, y :: ys, h, q => by
    rw [alkDs, Bool.and_eq_true] at h
    simp only [toPys, List.cons.injEq] at q
    rw [toPy_inj x y h.1 q.1, toPys_inj xs ys h.2 q.2]
end
theorem alkP_of {xs : List D} (h : alkP xs = true) : (∀ a ∈ xs, ∀ b ∈ xs, alkD a b = true) ∧ ∀ a ∈ xs, toPy a ≠ .none := by
  unfold alkP at h
  rw [List.all_eq_true] at h
  refine ⟨fun a ha b hb => ?_, fun a ha => ?_⟩
  · have q := h a ha
    rw [Bool.and_eq_true, List.all_eq_true] at q
    exact q.2 b hb
  · have q := h a ha
    rw [Bool.and_eq_true] at q
    cases a <;> simp [toPy]
    simp [isNon] at q
theorem minDD_py : ∀ (xs : List D) (x : D) (S : List D), (∀ a ∈ S, ∀ b ∈ S, alkD a b = true) → x ∈ S → (∀ y ∈ xs, y ∈ S) → minDD x xs ∈ S ∧ toPy (minDD x xs) = PySem.W.minD (toPy x) (toPys xs)
  | [], x, S, _, hx, _ => ⟨hx, rfl⟩
  | y :: ys, x, S, h, hx, hy => by
    have e : ltD y x = PySem.W.dataLt (toPy y) (toPy x) := ltD_py y x (h y (hy y (by simp)) x hx)
    have e1 : minDD x (y :: ys) = minDD (if ltD y x = true then y else x) ys := rfl
    have e2 : PySem.W.minD (toPy x) (toPys (y :: ys)) = PySem.W.minD (if PySem.W.dataLt (toPy y) (toPy x) = true then toPy y else toPy x) (toPys ys) := by simp only [toPys]; rfl
    rw [e1, e2, ← e]
    by_cases c : ltD y x = true
    · rw [if_pos c, if_pos c]
      exact minDD_py ys y S h (hy y (by simp)) fun z hz => hy z (List.mem_cons_of_mem _ hz)
    · rw [if_neg c, if_neg c]
      exact minDD_py ys x S h hx fun z hz => hy z (List.mem_cons_of_mem _ hz)
section
variable {X : Cx} {pins : List (Addr × Obj)} {s : Shared} {σ : L2.St} {H R : Hp}
theorem cr_minD (hc : X.calm = true) (hu : X.A.units + 65 < cLine) {a : Addr} {vs : List V} {us : List Value} {d : D} {ds : List D} {Q : VK} (I : Inv X pins σ H s) (r : Vals [.ref a] us) (sm : Same R H) (hs : SqL X.K H a vs) (rr : Reps X.K R vs (d :: ds))
    (c : alkP (d :: ds) = true) (dp : deps (d :: ds) ≤ 64) (q : ∀ v, Rep X.K R v (minDD d ds) → Q v H) : PySem.wpAny (model X.prog X.w) X.A (call (.builtin "min") us) (EP X pins σ Q) X.xe s := by
  obtain ⟨its, rv, hl, _⟩ := I.list hs
  rw [Vals.ref1 r]
  obtain ⟨c1, c2⟩ := alkP_of c
  obtain ⟨m1, m2⟩ := minDD_py ds d (d :: ds) c1 (by simp) fun y hy => List.mem_cons_of_mem _ hy
  obtain ⟨as, ra⟩ := Dp.readsAll I _ _ _ (Reps.dp sm (d :: ds) vs (by omega) rr) rv
  have hd := deps_py (d :: ds)
  refine PySem.W.min_list_data (x := toPy d) (xs := toPys ds) (as := as) (I.ok.hd hc) hl.isList ?_ ?_ ?_ fun i v h' tk bs hv rd hk => ?_
  · simpa [toPys] using ra
  · refine ⟨fun x hx y hy => ?_, fun x hx => ?_⟩
    · have hx : x ∈ (d :: ds).map toPy := by simpa [toPys_map] using hx
      have hy : y ∈ (d :: ds).map toPy := by simpa [toPys_map] using hy
      obtain ⟨x', hx', rfl⟩ := List.mem_map.mp hx
      obtain ⟨y', hy', rfl⟩ := List.mem_map.mp hy
      rw [← alkD_py]
      exact c1 x' hx' y' hy'
    · have hx : x ∈ (d :: ds).map toPy := by simpa [toPys_map] using hx
      obtain ⟨x', hx', rfl⟩ := List.mem_map.mp hx
      exact c2 x' hx'
  · have e : PyData.depthAll (toPy d :: toPys ds) ≤ 64 := Nat.le_trans (by simpa [toPys] using hd) dp
    omega
  · have hv' : its[i]? = some v := by simpa using hv
    have li : i < vs.length := by
      rw [rv.length]
      exact (List.getElem?_eq_some_iff.mp hv').1
    obtain ⟨u, hu', ru⟩ := rv.get (i := i) (x := vs[i]) (by simp [li])
    rw [hv'] at hu'
    cases hu'
    have ld : i < (d :: ds).length := by rw [← rr.length]; exact li
    obtain ⟨w, hw, rw'⟩ := rr.get (i := i) (d := (d :: ds)[i]) (by simp)
    have ew : w = vs[i] := by
      have z : vs[i]? = some vs[i] := by simp [li]
      rw [z] at hw
      exact (Option.some.inj hw).symm
    subst ew
    have me : (d :: ds)[i] ∈ d :: ds := List.getElem_mem ld
    have di : dep (d :: ds)[i] < 1000 := by
      have go : ∀ (l : List D) (x : D), x ∈ l → dep x ≤ deps l := by
        intro l
        induction l with
        | nil => intro x hx; cases hx
        | cons y r ih =>
          intro x hx
          simp only [deps]
          rcases List.mem_cons.mp hx with z | z
          · rw [z]; exact Nat.le_max_left _ _
          · exact Nat.le_trans (ih x z) (Nat.le_max_right _ _)
      have := go _ _ me
      omega
    obtain ⟨bs', rd'⟩ := Dp.reads I _ _ _ (Rep.dp sm _ _ di rw') ru
    have e : toPy (d :: ds)[i] = PySem.W.minD (toPy d) (toPys ds) := by
      refine PySem.W.alike_unique _ _ _ _ _ ?_ (PySem.W.reads_keeps hk rd') rd
      rw [← m2, ← alkD_py]
      exact c1 _ me _ m1
    have e2 : (d :: ds)[i] = minDD d ds := toPy_inj _ _ (c1 _ me _ m1) (by rw [e, m2])
    exact ⟨vs[i], H, I.kept hk, ru, q _ (by rw [← e2]; exact rw')⟩
end
end Ps
end
section
set_option maxHeartbeats 4000000
/-! PsStr: list(text), tuple(text); a dict beside a text by == and !=. -/
namespace PySem
section
theorem dict_eq_declines_str (l : Addr) (o : Obj) (hc : o.cls = .type "dict") (b : Str) (u : Tok) :
    Meets (Builtin.«dict.__eq__» ⟨[.ref l, .str b u], []⟩) (fun _ R s => s.heap.get? l = some o ∧ R (.ok (.ret .notImplemented)) s) :=
  .of_wp fun prog w A R s h => by obtain ⟨hp, g, d, tk, os⟩ := s; obtain ⟨hl, h⟩ := h; have f1 := F.sub_str_dict; wp_walk using AutoSeq1.wpAny_loadPart' hl, wpAny_load hl; exact ⟨_, rfl, h⟩
theorem dict_ne_declines_str (l : Addr) (o : Obj) (hc : o.cls = .type "dict") (b : Str) (u : Tok) :
    Meets (Builtin.«dict.__ne__» ⟨[.ref l, .str b u], []⟩) (fun _ R s => s.heap.get? l = some o ∧ R (.ok (.ret .notImplemented)) s) :=
  .of_wp fun prog w A R s h => by obtain ⟨hp, g, d, tk, os⟩ := s; obtain ⟨hl, h⟩ := h; have f1 := F.sub_str_dict; wp_walk using AutoSeq1.wpAny_loadPart' hl, wpAny_load hl; exact ⟨_, rfl, h⟩
theorem str_eq_declines_dict (b : Str) (u : Tok) (l : Addr) (c : Value) (es : Array DictEntry) (ep : Nat) (dd : Option Addr) (sl : Array (Option Value)) :
    Meets (Builtin.«str.__eq__» ⟨[.str b u, .ref l], []⟩) (fun _ R s => s.heap.get? l = some { cls := c, dict := dd, data := .dict es ep, slots := sl } ∧ R (.ok (.ret .notImplemented)) s) :=
  .of_wp fun prog w A R s h => by obtain ⟨hp, g, d, tk, os⟩ := s; obtain ⟨hl, h⟩ := h; wp_walk using AutoSeq1.wpAny_loadPart' hl, wpAny_load hl; exact ⟨_, rfl, h⟩
theorem str_ne_declines_dict (b : Str) (u : Tok) (l : Addr) (c : Value) (es : Array DictEntry) (ep : Nat) (dd : Option Addr) (sl : Array (Option Value)) :
    Meets (Builtin.«str.__ne__» ⟨[.str b u, .ref l], []⟩) (fun _ R s => s.heap.get? l = some { cls := c, dict := dd, data := .dict es ep, slots := sl } ∧ R (.ok (.ret .notImplemented)) s) :=
  .of_wp fun prog w A R s h => by obtain ⟨hp, g, d, tk, os⟩ := s; obtain ⟨hl, h⟩ := h; wp_walk using AutoSeq1.wpAny_loadPart' hl, wpAny_load hl; exact ⟨_, rfl, h⟩
end
end PySem
namespace PySem.SeqAt
section
variable {A : Around} {s : Shared}
theorem RcAt.dict_str {l : Addr} {o : Obj} {es : Array DictEntry} {ep : Nat} (b : Str) (u : Tok) (ho : s.heap.get? l = some o) (hc : o.cls = .type "dict") (hd : o.data = .dict es ep) (hu : A.units < cLine) : RcAt A s (.ref l) (.str b u) false := fun prog w E Q h => by
  obtain ⟨cls, dd, data, sl⟩ := o
  simp only at hc hd
  subst hc hd
  exact rc_eq_decline_or (k := false) ⟨_, ho, rfl⟩ (typeIs_str s b u) (by decide) F.sub_str_dict F.slot_dict_eq F.slot_str_eq_refl
    (fun _ hq => call_meets F.slot_dict_eq ⟨_, ho, rfl⟩ F.entry_dict_eq (F.args_dict_eq_2 _ _) (dict_eq_declines_str l _ rfl b u) ⟨ho, hq⟩)
    (fun _ hq => call_meets F.slot_str_eq_refl (typeIs_str s b u) F.entry_str_eq (F.args_str_eq_2 _ _) (str_eq_declines_dict b u l (.type "dict") es ep dd sl) ⟨ho, hq⟩)
    (fun _ hq => wpAny_of_eq (rfl : isSame (.ref l) (.str b u) = pure false) hq) (.inr hu) h
theorem RcNeAt.dict_str {l : Addr} {o : Obj} {es : Array DictEntry} {ep : Nat} (b : Str) (u : Tok) (ho : s.heap.get? l = some o) (hc : o.cls = .type "dict") (hd : o.data = .dict es ep) (hu : A.units < cLine) : RcNeAt A s (.ref l) (.str b u) true := fun prog w E Q h => by
  obtain ⟨cls, dd, data, sl⟩ := o
  simp only at hc hd
  subst hc hd
  exact rc_ne_decline_or (k := false) ⟨_, ho, rfl⟩ (typeIs_str s b u) (by decide) F.sub_str_dict F.slot_dict_ne F.slot_str_ne_refl
    (fun _ hq => call_meets F.slot_dict_ne ⟨_, ho, rfl⟩ F.entry_dict_ne (F.args_dict_ne_2 _ _) (dict_ne_declines_str l _ rfl b u) ⟨ho, hq⟩)
    (fun _ hq => call_meets F.slot_str_ne_refl (typeIs_str s b u) F.entry_str_ne (F.args_str_ne_2 _ _) (str_ne_declines_dict b u l (.type "dict") es ep dd sl) ⟨ho, hq⟩)
    (fun _ hq => wpAny_of_eq (rfl : isSame (.ref l) (.str b u) = pure false) hq) (.inr hu) h
end
end PySem.SeqAt
namespace Ps
open PySem PySem.Spec PyProof.Rows L2
section
variable {X : Cx}
theorem op_eq_ds (hu : X.A.units < cLine) : OpR X (compareOp .Eq) (fun x y H Q => ∃ a tv z, x = V.ref a ∧ H a = some (.dT tv) ∧ y = V.str z ∧ Q (.bl false) H) := by
  intro pins s σ H x y v u Q I rx ry h
  obtain ⟨a, tv, z, rfl, ha, rfl, q⟩ := h
  cases rx
  obtain ⟨t, rfl⟩ := ry
  obtain ⟨_, _, xs, _, o, es, ep, ho, hx, hd, _⟩ := I.hok a _ ha
  exact SeqAt.RcAt.dict_str z t ho hx.1 hd hu X.prog X.w _ _ ⟨.bl false, H, I, rfl, q⟩
theorem op_ne_ds (hu : X.A.units < cLine) : OpR X (compareOp .NotEq) (fun x y H Q => ∃ a tv z, x = V.ref a ∧ H a = some (.dT tv) ∧ y = V.str z ∧ Q (.bl true) H) := by
  intro pins s σ H x y v u Q I rx ry h
  obtain ⟨a, tv, z, rfl, ha, rfl, q⟩ := h
  cases rx
  obtain ⟨t, rfl⟩ := ry
  obtain ⟨_, _, xs, _, o, es, ep, ho, hx, hd, _⟩ := I.hok a _ ha
  exact SeqAt.RcNeAt.dict_str z t ho hx.1 hd hu X.prog X.w _ _ ⟨.bl true, H, I, rfl, q⟩
/-- a text's signs -/
def sgnV (z : Str) : List V := z.cps.toList.map fun c => V.str ⟨#[c]⟩
theorem vals_at : ∀ {xs : List V} {us : List Value}, us.length = xs.length → (∀ (i : Nat) (x : V) (u : Value), xs[i]? = some x → us[i]? = some u → L2.RelV x u) → Vals xs us
  | [], [], _, _ => .nil
  | [], _ :: _, h, _ => by cases h
  | _ :: _, [], h, _ => by cases h
  | x :: xs, u :: us, h, k => .cons (k 0 x u rfl rfl) (vals_at (by simpa using h) fun i y v h1 h2 => k (i + 1) y v (by simpa using h1) (by simpa using h2))
theorem sgn_vals {z : Str} {acc : Array Value} (h : ItemsOf (SignAt z) acc z.cps.size) : Vals (sgnV z) acc.toList := by
  refine vals_at (by unfold sgnV; simp [h.1]) fun i x u h1 h2 => ?_
  obtain ⟨c, t, hc, rfl⟩ := h.2 i u (by simpa using h2)
  unfold sgnV at h1
  rw [List.getElem?_map, Array.getElem?_toList, hc] at h1
  cases h1
  exact ⟨t, rfl⟩
theorem call_list_text (hc : X.calm = true) : CallR X (.type "list") (fun xs H Q => ∃ z, xs = [V.str z] ∧ z.cps.size ≤ sizeLine ∧ ∀ l, H l = none → Q (.ref l) (upd H l (.lst (sgnV z)))) := by
  intro pins s σ H xs us Q I r h
  obtain ⟨z, rfl, hz, q⟩ := h
  obtain ⟨u, rfl, t, rfl⟩ := vals1 r
  refine call_list_str (I.ok.hd hc) z t (fun h' tk acc c' kp e hi => ?_) hz
  have r' := sgn_vals hi
  have hl : (sgnV z).length ≤ sizeLine := by unfold sgnV; simpa using hz
  exact ⟨.ref s.heap.objs.size, _, I.laid (t' := tk) kp (Nat.le_refl _) (show ObjOk X.prog X.w _ h' _ (.lst (sgnV z)) from ⟨hl, acc.toList, c', r', by simpa using e⟩), rfl, q _ (I.hok.fresh (Nat.le_refl _))⟩
theorem call_tuple_text (hc : X.calm = true) : CallR X (.type "tuple") (fun xs H Q => ∃ z, xs = [V.str z] ∧ z.cps.size ≤ sizeLine ∧ ∀ l, H l = none → Q (.ref l) (upd H l (.tup (sgnV z)))) := by
  intro pins s σ H xs us Q I r h
  obtain ⟨z, rfl, hz, q⟩ := h
  obtain ⟨u, rfl, t, rfl⟩ := vals1 r
  refine call_tuple_str (I.ok.hd hc) z t (fun h' tk acc kp hi => ?_) hz
  have r' := sgn_vals hi
  have hl : (sgnV z).length ≤ sizeLine := by unfold sgnV; simpa using hz
  have I1 : Inv X pins σ H { s with heap := h', toks := tk } := I.kept (t' := tk) kp
  have I2 : Inv X pins σ (upd H h'.objs.size (.tup (sgnV z))) { s with heap := h'.push { cls := .type "tuple", data := .seq acc }, toks := tk } :=
    I1.laid (t' := tk) (fun b o e => Heap.get?_push_of_some _ e) (Nat.le_refl _) (show ObjOk X.prog X.w _ _ _ (.tup (sgnV z)) from ⟨hl, acc.toList, r', by simpa using IsTup.new _ _⟩)
  exact ⟨.ref h'.objs.size, _, I2, rfl, q _ (I1.hok.fresh (Nat.le_refl _))⟩
end
end Ps
end
section
set_option maxHeartbeats 2000000
/-! PsOps: what the operators do with data. -/
namespace Ps
open PySem PySem.Spec PyProof.Rows L2
variable [Tbs]
/-- a list, a dict that may yet be changed, but not now -/
def Shal (K : PySem.W.Frag) (R H : Hp) (v : V) (d : D) : Prop :=
  Rep K R v d ∨ (∃ a vs ds, v = .ref a ∧ d = .lst ds ∧ SqL K H a vs ∧ Reps K R vs ds) ∨ (∃ a tv kvs, v = .ref a ∧ d = .dic kvs ∧ H a = some (.dT tv) ∧ RepKs tv kvs) ∨ ∃ a fp, v = .ref a ∧ OwnT K R H a d fp
section
variable {K : PySem.W.Frag} {R R' H H' : Hp} {v : V} {d : D}
theorem Rep.shal (h : Rep K R v d) : Shal K R H v d := .inl h
theorem Shal.mono (e : Same R R') (e' : SameN H H') (h : Shal K R H v d) : Shal K R' H' v d := by
  rcases h with h | ⟨a, vs, ds, h1, h2, h3, h4⟩ | ⟨a, tv, kvs, h1, h2, h3, h4⟩ | ⟨a, fp, h1, h2⟩
  · exact .inl (h.mono e)
  · exact .inr (.inl ⟨a, vs, ds, h1, h2, e'.seq h3, h4.mono e⟩)
  · exact .inr (.inr (.inl ⟨a, tv, kvs, h1, h2, e'.at h3, h4⟩))
  · exact .inr (.inr (.inr ⟨a, fp, h1, h2.mono e e'⟩))
theorem Shal.lst_inv {ds : List D} (s : Same R H) (h : Shal K R H v (.lst ds)) : ∃ a vs, v = .ref a ∧ SqL K H a vs ∧ Reps K R vs ds := by
  rcases h with h | ⟨a, vs, es, h1, h2, h3, h4⟩ | ⟨a, tv, kvs, h1, h2, h3, h4⟩ | ⟨a, fp, h1, h2⟩
  · cases h with
    | lst h r => exact ⟨_, _, rfl, s.seq h, r⟩
  · cases h2
    exact ⟨a, vs, h1, h3, h4⟩
  · cases h2
  · cases h2 with
    | lst h r => exact ⟨a, _, h1, SqL.of h, r⟩
theorem Shal.tup_inv' {ds : List D} (h : Shal K R H v (.tup ds)) : ∃ a vs, v = .ref a ∧ R a = some (.tup vs) ∧ Reps K R vs ds := by
  rcases h with h | ⟨a, vs, es, h1, h2, h3, h4⟩ | ⟨a, tv, kvs, h1, h2, h3, h4⟩ | ⟨a, fp, h1, h2⟩
  · cases h with
    | tup h r => exact ⟨_, _, rfl, h, r⟩
  · cases h2
  · cases h2
  · cases h2
theorem Shal.tup_inv {ds : List D} (h : Shal K R H v (.tup ds)) : ∃ a vs, v = .ref a ∧ SqT K R a vs ∧ Reps K R vs ds := by
  obtain ⟨a, vs, h1, h2, h3⟩ := h.tup_inv'
  exact ⟨a, vs, h1, SqT.of h2, h3⟩
theorem Shal.dic_inv {kvs : List (D × D)} (s : Same R H) (h : Shal K R H v (.dic kvs)) : ∃ a tv, v = .ref a ∧ H a = some (.dT tv) ∧ RepKs tv kvs := by
  rcases h with h | ⟨a, vs, es, h1, h2, h3, h4⟩ | ⟨a, tv, kvs, h1, h2, h3, h4⟩ | ⟨a, fp, h1, h2⟩
  · cases h with
    | dic h r => exact ⟨_, _, rfl, s _ _ h, r⟩
  · cases h2
  · cases h2
    exact ⟨a, tv, h1, h3, h4⟩
  · cases h2
theorem Shal.int_inv {i : Int} (h : Shal K R H v (.int i)) : v = .int i := by
  rcases h with h | ⟨a, vs, es, h1, h2, h3, h4⟩ | ⟨a, tv, kvs, h1, h2, h3, h4⟩ | ⟨a, fp, h1, h2⟩
  · cases h; rfl
  · cases h2
  · cases h2
  · cases h2
theorem Shal.bl_inv {i : Bool} (h : Shal K R H v (.bl i)) : v = .bl i := by
  rcases h with h | ⟨a, vs, es, h1, h2, h3, h4⟩ | ⟨a, tv, kvs, h1, h2, h3, h4⟩ | ⟨a, fp, h1, h2⟩
  · cases h; rfl
  · cases h2
  · cases h2
  · cases h2
theorem Shal.non_inv (h : Shal K R H v .non) : v = .non := by
  rcases h with h | ⟨a, vs, es, h1, h2, h3, h4⟩ | ⟨a, tv, kvs, h1, h2, h3, h4⟩ | ⟨a, fp, h1, h2⟩
  · cases h; rfl
  · cases h2
  · cases h2
  · cases h2
theorem Shal.str_inv {s : List Nat} (h : Shal K R H v (.str s)) : v = .str ⟨s.toArray⟩ ∧ GoodS s := by
  rcases h with h | ⟨a, vs, es, h1, h2, h3, h4⟩ | ⟨a, tv, kvs, h1, h2, h3, h4⟩ | ⟨a, fp, h1, h2⟩
  · cases h with
    | str e g => exact ⟨by rw [str_eta e], g⟩
  · cases h2
  · cases h2
  · cases h2
theorem cmp_dep (c : cmpB d = true) : dep d < 1000 := by
  have h1 : dep d ≤ 64 := of_decide_eq_true c
  omega
theorem Shal.dp (s : Same R H) (h : Shal K R H v d) (c : cmpB d = true) : Dp K H v (toPy d) := by
  have c := cmp_dep c
  rcases h with h | ⟨a, vs, ds, rfl, rfl, h3, h4⟩ | ⟨a, tv, kvs, h1, rfl, h3, h4⟩ | ⟨a, fp, h1, h2⟩
  · exact Rep.dp s _ _ c h
  · exact .lst h3 (Reps.dp s _ _ (by simp only [dep] at c; omega) h4)
  · simp only [dep] at c; omega
  · subst h1
    cases h2 with
    | lst h r => exact .lst (SqL.of h) (Reps.dp s _ _ (by simp only [dep] at c; omega) r)
    | dik h r => simp only [dep] at c; omega
    | obj h hd r => simp only [dep] at c; omega
theorem Shal.lay (h : Shal K R H v d) (c : cmpB d = true) : (toPy d).canLay0 = true := by
  have c := cmp_dep c
  rcases h with h | ⟨a, vs, ds, rfl, rfl, h3, h4⟩ | ⟨a, tv, kvs, h1, rfl, h3, h4⟩ | ⟨a, fp, h1, h2⟩
  · exact Rep.lay _ _ c h
  · simp only [toPy, PyData.canLay0]
    exact Reps.lay _ _ (by simp only [dep] at c; omega) h4
  · simp only [dep] at c; omega
  · cases h2 with
    | lst h r =>
      simp only [toPy, PyData.canLay0]
      exact Reps.lay _ _ (by simp only [dep] at c; omega) r
    | dik h r => simp only [dep] at c; omega
    | obj h hd r => simp only [dep] at c; omega
theorem Shal.shaped (h : Shal K R H v d) (c : cmpB d = true) : SeqAt.shaped (toPy d) = true := by
  have h1 : dep d ≤ 64 := of_decide_eq_true c
  have h2 := dep_py d
  unfold SeqAt.shaped
  rw [h.lay c, Bool.true_and]
  exact decide_eq_true (by omega)
theorem Rep.S {s : List Nat} (g : GoodS s) : Rep K R (.str ⟨s.toArray⟩) (.str s) := .str (by simp) g
theorem Rep.S1 {c : Nat} (h : c < 0x110000) : Rep K R (.str ⟨#[c]⟩) (.str [c]) :=
  .str rfl ⟨by show 1 ≤ SZ; decide, by simp [h]⟩
theorem GoodS.mem {s : List Nat} (g : GoodS s) {c : Nat} (h : c ∈ s) : c < 0x110000 := of_decide_eq_true (List.all_eq_true.mp g.2 c h)
theorem GoodS.append {s t : List Nat} (g : GoodS s) (g' : GoodS t) (h : s.length + t.length ≤ SZ) : GoodS (s ++ t) :=
  ⟨by rw [List.length_append]; exact h, by rw [List.all_append, g.2, g'.2]; rfl⟩
theorem GoodS.sub {s t : List Nat} (g : GoodS s) (hl : t.length ≤ s.length) (hm : ∀ c ∈ t, c ∈ s) : GoodS t :=
  ⟨Nat.le_trans hl g.1, List.all_eq_true.mpr fun c hc => List.all_eq_true.mp g.2 c (hm c hc)⟩
theorem len_S (s : List Nat) : (⟨s.toArray⟩ : Str).length = s.length := by simp [Str.length]
end
/-- what is wanted of an answer that raises nothing -/
def Post0 (K : PySem.W.Frag) (R H : Hp) (r : Res D) (Q : VK) : Prop :=
  match r with
  | .ok d => ∀ v R' H', Ext R H R' H' → Rep K R' v d → Q v H'
  | _ => False
theorem Post0.here {K : PySem.W.Frag} {R H : Hp} {d : D} {v : V} {Q : VK} (s : Same R H) (p : Post0 K R H (.ok d) Q) (r : Rep K R v d) : Q v H := p v R H (Ext.refl s) r
/-- a two-place operation by its answer -/
def semR2 (K : PySem.W.Frag) (f : D → D → Res D) : R2 := fun vx vy H Q => ∃ R x y, Same R H ∧ Shal K R H vx x ∧ Shal K R H vy y ∧ Post0 K R H (f x y) Q
section
variable {X : Cx}
/-- xs + ys, any lists -/
theorem op_catL : OpR X (binaryOp .Add) (fun x y H Q => ∃ l b xs zs, x = .ref l ∧ y = .ref b ∧ SqL X.K H l xs ∧ SqL X.K H b zs ∧ xs.length + zs.length ≤ sizeLine ∧ ∀ p, H p = none → Q (.ref p) (upd H p (.lst (xs ++ zs)))) := by
  intro pins s σ H x y v u Q I rx ry h
  obtain ⟨l, b, xs, zs, rfl, rfl, hH, hB, hz, q⟩ := h
  cases rx
  cases ry
  obtain ⟨its, r, p1, z1⟩ := I.list hH
  obtain ⟨its2, r2, p2, z2⟩ := I.list hB
  have hl := r.length
  have hl2 := r2.length
  obtain ⟨⟨cls, dd, data, sl⟩, ho, hc, n, hd⟩ := id p1.isList
  obtain ⟨⟨cls2, dd2, data2, sl2⟩, ho2, hc2, n2, hd2⟩ := id p2.isList
  simp only at hc hd hc2 hd2
  subst hc hd hc2 hd2
  have ea : its.toArray ++ its2.toArray = (its ++ its2).toArray := by simp
  refine concat_meets ⟨_, ho, rfl⟩ ⟨_, ho2, rfl⟩ noFill_list_add seq_list_add PySem.F.slot_list_add PySem.F.entry_list_add (PySem.F.args_list_add_2 _ _)
    (list_addW l b its.toArray its2.toArray n n2 dd dd2 sl sl2 (by simp only [List.size_toArray]; omega)) ⟨ho, ho2, ?_⟩
  rw [ea]
  exact ⟨.ref _, _, I.lnew (t' := s.toks) (r.append r2) (by rw [List.length_append]; omega), rfl, q _ I.fresh⟩
theorem op_inT (hu : X.A.units + 65 < cLine) : OpR X (compareOp .In) (fun x y H Q => ∃ d ds, Dp X.K H x d ∧ Dp X.K H y (.tuple ds) ∧ SeqAt.shaped d = true ∧ SeqAt.shaped (.tuple ds) = true ∧ Q (.bl (ds.any fun z => PyData.eqv z d)) H) := by
  intro pins s σ H x y v u Q I rx ry h
  obtain ⟨d, ds, hd, he, sd, se, q⟩ := h
  obtain ⟨as, r1⟩ := Dp.reads I d x v hd rx
  obtain ⟨bs, r2⟩ := Dp.reads I (.tuple ds) y u he ry
  exact SeqAt.in_tuple_reads r2 r1 (SeqAt.canLay_of_shaped se) (SeqAt.canLay_of_shaped sd) (room_in_shaped sd hu) ⟨.bl _, H, I, rfl, q⟩
theorem op_notInT (hu : X.A.units + 65 < cLine) : OpR X (compareOp .NotIn) (fun x y H Q => ∃ d ds, Dp X.K H x d ∧ Dp X.K H y (.tuple ds) ∧ SeqAt.shaped d = true ∧ SeqAt.shaped (.tuple ds) = true ∧ Q (.bl (!ds.any fun z => PyData.eqv z d)) H) := by
  intro pins s σ H x y v u Q I rx ry h
  obtain ⟨d, ds, hd, he, sd, se, q⟩ := h
  obtain ⟨as, r1⟩ := Dp.reads I d x v hd rx
  obtain ⟨bs, r2⟩ := Dp.reads I (.tuple ds) y u he ry
  exact SeqAt.notIn_tuple_reads r2 r1 (SeqAt.canLay_of_shaped se) (SeqAt.canLay_of_shaped sd) (room_in_shaped sd hu) ⟨.bl _, H, I, rfl, q⟩
end
theorem Reps.rep' {K : PySem.W.Frag} {R : Hp} {vs : List V} {ds : List D} (r : Reps K R vs ds) : ∀ n : Nat, Reps K R (List.replicate n vs).flatten (List.replicate n ds).flatten
  | 0 => .nil
  | n + 1 => by
    rw [List.replicate_succ, List.replicate_succ, List.flatten_cons, List.flatten_cons]
    exact r.append (Reps.rep' r n)
def aOp : BO → Option Operator
  | .add => some .Add
  | .sub => some .Sub
  | .mul => some .Mult
  | .fdiv => some .FloorDiv
  | .mod => some .Mod
  | .pow => some .Pow
  | .shl => some .LShift
  | .shr => some .RShift
  | _ => none
def cOp : BO → Option CmpOp
  | .eq => some .Eq
  | .ne => some .NotEq
  | .lt => some .Lt
  | .le => some .LtE
  | .gt => some .Gt
  | .ge => some .GtE
  | .inn => some .In
  | .nin => some .NotIn
  | .is_ => some .Is
  | .isn => some .IsNot
  | _ => none
section
variable {X : Cx} {K : PySem.W.Frag}
theorem int2 {f : Int → Int → Res D} {x y : D} {R H : Hp} {Q : VK} (p : Post0 K R H (intR x y f) Q) : ∃ i j, x = .int i ∧ y = .int j ∧ Post0 K R H (f i j) Q := by
  unfold intR at p
  split at p
  · exact ⟨_, _, rfl, rfl, p⟩
  · exact p.elim
theorem le2 {x y : D} {R H : Hp} {Q : VK} (p : Post0 K R H (leR x y) Q) : (∃ i j, x = .int i ∧ y = .int j ∧ Post0 K R H (.ok (.bl (decide (i ≤ j)))) Q) ∨
    ∃ xs ys, x = .tup xs ∧ y = .tup ys ∧ alkDs xs ys = true ∧ alkDs ys xs = true ∧ deps xs ≤ 60 ∧ deps ys ≤ 60 ∧ Post0 K R H (.ok (.bl (!ltDs ys xs))) Q := by
  unfold leR at p
  split at p
  · exact .inl ⟨_, _, rfl, rfl, p⟩
  · split at p
    · rename_i c
      exact .inr ⟨_, _, rfl, rfl, c.1, c.2.1, c.2.2.1, c.2.2.2, p⟩
    · exact p.elim
  · exact p.elim
theorem ifOk {c : Prop} [Decidable c] {d : D} {R H : Hp} {Q : VK} (p : Post0 K R H (if c then .ok d else .stuck) Q) : c ∧ Post0 K R H (.ok d) Q := by
  by_cases h : c
  · rw [if_pos h] at p
    exact ⟨h, p⟩
  · rw [if_neg h] at p
    exact p.elim
theorem bits_lt {j : Int} {n : Nat} (h0 : 0 < j) (h : bitsI j ≤ n) : j.natAbs.log2 < n := by
  unfold bitsI at h
  rw [if_neg (by omega)] at h
  omega
theorem bits_64 {i : Int} (h : bitsI i ≤ 64) : i.natAbs < 2 ^ 64 := by
  unfold bitsI at h
  by_cases z : i = 0
  · subst z
    decide
  · rw [if_neg z] at h
    have : i.natAbs ≠ 0 := by omega
    exact (Nat.log2_lt this).mp (by omega)
theorem op_mul_strP : OpR X (binaryOp .Mult) (fun x y H Q => ∃ (i : Str) (n : Int), x = .str i ∧ y = .int n ∧ 0 ≤ n ∧ n ≤ 1000000 ∧ i.length * n.toNat ≤ 1000000 ∧ Q (.str (Txt.mul i n)) H) := by
  intro pins s σ H x y v u Q I rx ry h
  obtain ⟨i, n, rfl, rfl, h0, h1, h2, q⟩ := h
  obtain ⟨t, rfl⟩ := rx
  obtain ⟨t', rfl⟩ := ry
  refine SB.mul ⟨?_, fun a _ => ?_, fun _ _ => ?_⟩ (fun t' k => ⟨.str _, H, I.tok _, ⟨_, rfl⟩, q⟩)
  · rw [decide_eq_false (by omega), decide_eq_false (by omega)]
    rfl
  · have : ((i.length : Int)) ≤ (2 ^ 63 - 1) / n := by
      refine Int.le_ediv_of_mul_le (by omega) ?_
      have : (i.length : Int) * n = ((i.length * n.toNat : Nat) : Int) := by
        rw [Int.natCast_mul, Int.toNat_of_nonneg h0]
      omega
    omega
  · refine decide_eq_false ?_
    have : (1000000 : Nat) ≤ sizeLine := by decide
    omega
theorem txt_mul (s : List Nat) {n : Int} (h : 0 ≤ n) : Txt.mul ⟨s.toArray⟩ n = ⟨(List.replicate n.toNat s).flatten.toArray⟩ := by
  unfold Txt.mul
  by_cases h1 : n < 1
  · have : n = 0 := by omega
    subst this
    rfl
  · rw [if_neg h1]
    split
    · rename_i h2
      simp only [Bool.or_eq_true, beq_iff_eq] at h2
      rcases h2 with rfl | h2
      · show _ = Str.mk (List.replicate 1 s).flatten.toArray
        simp
      · have e : s = [] := by
          rw [len_S] at h2
          exact List.eq_nil_of_length_eq_zero h2
        subst e
        simp
    · have go : ∀ (m : Nat) (acc : Array Nat), (List.replicate m s.toArray).foldl (· ++ ·) acc = acc ++ (List.replicate m s).flatten.toArray := by
        intro m
        induction m with
        | zero => intro acc; simp
        | succ m ih =>
          intro acc
          rw [List.replicate_succ, List.foldl_cons, ih, List.replicate_succ, List.flatten_cons]
          simp [Array.append_assoc]
      have e : (⟨s.toArray⟩ : Str).cps = s.toArray := rfl
      rw [e, go]
      simp
theorem op_sem (op : BO) {o : Operator} (ho : aOp op = some o) : OpR X (binaryOp o) (semR2 X.K (binR op)) := by
  intro pins s σ H vx vy v u Q I rx ry h
  obtain ⟨R, x, y, sm, hx, hy, p⟩ := h
  cases op <;> first | (cases ho; done) | skip
  all_goals (have ho' := Option.some.inj ho; subst ho')
  · -- add
    have p : Post0 X.K R H (addR x y) Q := p
    unfold addR at p
    split at p
    · cases hx.int_inv
      cases hy.int_inv
      exact op_add pins s σ H _ _ v u Q I rx ry ⟨_, _, rfl, rfl, p.here sm (.int _)⟩
    · rename_i a b _
      obtain ⟨hc, p⟩ := ifOk p
      obtain ⟨ex, gx⟩ := hx.str_inv
      obtain ⟨ey, gy⟩ := hy.str_inv
      subst ex ey
      refine op_add_str pins s σ H _ _ v u Q I rx ry ⟨_, _, rfl, rfl, ?_, ?_⟩
      · rw [len_S, len_S, ← SZ_line]
        exact hc
      · exact p.here sm (.str (by show (a.toArray ++ b.toArray).toList = _; simp) (gx.append gy hc))
    · rename_i a b _
      obtain ⟨hc, p⟩ := ifOk p
      obtain ⟨l, xs, rfl, hl', rl⟩ := hx.tup_inv'
      obtain ⟨m, ys, rfl, hm', rm⟩ := hy.tup_inv'
      have hl : SqT X.K R l xs := SqT.of hl'
      have hm : SqT X.K R m ys := SqT.of hm'
      have e1 := rl.length
      have e2 := rm.length
      refine op_catA pins s σ H _ _ v u Q I rx ry ⟨l, m, xs, ys, rfl, rfl, Same.seqT sm hl, Same.seqT sm hm, by rw [e1, e2, ← SZ_line]; exact hc, fun e => ?_, fun e e' => ?_, fun e e' q hq => ?_⟩
      · subst e
        cases rl
        exact p.here sm (.tup hm' rm)
      · subst e'
        cases rm
        rw [List.append_nil] at p
        exact p.here sm (.tup hl' rl)
      · exact p _ _ _ (Ext.laid sm hq) (.tup upd_same ((rl.append rm).mono (same_upd (sm.free hq))))
    · rename_i a b _
      obtain ⟨hc, p⟩ := ifOk p
      obtain ⟨l, xs, rfl, hl, rl⟩ := hx.lst_inv sm
      obtain ⟨m, ys, rfl, hm, rm⟩ := hy.lst_inv sm
      have e1 := rl.length
      have e2 := rm.length
      refine op_catL pins s σ H _ _ v u Q I rx ry ⟨l, m, xs, ys, rfl, rfl, hl, hm, by rw [e1, e2, ← SZ_line]; exact hc, fun q hq => ?_⟩
      exact p _ _ _ (Ext.laid sm hq) (.lst (SqL.of upd_same) ((rl.append rm).mono (same_upd (sm.free hq))))
    · exact p.elim
  · obtain ⟨i, j, rfl, rfl, p⟩ := int2 p
    cases hx.int_inv
    cases hy.int_inv
    exact op_sub pins s σ H _ _ v u Q I rx ry ⟨_, _, rfl, rfl, p.here sm (.int _)⟩
  · -- mul
    have p : Post0 X.K R H (mulR x y) Q := p
    unfold mulR at p
    split at p
    · obtain ⟨hc, p⟩ := ifOk p
      cases hx.int_inv
      cases hy.int_inv
      refine op_mulX pins s σ H _ _ v u Q I rx ry ⟨_, _, rfl, rfl, ?_, p.here sm (.int _)⟩
      unfold CMulX
      rw [bitsI_eq, bitsI_eq] at hc
      omega
    · rename_i a n _
      obtain ⟨⟨h0, h1, h2⟩, p⟩ := ifOk p
      obtain ⟨ex, gx⟩ := hx.str_inv
      cases hy.int_inv
      subst ex
      refine op_mul_strP pins s σ H _ _ v u Q I rx ry ⟨_, _, rfl, rfl, h0, h1, by rw [len_S]; exact h2, ?_⟩
      rw [txt_mul a h0]
      refine p.here sm (.S ⟨?_, ?_⟩)
      · rw [List.length_flatten]
        simp only [List.map_replicate, List.sum_replicate_nat]
        rw [Nat.mul_comm]
        exact Nat.le_trans h2 (by decide)
      · refine List.all_eq_true.2 fun c hc => ?_
        obtain ⟨l, hl, hc⟩ := List.mem_flatten.1 hc
        rw [(List.mem_replicate.1 hl).2] at hc
        exact decide_eq_true (gx.mem hc)
    · rename_i a n _
      obtain ⟨⟨h0, h1, h2⟩, p⟩ := ifOk p
      obtain ⟨l, xs, rfl, hl, rl⟩ := hx.tup_inv'
      cases hy.int_inv
      refine op_repA pins s σ H _ _ v u Q I rx ry ⟨l, n, xs, rfl, rfl, Same.seqT sm (SqT.of hl), h0, h1, by rw [rl.length]; exact h2, fun e => ?_, fun q hq => ?_⟩
      · have er : (List.replicate n.toNat a).flatten = a := by
          rcases e with e | e
          · subst e
            cases rl
            simp
          · subst e
            simp
        rw [er] at p
        exact p.here sm (.tup hl rl)
      · exact p _ _ _ (Ext.laid sm hq) (.tup upd_same ((Reps.rep' rl _).mono (same_upd (sm.free hq))))
    · exact p.elim
  · obtain ⟨i, j, rfl, rfl, p⟩ := int2 p
    obtain ⟨hc, p⟩ := ifOk p
    cases hx.int_inv
    cases hy.int_inv
    exact op_fdivW pins s σ H _ _ v u Q I rx ry ⟨_, _, rfl, rfl, ⟨hc.1, bits_lt hc.1 hc.2⟩, p.here sm (.int _)⟩
  · obtain ⟨i, j, rfl, rfl, p⟩ := int2 p
    obtain ⟨hc, p⟩ := ifOk p
    cases hx.int_inv
    cases hy.int_inv
    exact op_mod pins s σ H _ _ v u Q I rx ry ⟨_, _, rfl, rfl, hc, p.here sm (.int _)⟩
  · obtain ⟨i, j, rfl, rfl, p⟩ := int2 p
    obtain ⟨hc, p⟩ := ifOk p
    cases hx.int_inv
    cases hy.int_inv
    exact op_pow pins s σ H _ _ v u Q I rx ry ⟨_, _, rfl, rfl, ⟨hc.1, hc.2.1, bits_64 hc.2.2⟩, p.here sm (.int _)⟩
  · obtain ⟨i, j, rfl, rfl, p⟩ := int2 p
    obtain ⟨hc, p⟩ := ifOk p
    cases hx.int_inv
    cases hy.int_inv
    refine op_shlW pins s σ H _ _ v u Q I rx ry ⟨_, _, rfl, rfl, ⟨hc.1, ?_⟩, p.here sm (.int _)⟩
    rw [bitsI_eq] at hc
    have e : (2 : Int) ^ 27 = 134217728 := by decide
    rw [e]
    exact hc.2
  · obtain ⟨i, j, rfl, rfl, p⟩ := int2 p
    obtain ⟨hc, p⟩ := ifOk p
    cases hx.int_inv
    cases hy.int_inv
    exact op_shr pins s σ H _ _ v u Q I rx ry ⟨_, _, rfl, rfl, hc, p.here sm (.int _)⟩
theorem bindOk {f : Bool → D} {r : Res Bool} {R H : Hp} {Q : VK} (p : Post0 K R H (r.bind fun k => .ok (f k)) Q) : ∃ k, r = .ok k ∧ Post0 K R H (.ok (f k)) Q := by
  cases r with
  | ok k => exact ⟨k, rfl, p⟩
  | exc c ps => exact p.elim
  | stuck => exact p.elim
theorem eqR_ok {x y : D} {k : Bool} (h : eqR x y = .ok k) : (cmpB x = true ∧ cmpB y = true ∧ k = eqD x y) ∨ (∃ kvs s, x = .dic kvs ∧ y = .str s ∧ k = false) := by
  unfold eqR at h
  by_cases c : (cmpB x && cmpB y) = true
  · rw [if_pos c] at h
    rw [Bool.and_eq_true] at c
    exact .inl ⟨c.1, c.2, (by injection h with h; exact h.symm)⟩
  · rw [if_neg c] at h
    by_cases c2 : dsB x y = true
    · rw [if_pos c2] at h
      unfold dsB at c2
      split at c2
      · exact .inr ⟨_, _, rfl, rfl, by injection h with h; exact h.symm⟩
      · cases c2
    · rw [if_neg c2] at h
      cases h
theorem any_py (d : D) : ∀ ds : List D, (ds.any fun y => eqD y d) = ((toPys ds).any fun z => PyData.eqv z (toPy d))
  | [] => rfl
  | x :: xs => by rw [toPys, List.any_cons, List.any_cons, any_py d xs, eqD_py]
theorem key_ints {x : D} (h : keyB x = true) : ∃ is : List Int, x = .tup (is.map .int) := by
  unfold keyB at h
  split at h
  · rename_i ds
    refine (?_ : ∀ ds : List D, (ds.all fun d => match d with | .int _ => true | _ => false) = true → ∃ is : List Int, D.tup ds = .tup (is.map .int)) ds h
    intro ds
    induction ds with
    | nil => exact fun _ => ⟨[], rfl⟩
    | cons d ds ih =>
      intro h
      rw [List.all_cons, Bool.and_eq_true] at h
      obtain ⟨is, e⟩ := ih h.2
      cases d with
      | int i => exact ⟨i :: is, by injection e with e; rw [e]; rfl⟩
      | _ => exact absurd h.1 (by simp)
  · cases h
theorem ints_V {K : PySem.W.Frag} {R : Hp} : ∀ {is : List Int} {vs : List V}, Reps K R vs (is.map .int) → vs = is.map V.int
  | [], _, h => by cases h; rfl
  | i :: is, _, h => by
    cases h with
    | cons h t =>
      cases h
      rw [ints_V t]
      rfl
theorem key_kV (is : List Int) : (is.map Sum.inl).map kV = is.map V.int := by rw [List.map_map]; rfl
theorem eqD_key (is js : List Int) : eqD (.tup (is.map .int)) (.tup (js.map .int)) = decide (is = js) := by
  simp only [eqD]
  induction is generalizing js with
  | nil => cases js <;> simp [eqDs]
  | cons i is ih =>
    cases js with
    | nil => simp [eqDs]
    | cons j js =>
      simp only [List.map_cons, eqDs, eqD, ih js]
      rw [Bool.eq_iff_iff]
      simp
theorem inl_inj (is js : List Int) : is.map Sum.inl = (js.map Sum.inl : List Key) ↔ is = js :=
  ⟨fun h => List.map_inj_right (fun a b e => by injection e) |>.mp h, fun h => by rw [h]⟩
theorem RepKs.any {tv : List (List Key × V)} {kvs : List (D × D)} (r : RepKs tv kvs) (js : List Int) : (valV tv (js.map Sum.inl)).isSome = kvs.any fun p => eqD p.1 (.tup (js.map .int)) := by
  rw [← valV_any]
  induction r with
  | nil => rfl
  | cons is b t ih =>
    rw [List.any_cons, List.any_cons, ih, eqD_key]
    congr 1
    exact decide_eq_decide.mpr (inl_inj is js)
theorem RepKs.put {tv : List (List Key × V)} {kvs : List (D × D)} (r : RepKs tv kvs) (js : List Int) (b : Bool) : RepKs (putK tv (js.map Sum.inl) (.bl b)) (putD kvs (.tup (js.map .int)) (.bl b)) := by
  unfold putK putD
  rw [valV_any, r.any js]
  by_cases h : (kvs.any fun p => eqD p.1 (.tup (js.map .int))) = true
  · rw [if_pos h, if_pos h]
    clear h
    induction r with
    | nil => exact .nil
    | cons is c t ih =>
      rw [List.map_cons, List.map_cons]
      simp only [eqD_key, decide_eq_true_eq]
      by_cases e : is = js
      · subst e
        rw [if_pos rfl, if_pos rfl]
        exact .cons is b ih
      · rw [if_neg (fun z => e ((inl_inj is js).mp z)), if_neg e]
        exact .cons is c ih
  · rw [if_neg h, if_neg h]
    clear h
    induction r with
    | nil => exact .cons js b .nil
    | cons is c t ih => exact .cons is c ih
theorem RepKs.length {tv : List (List Key × V)} {kvs : List (D × D)} (r : RepKs tv kvs) : tv.length = kvs.length := by
  induction r with
  | nil => rfl
  | cons is b t ih => rw [List.length_cons, List.length_cons, ih]
theorem inR_ok {x c : D} {k : Bool} (h : inR x c = .ok k) : (∃ is kvs, x = .tup (List.map D.int is) ∧ c = .dic kvs ∧ k = kvs.any fun p => eqD p.1 x) ∨
    (∃ ds, c = .lst ds ∧ cmpB x = true ∧ cmpB c = true ∧ k = ((toPys ds).any fun z => PyData.eqv z (toPy x))) ∨
    (∃ ds, c = .tup ds ∧ cmpB x = true ∧ cmpB c = true ∧ k = ((toPys ds).any fun z => PyData.eqv z (toPy x))) ∨ ∃ s z, c = .str s ∧ x = .str [z] ∧ k = decide (z ∈ s) := by
  unfold inR at h
  split at h
  · rename_i ds
    by_cases q : (cmpB x && cmpB (D.lst ds)) = true
    · rw [if_pos q] at h
      rw [Bool.and_eq_true] at q
      exact .inr (.inl ⟨ds, rfl, q.1, q.2, by injection h with h; rw [← h, any_py]⟩)
    · rw [if_neg q] at h
      cases h
  · rename_i kvs
    by_cases q : keyB x = true
    · rw [if_pos q] at h
      obtain ⟨is, e⟩ := key_ints q
      exact .inl ⟨is, kvs, e, rfl, by injection h with h; exact h.symm⟩
    · rw [if_neg q] at h
      cases h
  · rename_i ds
    by_cases q : (cmpB x && cmpB (D.tup ds)) = true
    · rw [if_pos q] at h
      rw [Bool.and_eq_true] at q
      exact .inr (.inr (.inl ⟨ds, rfl, q.1, q.2, by injection h with h; rw [← h, any_py]⟩))
    · rw [if_neg q] at h
      cases h
  · rename_i s
    split at h
    · rename_i z
      refine .inr (.inr (.inr ⟨s, z, rfl, rfl, ?_⟩))
      injection h with h
      rw [← h, Bool.eq_iff_iff, List.any_eq_true]
      simp
    · cases h
  · cases h
theorem isR_ok {x y : D} {k : Bool} (h : isR x y = .ok k) : ∃ a b, x = .bl a ∧ y = .bl b ∧ k = (a == b) := by
  unfold isR at h
  split at h
  · injection h with h
    exact ⟨_, _, rfl, rfl, h.symm⟩
  · cases h
theorem cmp_sem (hu : X.A.units + 65 < cLine) (op : BO) {o : CmpOp} (ho : cOp op = some o) : OpR X (compareOp o) (semR2 X.K (binR op)) := by
  have hu4 : X.A.units + 64 < cLine := by omega
  intro pins s σ H vx vy v u Q I rx ry h
  obtain ⟨R, x, y, sm, hx, hy, p⟩ := h
  cases op <;> first | (cases ho; done) | skip
  all_goals (have ho' := Option.some.inj ho; subst ho')
  · obtain ⟨k, e, p⟩ := bindOk (show Post0 X.K R H ((eqR x y).bind fun r => .ok (.bl r)) Q from p)
    rcases eqR_ok e with ⟨c1, c2, rfl⟩ | ⟨kvs, z, rfl, rfl, rfl⟩
    · refine op_eqD hu4 pins s σ H _ _ v u Q I rx ry ⟨_, _, hx.dp sm c1, hy.dp sm c2, hx.shaped c1, hy.shaped c2, ?_⟩
      rw [← eqD_py]
      exact p.here sm (.bl _)
    · obtain ⟨a, tv, rfl, ha, _⟩ := hx.dic_inv sm
      obtain ⟨rfl, _⟩ := hy.str_inv
      exact op_eq_ds (Nat.lt_of_le_of_lt (Nat.le_add_right _ _) hu4) pins s σ H _ _ v u Q I rx ry ⟨a, tv, _, rfl, ha, rfl, p.here sm (.bl _)⟩
  · obtain ⟨k, e, p⟩ := bindOk (f := fun k => .bl (!k)) (show Post0 X.K R H ((eqR x y).bind fun r => .ok (.bl (!r))) Q from p)
    rcases eqR_ok e with ⟨c1, c2, rfl⟩ | ⟨kvs, z, rfl, rfl, rfl⟩
    · refine op_neD hu4 pins s σ H _ _ v u Q I rx ry ⟨_, _, hx.dp sm c1, hy.dp sm c2, hx.shaped c1, hy.shaped c2, ?_⟩
      rw [← eqD_py]
      exact p.here sm (.bl _)
    · obtain ⟨a, tv, rfl, ha, _⟩ := hx.dic_inv sm
      obtain ⟨rfl, _⟩ := hy.str_inv
      exact op_ne_ds (Nat.lt_of_le_of_lt (Nat.le_add_right _ _) hu4) pins s σ H _ _ v u Q I rx ry ⟨a, tv, _, rfl, ha, rfl, p.here sm (.bl _)⟩
  · obtain ⟨i, j, rfl, rfl, p⟩ := int2 p
    cases hx.int_inv
    cases hy.int_inv
    exact op_lt pins s σ H _ _ v u Q I rx ry ⟨_, _, rfl, rfl, p.here sm (.bl _)⟩
  · rcases le2 p with ⟨i, j, rfl, rfl, p⟩ | ⟨xs, ys, rfl, rfl, a1, a2, d1, d2, p⟩
    · cases hx.int_inv
      cases hy.int_inv
      exact op_le pins s σ H _ _ v u Q I rx ry ⟨_, _, rfl, rfl, p.here sm (.bl _)⟩
    · have q := p.here sm (.bl _)
      obtain ⟨as, r1⟩ := Dp.reads I _ _ v (hx.dp sm (by unfold cmpB; exact decide_eq_true (by simp only [dep]; omega))) rx
      obtain ⟨bs, r2⟩ := Dp.reads I _ _ u (hy.dp sm (by unfold cmpB; exact decide_eq_true (by simp only [dep]; omega))) ry
      have e : ltDs ys xs = PySem.W.dataLt (toPy (.tup ys)) (toPy (.tup xs)) := ltD_py (.tup ys) (.tup xs) (by simp only [alkD]; exact a2)
      rw [e] at q
      have al : PySem.W.alike (toPy (.tup xs)) (toPy (.tup ys)) = true := by rw [← alkD_py]; simp only [alkD]; exact a1
      have dd := dep_py (.tup xs)
      have dx : dep (D.tup xs) ≤ 61 := by simp only [dep]; omega
      exact PySem.W.rcLe_alike _ _ X.A s v u as bs r1 r2 al (by simp [toPy]) (by omega) X.prog X.w _ _ ⟨.bl _, H, I, rfl, q⟩
  · obtain ⟨i, j, rfl, rfl, p⟩ := int2 p
    cases hx.int_inv
    cases hy.int_inv
    exact op_gt pins s σ H _ _ v u Q I rx ry ⟨_, _, rfl, rfl, p.here sm (.bl _)⟩
  · obtain ⟨i, j, rfl, rfl, p⟩ := int2 p
    cases hx.int_inv
    cases hy.int_inv
    exact op_ge pins s σ H _ _ v u Q I rx ry ⟨_, _, rfl, rfl, p.here sm (.bl _)⟩
  · obtain ⟨k, e, p⟩ := bindOk (show Post0 X.K R H ((inR x y).bind fun r => .ok (.bl r)) Q from p)
    have q := p.here sm (.bl _)
    rcases inR_ok e with ⟨is, kvs, rfl, rfl, rfl⟩ | ⟨ds, rfl, c1, c2, rfl⟩ | ⟨ds, rfl, c1, c2, rfl⟩ | ⟨t, z, rfl, rfl, rfl⟩
    · obtain ⟨b, vs, rfl, hb, rr⟩ := hx.tup_inv'
      obtain ⟨a, tv, rfl, ha, rk⟩ := hy.dic_inv sm
      rw [ints_V rr, ← key_kV] at hb
      cases (show u = Value.ref a from ry)
      refine d_in (by omega) I (DGet.t ha (sm _ _ hb)) rx fun s' I' => ⟨.bl _, H, I', rfl, ?_⟩
      rw [rk.any is]
      exact q
    · have s2 := hy.shaped c2
      have p2 := hy.dp sm c2
      simp only [toPy] at s2 p2
      exact op_inD hu pins s σ H _ _ v u Q I rx ry ⟨_, _, hx.dp sm c1, p2, hx.shaped c1, s2, q⟩
    · have s2 := hy.shaped c2
      have p2 := hy.dp sm c2
      simp only [toPy] at s2 p2
      exact op_inT hu pins s σ H _ _ v u Q I rx ry ⟨_, _, hx.dp sm c1, p2, hx.shaped c1, s2, q⟩
    · obtain ⟨e1, _⟩ := hx.str_inv
      obtain ⟨e2, _⟩ := hy.str_inv
      subst e1 e2
      exact op_in_sign pins s σ H _ _ v u Q I rx ry ⟨z, ⟨t.toArray⟩, rfl, rfl, by simpa using q⟩
  · obtain ⟨k, e, p⟩ := bindOk (f := fun k => .bl (!k)) (show Post0 X.K R H ((inR x y).bind fun r => .ok (.bl (!r))) Q from p)
    have q := p.here sm (.bl _)
    rcases inR_ok e with ⟨is, kvs, rfl, rfl, rfl⟩ | ⟨ds, rfl, c1, c2, rfl⟩ | ⟨ds, rfl, c1, c2, rfl⟩ | ⟨t, z, rfl, rfl, rfl⟩
    · obtain ⟨b, vs, rfl, hb, rr⟩ := hx.tup_inv'
      obtain ⟨a, tv, rfl, ha, rk⟩ := hy.dic_inv sm
      rw [ints_V rr, ← key_kV] at hb
      cases (show u = Value.ref a from ry)
      refine d_notIn (by omega) I (DGet.t ha (sm _ _ hb)) rx fun s' I' => ⟨.bl _, H, I', rfl, ?_⟩
      rw [rk.any is]
      exact q
    · have s2 := hy.shaped c2
      have p2 := hy.dp sm c2
      simp only [toPy] at s2 p2
      exact op_notInD hu pins s σ H _ _ v u Q I rx ry ⟨_, _, hx.dp sm c1, p2, hx.shaped c1, s2, q⟩
    · have s2 := hy.shaped c2
      have p2 := hy.dp sm c2
      simp only [toPy] at s2 p2
      exact op_notInT hu pins s σ H _ _ v u Q I rx ry ⟨_, _, hx.dp sm c1, p2, hx.shaped c1, s2, q⟩
    · obtain ⟨e1, _⟩ := hx.str_inv
      obtain ⟨e2, _⟩ := hy.str_inv
      subst e1 e2
      exact op_notIn_sign pins s σ H _ _ v u Q I rx ry ⟨z, ⟨t.toArray⟩, rfl, rfl, by simpa using q⟩
  · obtain ⟨k, e, p⟩ := bindOk (show Post0 X.K R H ((isR x y).bind fun r => .ok (.bl r)) Q from p)
    obtain ⟨a, b, rfl, rfl, rfl⟩ := isR_ok e
    cases hx.bl_inv
    cases hy.bl_inv
    exact op_is_bl pins s σ H _ _ v u Q I rx ry ⟨a, b, rfl, rfl, (by
      have z := p.here sm (.bl _)
      rw [show decide (a = b) = (a == b) by cases a <;> cases b <;> rfl]
      exact z)⟩
  · obtain ⟨k, e, p⟩ := bindOk (f := fun k => .bl (!k)) (show Post0 X.K R H ((isR x y).bind fun r => .ok (.bl (!r))) Q from p)
    obtain ⟨a, b, rfl, rfl, rfl⟩ := isR_ok e
    cases hx.bl_inv
    cases hy.bl_inv
    exact op_isnot_bl pins s σ H _ _ v u Q I rx ry ⟨a, b, rfl, rfl, (by
      have z := p.here sm (.bl _)
      rw [show decide (a = b) = (a == b) by cases a <;> cases b <;> rfl]
      exact z)⟩
end
end Ps
end
section
set_option maxHeartbeats 4000000
/-! PsRev: x[::-1] of tuples and texts; sorted(set(x)); counts of a sign. -/
namespace Ps
open PySem PySem.Spec PyProof.Rows L2
variable [Tbs]
section
variable {prog : Program} {w : World} {A : Around} {E : Value → Shared → Prop} {s : Shared}
theorem applied_rev {sl : Addr} {vs : Value} {n : Nat} {Q : Int × Int × Nat → Shared → Prop} (hs : s.heap.IsSliceOf sl .none .none vs) (ps : IsPart vs (some (-1)))
    (h : Q ((n : Int) - 1, -1, n) s) : wpAny (model prog w) A (Builtin.Slice.sliceApplied (.ref sl) (pure (n : Int))) Q E s := by
  obtain ⟨os, hos, hcs, hds⟩ := id hs
  unfold Builtin.Slice.sliceApplied Builtin.Slice.sliceFields
  refine wpAny_bind (wpAny_bind (wpAny_field hos hds (x := .none) rfl (wpAny_bind (wpAny_field hos hds (x := .none) rfl (wpAny_bind (wpAny_field hos hds (x := vs) rfl (wpAny_pure ?_)))))))
  refine wpAny_bind (HT.slicePart_ ps ?_)
  show wpAny _ _ (if ((-1 : Int) == 0) = true then _ else _) _ _ s
  rw [if_neg (by decide)]
  refine wpAny_bind (slicePart_none (wpAny_bind (slicePart_none (wpAny_bind (wpAny_pure ?_)))))
  have e : Builtin.Slice.slicePlaces ((n : Int) - 1) (-1) (-1) = n := by
    unfold Builtin.Slice.slicePlaces
    rw [if_neg (by decide)]
    by_cases h0 : n = 0
    · subst h0; rfl
    · rw [if_pos (by omega)]
      simp only [Int.neg_neg, Int.ediv_one]
      omega
  show wpAny _ _ (pure ((n : Int) - 1, (-1 : Int), Builtin.Slice.slicePlaces ((n : Int) - 1) (-1) (-1))) _ _ s
  rw [e]
  exact wpAny_pure h
theorem pick_rev (xs : Array Value) : ((List.range xs.size).filterMap fun (m : Nat) => xs[((xs.size : Int) - 1 + (m : Int) * (-1)).toNat]?).toArray = xs.toList.reverse.toArray := by
  congr 1
  have e : (List.range xs.size).filterMap (fun (m : Nat) => xs[((xs.size : Int) - 1 + (m : Int) * (-1)).toNat]?) = ((List.range xs.size).map fun k => xs.size - 1 - k).filterMap (xs[·]?) := by
    rw [List.filterMap_map]
    congr 1
    funext m
    have e : ((xs.size : Int) - 1 + (m : Int) * (-1)).toNat = xs.size - 1 - m := by omega
    simp only [Function.comp, e]
  rw [e, PySem.W.krv_range, List.filterMap_reverse, PySem.W.krv_all]
theorem getItem_tuple_rev {t sl : Addr} {items : Array Value} {vs : Value} {Q : Value → Shared → Prop} (ht : IsTup s.heap t items) (hs : s.heap.IsSliceOf sl .none .none vs) (ps : IsPart vs (some (-1)))
    (h : Q (.ref s.heap.objs.size) { s with heap := s.heap.push { cls := .type "tuple", data := .seq items.toList.reverse.toArray } })
    (hsz : items.size ≤ sizeLine) : wpAny (model prog w) A (getItem (.ref t) (.ref sl)) Q E s := by
  have htake : sizeOk (.seq items.toList.reverse.toArray) := by
    show items.toList.reverse.toArray.size ≤ sizeLine
    rw [List.size_toArray, List.length_reverse, Array.length_toList]
    exact hsz
  obtain ⟨os, hos, hcs, hds⟩ := id hs
  have hTs : s.TypeIs (.ref sl) "slice" := ⟨os, hos, hcs⟩
  unfold getItem
  try with_reducible refine wpAny_holding ?_
  first | refine wpAny_bind (wpAny_pure ?_) | skip
  refine wpAny_bind (wpAny_sequenceKey ht.typeIs (by decide) ?_)
  refine wpAny_bind (wpAny_callSpecial?_slot (name := Str.ofString "__getitem__") ht.typeIs PyProof.Rows.slot_tuple_getitem
    (wpAny_call_entry PyProof.Rows.slot_tuple_getitem ht.typeIs entry_tuple_getitem ?_ (args_tuple_getitem _ _)))
  show wpAny _ _ (Builtin.Tuple.tupleItemsOf (.ref t) >>= _) _ _ s
  refine wpAny_bind (tupleItemsOf_ ht ?_)
  refine wpAny_bind (wpAny_typeOf hTs ?_)
  rw [if_pos (by decide)]
  refine wpAny_bind (applied_rev hs ps ?_)
  have hno : ¬ ((((items.size : Int) - 1) == 0 && (-1 : Int) == 1 && items.size == items.size) = true) := by
    intro q
    rw [Bool.and_eq_true, Bool.and_eq_true] at q
    exact absurd (eq_of_beq q.1.2) (by decide)
  show wpAny _ _ (if ((((items.size : Int) - 1) == 0 && (-1 : Int) == 1 && items.size == items.size) = true) then _ else _) _ _ s
  rw [if_neg hno, pick_rev]
  first
    | exact wpAny_bind (m := Builtin.Tuple.tupleExact _) (wpAny_newObj_type (wpAny_pure ⟨_, rfl, wpAny_pure h⟩) htake)
    | exact wpAny_bind (m := Builtin.Tuple.tupleExact _) (wpAny_newObj_type (wpAny_bind (wpAny_pure (wpAny_pure ⟨_, rfl, wpAny_pure h⟩))) htake)
    | exact wpAny_bind (wpAny_bind (m := Builtin.Tuple.tupleExact _) (wpAny_newObj_type (wpAny_pure (wpAny_pure ⟨_, rfl, wpAny_pure h⟩)) htake))
    | exact wpAny_bind (wpAny_bind (m := Builtin.Tuple.tupleExact _) (wpAny_newObj_type (wpAny_pure ⟨_, rfl, wpAny_pure h⟩) htake))
end
theorem krv_allN {α : Type} (xs : Array α) : (List.range xs.size).filterMap (xs[·]?) = xs.toList := PySem.W.krv_all xs
theorem strRev_ix (n : Nat) : Builtin.Str.strSliceIndices none none (-1) n = (List.range n).reverse := by
  show sliceRange ((n : Int) - 1) (-1) (-1) = _
  rw [PySem.W.krv_sliceRange, PySem.W.krv_range]
theorem strRev_pick (z : Str) : ((Builtin.Str.strSliceIndices none none (-1) z.length).filterMap (z.cps[·]?)) = z.cps.toList.reverse := by
  rw [strRev_ix, List.filterMap_reverse]
  congr 1
  exact krv_allN z.cps
/-- what x[::-1] wants: a list, a tuple, a text -/
def tRevA (K : PySem.W.Frag) (te : TE) : TE := fun σ H Q => te σ H fun x H1 =>
  (∃ a xs, x = .ref a ∧ SqL K H1 a xs ∧ ∀ p, H1 p = none → Q (.ref p) (upd H1 p (.lst xs.reverse))) ∨
  (∃ a xs, x = .ref a ∧ SqT K H1 a xs ∧ ∀ p, H1 p = none → Q (.ref p) (upd H1 p (.tup xs.reverse))) ∨
  ∃ z : Str, x = .str z ∧ z.length ≤ sizeLine ∧ Q (.str ⟨z.cps.toList.reverse.toArray⟩) H1
section
variable {X : Cx}
theorem pe_revA {e : Expr} {te : TE} {k : Nat} {p1 p2 p3 pos : Pos} (he : PE X e te) : PE X (.Subscript e (.Slice none none (some (.UnaryOp .USub (.Constant (.int 1) k p1) p2)) p3) pos) (tRevA X.K te) := by
  refine ⟨fun pins s σ H Q I h => ?_⟩
  refine Subscript_ (thn (he.run pins s σ H _ I h) fun v s1 ⟨x, H1, I1, r1, q1⟩ => ?_)
  have hst : PO X (some (.UnaryOp .USub (.Constant (.int 1) k p1) p2)) (tPart (tUn (rU fun i => .int (-i)) (tC (.int 1)))) := po_some (pe_un un_neg pe_int)
  refine wpAny_Slice (thn (po_none.run pins s1 σ H1 (fun o H2 => o = none ∧ H2 = H1) I1 ⟨rfl, rfl⟩) fun vl s2 ⟨l, H2, I2, pl, el, e2⟩ => ?_)
  subst el e2
  refine thn (po_none.run pins s2 σ H2 (fun o H3 => o = none ∧ H3 = H2) I2 ⟨rfl, rfl⟩) fun vu s3 ⟨u, H3, I3, pu, eu, e3⟩ => ?_
  subst eu e3
  refine thn (hst.run pins s3 σ H3 (fun o H4 => o = some (-1) ∧ H4 = H3) I3 ⟨1, rfl, -1, rfl, rfl, rfl⟩) fun vs s4 ⟨o, H4, I4, ps, eo, e4⟩ => ?_
  subst eo e4
  have I5 : Inv X pins σ H4 { s4 with heap := s4.heap.push { cls := .type "slice", data := .fields #[vl, vu, vs] } } := I4.kept (t' := s4.toks) fun b ob q => Heap.get?_push_of_some _ q
  rcases q1 with ⟨a, xs, ex, hx, q⟩ | ⟨a, xs, ex, hx, q⟩ | ⟨z, ex, hz, q⟩
  · subst ex
    cases r1
    obtain ⟨its, r, ht, hz⟩ := I5.list hx
    have hlen := r.length
    show wpAny (model X.prog X.w) X.A (subscriptTail e (.Slice none none (some (.UnaryOp .USub (.Constant (.int 1) k p1) p2)) p3) (.ref a) (.ref s4.heap.objs.size)) (EP X pins σ Q) X.xe { s4 with heap := s4.heap.push { cls := .type "slice", data := .fields #[vl, vu, vs] } }
    refine tail_any (ops := [.ref a, .ref s4.heap.objs.size]) ht.isList.typeIs (PySem.slot_list_getitem.lookup) ?_ (by with_unfolding_all rfl)
    refine wpAny_getItem_list_slice ht.isList (Heap.IsSliceOf.new _ vl vu vs) pl pu ps (by decide) ?_ (by rw [List.size_toArray]; omega)
    rw [PySem.W.krv_pick]
    refine ⟨.ref _, _, I5.laid (t' := s4.toks) (o := .lst xs.reverse) (fun b ob q => Heap.get?_push_of_some _ q) (Nat.le_refl _) ?_, rfl, q _ (I5.hok.fresh (Nat.le_refl _))⟩
    exact ⟨by rw [List.length_reverse]; exact hz, _, 0, r.reverse, Heap.get?_push_size _ rfl⟩
  · subst ex
    cases r1
    cases pl
    cases pu
    obtain ⟨its, r, ht, hz⟩ := I5.tuple hx
    have hlen := r.length
    show wpAny (model X.prog X.w) X.A (subscriptTail e (.Slice none none (some (.UnaryOp .USub (.Constant (.int 1) k p1) p2)) p3) (.ref a) (.ref s4.heap.objs.size)) (EP X pins σ Q) X.xe { s4 with heap := s4.heap.push { cls := .type "slice", data := .fields #[.none, .none, vs] } }
    refine tail_any (ops := [.ref a, .ref s4.heap.objs.size]) ht.typeIs (PyProof.Rows.slot_tuple_getitem.lookup) ?_ (by with_unfolding_all rfl)
    refine getItem_tuple_rev ht (Heap.IsSliceOf.new _ .none .none vs) ps ?_ (by rw [List.size_toArray]; omega)
    refine ⟨.ref _, _, I5.laid (t' := s4.toks) (o := .tup xs.reverse) (fun b ob q => Heap.get?_push_of_some _ q) (Nat.le_refl _) ?_, rfl, q _ (I5.hok.fresh (Nat.le_refl _))⟩
    exact ⟨by rw [List.length_reverse]; exact hz, _, r.reverse, IsTup.new _ _⟩
  · subst ex
    obtain ⟨t, rfl⟩ := r1
    cases pl
    cases pu
    obtain ⟨c, rfl, hc⟩ := IsPart.raw ps
    show wpAny (model X.prog X.w) X.A (subscriptTail e (.Slice none none (some (.UnaryOp .USub (.Constant (.int 1) k p1) p2)) p3) (.str z t) (.ref s4.heap.objs.size)) (EP X pins σ Q) X.xe _
    refine tail_any (ops := [.str z t, .ref s4.heap.objs.size]) (typeIs_str _ _ _) (PySem.F.slot_str_getitem.lookup) ?_ (by with_unfolding_all rfl)
    refine wpAny_getItem_str_slice (l := none) (u := none) (st := c) ⟨_, Heap.get?_push_size _ rfl, rfl, rfl⟩ (by rw [hc]; rfl) ?_
    unfold sliceMade slicePicked
    rw [hc]
    show Made.post (if ((-1 : Int) == 1 && _) = true then Made.val (.str z t) else Made.str ⟨((Builtin.Str.strSliceIndices none none (-1) z.length).filterMap (z.cps[·]?)).toArray⟩) (EP X pins σ Q) _
    rw [if_neg (by simp), strRev_pick]
    exact ⟨by show z.cps.toList.reverse.toArray.size ≤ sizeLine; rw [List.size_toArray, List.length_reverse]; exact hz, .str _, H4, I5.tok _, ⟨_, rfl⟩, q⟩
/-! ### sorted(set(x)) -/
theorem cr_setTI (hc : X.calm = true) : CallR X (.type "set") (fun vs H Q => ∃ (a : Addr) (ns : List Int), vs = [V.ref a] ∧ SqT X.K H a (ns.map V.int) ∧ ns.length < 64 ∧
    ∀ p c, c ≤ ns.length → H p = none → Q (.ref p) (upd H p (SetO X.w p (fun j => decide (j ∈ ns)) c))) := by
  intro pins s σ H vs us Q I r h
  obtain ⟨a, ns, rfl, hq, hl, q⟩ := h
  rw [Vals.ref1 r]
  obtain ⟨its, rv, pt, hz⟩ := I.tuple hq
  have hi : IntsAre its.toArray.toList ns := ints_of_vals rv
  refine call_set_tupI ns (I.ok.hd hc) (show s.heap.IsTuple a its.toArray from pt) hi (by unfold scanBound; omega) fun h' tk c R1 hcn k => ?_
  exact ⟨.ref _, _, I.laid (t' := tk) k (Nat.le_refl _) (setO_new R1), rfl, q _ c hcn (I.hok.fresh (Nat.le_refl _))⟩
end
theorem insI_mem {n k : Int} : ∀ {l : List Int}, k ∈ insI n l ↔ k = n ∨ k ∈ l
  | [] => by simp [insI]
  | m :: r => by
    unfold insI
    split
    · simp
    · split
      · rename_i h; subst h; simp
      · simp only [List.mem_cons, insI_mem (l := r)]
        constructor
        · rintro (h | h | h)
          · exact .inr (.inl h)
          · exact .inl h
          · exact .inr (.inr h)
        · rintro (h | h | h)
          · exact .inr (.inl h)
          · exact .inl h
          · exact .inr (.inr h)
theorem insI_sorted {n : Int} : ∀ {l : List Int}, l.Pairwise (· < ·) → (insI n l).Pairwise (· < ·)
  | [], _ => by simp [insI]
  | m :: r, h => by
    obtain ⟨h1, h2⟩ := List.pairwise_cons.mp h
    unfold insI
    split
    · rename_i q
      refine List.pairwise_cons.mpr ⟨fun x hx => ?_, h⟩
      rcases List.mem_cons.mp hx with e | e
      · omega
      · have := h1 x e; omega
    · split
      · exact h
      · refine List.pairwise_cons.mpr ⟨fun x hx => ?_, insI_sorted h2⟩
        rcases insI_mem.mp hx with e | e
        · omega
        · exact h1 x e
theorem srtI_mem {k : Int} : ∀ {l : List Int}, k ∈ srtI l ↔ k ∈ l
  | [] => by simp [srtI]
  | n :: r => by simp only [srtI, insI_mem, srtI_mem (l := r), List.mem_cons]
theorem srtI_sorted : ∀ l : List Int, (srtI l).Pairwise (· < ·)
  | [] => .nil
  | n :: r => insI_sorted (srtI_sorted r)
theorem sorted_uniq : ∀ {a b : List Int}, a.Pairwise (· < ·) → b.Pairwise (· < ·) → (∀ k, k ∈ a ↔ k ∈ b) → a = b
  | [], [], _, _, _ => rfl
  | [], y :: ys, _, _, h => absurd ((h y).mpr (by simp)) (by simp)
  | x :: xs, [], _, _, h => absurd ((h x).mp (by simp)) (by simp)
  | x :: xs, y :: ys, h1, h2, h => by
    obtain ⟨p1, p2⟩ := List.pairwise_cons.mp h1
    obtain ⟨q1, q2⟩ := List.pairwise_cons.mp h2
    have e : x = y := by
      rcases List.mem_cons.mp ((h x).mp (by simp)) with e | e
      · exact e
      · rcases List.mem_cons.mp ((h y).mpr (by simp)) with e' | e'
        · exact e'.symm
        · have := q1 x e
          have := p1 y e'
          omega
    subst e
    congr 1
    refine sorted_uniq p2 q2 fun k => ⟨fun hk => ?_, fun hk => ?_⟩
    · rcases List.mem_cons.mp ((h k).mp (List.mem_cons_of_mem _ hk)) with e | e
      · have := p1 k hk; omega
      · exact e
    · rcases List.mem_cons.mp ((h k).mpr (List.mem_cons_of_mem _ hk)) with e | e
      · have := q1 k hk; omega
      · exact e
/-! ### how often a sign stands in a text -/
theorem cnt_list (c : Nat) : ∀ l : List Nat, cnt c l = (l.count c : Nat)
  | [] => rfl
  | d :: r => by
    rw [cnt_cons, cnt_list c r, List.count_cons]
    by_cases e : d = c
    · subst e; simp
      omega
    · have : (d == c) = false := by simpa using e
      rw [this]
      first | (rw [if_neg e]; simp) | (rw [if_neg (Ne.symm e)]; simp) | simp [e]
theorem count_S (s : List Nat) (c : Nat) : Txt.count ⟨s.toArray⟩ ⟨#[c]⟩ = (s.count c : Nat) := by
  rw [count_cnt, ← cnt_list]
end Ps
end
section
set_option maxHeartbeats 4000000
/-! PsSrtT: sorted of a tuple of pairs. -/
namespace SrtO
open PySem PyProof.Rows Srt
section
variable {prog : Program} {w : World} {A : Around} {E : Value → Shared → Prop} {s : Shared}
/-- a tuple's values in a new list -/
theorem collect_tupT {l : Addr} {o : Obj} {n : Nat} {vs : List Value} {Q : List Value → Shared → Prop} (ho : s.heap.get? l = some o) (hc : o.cls = .type "tuple") (hd : o.data = .seq vs.toArray n)
    (h : Q vs { s with heap := (s.heap.push (seqObj "list" #[] 0)).update s.heap.objs.size (Obj.mapSeq (· ++ vs.toArray)) }) (hsz : vs.length ≤ sizeLine) :
    wpAny (model prog w) A (collect (.ref l)) Q E s := by
  unfold collect
  refine wpAny_bind (wpAny_runValue (codeAny_builtin entry_proto_collect' ?_))
  show wpAny _ _ (do again (.builtin "list.__iadd__" ⟨[← newList [], .ref l], []⟩)) _ _ s
  refine wpAny_bind (wpAny_newList (wpAny_pure ⟨Code.quiet_builtin _ (by decide +kernel), codeAny_builtin entry_list_iadd' ?_⟩))
  show wpAny _ _ (Builtin.List.listExtendWith (.ref s.heap.objs.size) (.ref l) (.ref s.heap.objs.size)) _ _ { s with heap := s.heap.push (seqObj "list" #[] 0) }
  unfold Builtin.List.listExtendWith
  have ho' : (s.heap.push (seqObj "list" #[] 0)).get? l = some o := Heap.get?_push_of_some _ ho
  refine wpAny_bind (wpAny_typeOf (T := "tuple") ⟨o, ho', hc⟩ ?_)
  have ht : (Value.type "tuple" == Value.type "tuple") = true := by rfl
  rw [if_pos (by rw [ht]; simp)]
  refine wpAny_bind (listItems_at ho' hd ?_)
  refine wpAny_bind (listItems_at (xs := #[]) (n := 0) (Heap.get?_push_size _ rfl) rfl ?_)
  rw [if_neg (by simp)]
  refine wpAny_bind (listUpdate_at (xs := #[]) (n := 0) (Heap.get?_push_size _ rfl) rfl ?_ (Nat.zero_le _) (by show (#[] ++ vs.toArray).size ≤ sizeLine + 1; simp only [Array.size_append, List.size_toArray, List.length_nil]; omega))
  refine wpAny_pure ?_
  show wpAny (model prog w) A (do
      let o ← load s.heap.objs.size
      match o.data with
      | .seq xs _ => pure xs.toList
      | _ => unsupported "internal:collect") Q E { s with heap := (s.heap.push (seqObj "list" #[] 0)).update s.heap.objs.size (Obj.mapSeq (· ++ vs.toArray)) }
  refine wpAny_bind (wpAny_load (get?_update_seq (Heap.get?_push_size _ rfl) _) ?_)
  show wpAny _ _ (pure ((#[] : Array Value) ++ vs.toArray).toList) Q E _
  rw [show ((#[] : Array Value) ++ vs.toArray).toList = vs by simp]
  exact wpAny_pure h
theorem sorted_ordT {l : Addr} {o : Obj} {n : Nat} {vs : List Value} {ltv : Value → Value → Bool} {Q : Value → Shared → Prop} (O : Swo ltv) (ho : s.heap.get? l = some o) (hc : o.cls = .type "tuple") (hd : o.data = .seq vs.toArray n) (hz : vs.length ≤ sizeLine)
    (hS : 2 ≤ vs.length → ∀ (h₁ : Heap) (a : Addr), h₁.get? a = some (seqObj "list" vs.toArray 0) → (∀ b o, s.heap.get? b = some o → b ≠ a ∧ h₁.get? b = some o) → SortableO prog w A.in1.in1 { s with heap := h₁ } a vs ltv)
    (h : ∀ out : List Value, Srtd ltv out → Stb ltv out vs → Q (.ref (s.heap.objs.size + 1)) { s with heap := sortedAll s.heap vs out.toArray }) :
    wpAny (model prog w) A (call (.builtin "sorted") [.ref l]) Q E s := by
  refine Calls.call_function_entry kind_sorted plain_sorted entry_sorted (args_sorted1 _) ?_
  unfold Builtin.«sorted»
  refine wpAny_bind (m := checkCount "sorted" 1 1 _) (wpAny_pure ?_)
  refine wpAny_bind (collect_tupT ho hc hd ?_ hz)
  refine wpAny_bind (wpAny_newList ?_ hz)
  have hsz : ((s.heap.push (seqObj "list" #[] 0)).update s.heap.objs.size (Obj.mapSeq (· ++ vs.toArray))).objs.size = s.heap.objs.size + 1 := by
    rw [Heap.size_update, size_push']
  have hoL : (((s.heap.push (seqObj "list" #[] 0)).update s.heap.objs.size (Obj.mapSeq (· ++ vs.toArray))).push (seqObj "list" vs.toArray 0)).get? (s.heap.objs.size + 1) = some (seqObj "list" vs.toArray 0) := by
    rw [← hsz]; exact Heap.get?_push_size _ rfl
  have keep : ∀ b o, s.heap.get? b = some o → b ≠ s.heap.objs.size + 1 ∧ (((s.heap.push (seqObj "list" #[] 0)).update s.heap.objs.size (Obj.mapSeq (· ++ vs.toArray))).push (seqObj "list" vs.toArray 0)).get? b = some o := fun b o q => by
    have hlt : b < s.heap.objs.size := Heap.lt_size q
    refine ⟨Nat.ne_of_lt (Nat.lt_succ_of_lt hlt), Heap.get?_push_of_some _ ?_⟩
    rw [Heap.get?_update_ne _ _ _ _ (Nat.ne_of_lt hlt)]
    exact Heap.get?_push_of_some _ q
  show wpAny _ _ _ _ _ { s with heap := ((s.heap.push (seqObj "list" #[] 0)).update s.heap.objs.size (Obj.mapSeq (· ++ vs.toArray))).push (seqObj "list" vs.toArray 0) }
  rw [hsz]
  refine wpAny_bind (wpAny_holding (wpAny_call_entry slot_list_sort ⟨_, hoL, rfl⟩ entry_list_sort (list_sort_ord O hoL hz (fun h2 => hS h2 _ _ hoL keep) fun out hs hb => ⟨_, rfl, ?_⟩) (args_list_sort _)))
  exact wpAny_pure ⟨_, rfl, h out hs hb⟩
theorem sorted_pairsT {l : Addr} {o : Obj} {n : Nat} {vs : List Value} {k : Value → Int × Int} {Q : Value → Shared → Prop} (ho : s.heap.get? l = some o) (hc : o.cls = .type "tuple") (hd : o.data = .seq vs.toArray n) (hz : vs.length ≤ sizeLine) (hp : ∀ v ∈ vs, IsPair s.heap v (k v).1 (k v).2)
    (h : ∀ (h' : Heap) (d : Addr) (out : List Value), Srtd (fun v u => lexB (k v) (k u)) out → Stb (fun v u => lexB (k v) (k u)) out vs → (∀ b o, s.heap.get? b = some o → h'.get? b = some o) → s.heap.objs.size ≤ d → (∃ n, h'.get? d = some (seqObj "list" out.toArray n)) → Q (.ref d) { s with heap := h' }) :
    wpAny (model prog w) A (call (.builtin "sorted") [.ref l]) Q E s := by
  refine sorted_ordT (swo_lex k) ho hc hd hz (fun h2 h₁ a ha kk => ?_) fun out hs hb => ?_
  · refine pairs_sortableO (s := { s with heap := h₁ }) (by omega) (fun v hm => (hp v hm).keeps fun b o e _ => (kk b o e).2) fun o e => ?_
    have e' : some o = some (seqObj "list" vs.toArray 0) := e.symm.trans ha
    cases e'
    intro c
    exact absurd (Value.type.inj c) (by decide)
  · exact h _ _ out hs hb (fun b o e => sortedAll_old e) (Nat.le_succ _) (sortedAll_at s.heap vs out.toArray)
end
end SrtO
namespace Ps
open PySem PySem.Spec PyProof.Rows L2
def rSortedPT (K : PySem.W.Frag) : List V → Hp → VK → Prop := fun vs H Q => ∃ (a : Addr) (xs : List V) (k : V → Int × Int), vs = [V.ref a] ∧ H a = some (.tup xs) ∧ (∀ x ∈ xs, ∃ t, x = V.ref t ∧ H t = some (.tup [.int (k x).1, .int (k x).2])) ∧
  ∀ ys p, SrtO.Srtd (ltP k) ys → SrtO.Stb (ltP k) ys xs → H p = none → Q (.ref p) (upd H p (.lst ys))
section
variable {X : Cx}
theorem cr_sortedPT : CallR X (.builtin "sorted") (rSortedPT X.K) := by
  intro pins s σ H vs us Q I r h
  obtain ⟨a, xs, k, rfl, ha, hx, q⟩ := h
  obtain ⟨hz, its, rv, o, ho, hc, n, hd⟩ := I.hok _ _ ha
  obtain ⟨u, rfl, ru⟩ := vals1 r
  obtain rfl : u = Value.ref a := ru
  obtain ⟨e1, e2⟩ := refs_back rv fun x m => by
    obtain ⟨t, e, _⟩ := hx x m
    exact ⟨t, e⟩
  refine SrtO.sorted_pairsT (k := fun u => k (backV u)) ho hc hd (by rw [← rv.length]; exact hz) (fun v hv => ?_) fun h' d out h1 h2 kp hd hn => ?_
  · obtain ⟨t, rfl⟩ := e2 v hv
    have hm : V.ref t ∈ xs := by rw [e1]; exact List.mem_map.mpr ⟨_, hv, rfl⟩
    obtain ⟨t', e, ht⟩ := hx _ hm
    cases e
    obtain ⟨_, its2, r2, o, ho, hc, n, hd⟩ := I.hok _ _ ht
    obtain ⟨u1, u2, rfl, ri, rj⟩ := vals2 r2
    obtain ⟨t1, rfl⟩ := ri
    obtain ⟨t2, rfl⟩ := rj
    exact ⟨t, o, t1, t2, n, rfl, ho, hc, hd⟩
  · have h3 : ∀ u ∈ out, ∃ a, u = Value.ref a := fun u hu => e2 u (h2.perm.mem_iff.mp hu)
    obtain ⟨n, hn⟩ := hn
    have hb : SrtO.Stb (ltP k) (out.map backV) xs := by
      rw [e1]
      exact SrtO.Stb.map (ltP_swo k) backV h2
    refine ⟨.ref d, upd H d (.lst (out.map backV)), I.laid (t' := s.toks) kp hd ⟨?_, out, n, vals_back h3, hn⟩, rfl, q _ d (SrtO.srtd_map h1) hb (I.hok.fresh hd)⟩
    rw [hb.len]
    exact hz
end
end Ps
end
section
set_option maxHeartbeats 2000000
/-! PsLam: min(x, key=lambda j: e) of a list. -/
namespace Ps
open PySem PySem.Spec PyProof.Rows L2 LamX
/-- the heap's view behind the making of a lambda: as it was, or its code object in the table -/
def LamE (H H1 : Hp) (P c' : Addr) (q : Str) : Prop := H1 = H ∨ ∃ ps more : Array Value, H P = some (.tbl ps) ∧ H c' = none ∧ H1 = upd (upd H P (.tbl (ps ++ more))) c' (CodeO c' q)
section
variable {X : Cx} {pins : List (Addr × Obj)} {σ : L2.St} {H : Hp} {s : Shared}
theorem lam_mk {c P : Addr} {q : Str} {params : Arguments} {body : Expr} {scope : Scope} {pos : Pos} {E Q : Value → Shared → Prop} (I : Inv X pins σ H s) (B : TabB X.base X.mg c P) (hcode : X.env.code = .ref c)
    (hq : X.env.qual ++ "<lambda>" = q) (t : TabS H P q) (hdef : defaultsOf params X.env = ([], [])) (hfree : ∀ y ∈ scope.names, y.2 = .free → ∃ c, X.env.cells.lookup y.1 = some c)
    (k : ∀ (f c' : Addr) (pm ctv : Value) (H1 : Hp) (s' : Shared), Inv X pins σ H1 s' → LamE H H1 P c' q → TabS H1 P q → H1 c' = some (CodeO c' q) → s.heap.objs.size ≤ f → H1 f = none → f ∉ frs X.stack →
      s'.heap.get? f = some (PySem.W.kla_obj "<lambda>" q params body scope (cloFrom X.env.cells scope.names []) pm c' ctv) → Q (.ref f) s') :
    wpAny (model X.prog X.w) X.A (eval (.Lambda params body scope pos) X.env) Q E s := by
  subst hq
  obtain ⟨ps, hP, tri, am⟩ := t
  refine PySem.W.kla_eval hdef ?_
  have bk := B.bm.keeps I.bk
  have cd := B.code.keeps I.bk
  have gl := I.mod.glob.keeps I.bk
  have realP : s.heap.get? P = some { cls := .none, data := .fields ps } := I.hok P _ hP
  have out : ∀ f, s.heap.objs.size ≤ f → f ∉ frs X.stack := by
    intro f hf z
    rcases List.mem_cons.mp (I.stkSub _ z) with e | e
    · have below := I.lt
      rw [← e] at below
      exact absurd (Nat.lt_of_lt_of_le below hf) (Nat.lt_irrefl _)
    · exact I.nofs hf e
  cases hc : codeAmong pos ps.toList with
  | some cv =>
    obtain ⟨c', rfl, hco⟩ := am pos cv hc
    refine PySem.W.kla_makeFunctionHit (mg := X.mg) (c := c) (P := P) (ps := ps) (closure_ok hfree) I.ok.glob gl hcode cd realP tri hc bk ?_
    intro ctv h' tk kp sz
    exact k _ c' _ ctv H _ (I.kept fun b o e => Heap.get?_push_of_some _ (kp b o e)) (.inl rfl) ⟨ps, hP, tri, am⟩ hco sz (I.hok.fresh sz) (out _ sz) (Heap.get?_push_size _ rfl)
  | none =>
    refine PySem.W.kla_makeFunction (mg := X.mg) (c := c) (P := P) (ps := ps) (closure_ok hfree) I.ok.glob gl hcode cd realP tri hc B.gP bk ?_
    intro c' ctv h' tk kp ge lt rec tb
    obtain ⟨c2, oc, vs, tt, e2, hoc, hd, hv⟩ := rec
    injection e2 with e2
    subst e2
    have sz : s.heap.objs.size ≤ h'.objs.size := by omega
    have nC : H c' = none := I.hok.fresh ge
    have nPc : P ≠ c' := ne_of_none hP nC
    have J := inv_table (t' := tk) (more := #[rawInt pos.line, rawInt pos.col, .ref c']) (q := X.env.qual ++ "<lambda>") I hP (fun b o hb e => Heap.get?_push_of_some (PySem.W.kla_obj "<lambda>" (X.env.qual ++ "<lambda>") params body scope (cloFrom X.env.cells scope.names []) ((X.mg "__name__").getD .none) c' ctv) (kp b o hb e)) (Heap.get?_push_of_some _ tb) ge ⟨oc, vs, tt, Heap.get?_push_of_some _ hoc, hd, hv⟩
    refine k _ c' _ ctv _ _ J (.inr ⟨ps, _, hP, nC, rfl⟩) ⟨_, by rw [upd_ne nPc, upd_same], ?_, fun p' cv hcv => ?_⟩ upd_same sz ?_ (out _ sz) (Heap.get?_push_size _ rfl)
    · rw [Array.toList_append]
      exact PySem.TriplesOk_snoc _ _ _ _ tri
    · rw [Array.toList_append] at hcv
      rcases among_app _ tri hcv with z | z
      · obtain ⟨c0, e1, e3⟩ := am p' cv z
        refine ⟨c0, e1, ?_⟩
        rw [upd_ne (ne_of_none e3 nC), upd_ne (fun z2 => codeO_ne ps (Option.some.inj (e3.symm.trans (by rw [z2]; exact hP))))]
        exact e3
      · exact ⟨c', z, upd_same⟩
    · have n1 : h'.objs.size ≠ c' := by omega
      have n2 : h'.objs.size ≠ P := Nat.ne_of_gt (Nat.lt_of_lt_of_le (Heap.lt_size realP) sz)
      rw [upd_ne n1, upd_ne n2]
      exact I.hok.fresh sz
/-! ### one parameter -/
/-- the parameter x, captured names, globals -/
structure Lam1 (sc scope : Scope) (x : Str) : Prop where
  kind : scope.kind = .function
  co : scope.isCoroutine = false
  gen : scope.isGenerator = false
  par : scope.names.lookup x = some .local
  own : ∀ y ∈ scope.names, y.2 ≠ .cell ∧ (y.2 = .local → y.1 = x)
  free : ∀ y ∈ scope.names, y.2 = .free → sc.names.lookup y.1 = some .cell ∨ sc.names.lookup y.1 = some .free
def lam1B (sc scope : Scope) (x : Str) : Bool :=
  decide (scope.kind = .function) && (!scope.isCoroutine && (!scope.isGenerator && (decide (scope.names.lookup x = some .local) && scope.names.all fun y => !decide (y.2 = .cell) && (!decide (y.2 = .local) || decide (y.1 = x)) &&
    (!decide (y.2 = .free) || (decide (sc.names.lookup y.1 = some .cell) || decide (sc.names.lookup y.1 = some .free))))))
theorem lam1_by {sc scope : Scope} {x : Str} (h : lam1B sc scope x = true) : Lam1 sc scope x := by
  unfold lam1B at h
  simp only [Bool.and_eq_true, Bool.or_eq_true, Bool.not_eq_true', decide_eq_true_eq, decide_eq_false_iff_not, List.all_eq_true] at h
  obtain ⟨h1, h2, h3, h4, h5⟩ := h
  refine ⟨h1, h2, h3, h4, fun y hy => ⟨(h5 y hy).1.1, fun e => ?_⟩, fun y hy e => ?_⟩
  · rcases (h5 y hy).1.2 with z | z
    · exact absurd e z
    · exact z
  · rcases (h5 y hy).2 with z | z
    · exact absurd e z
    · exact z
theorem Lam1.has {scope : Scope} {x : Str} (L : Lam1 X.env.scope scope x) (ok : X.Ok) : ∀ y ∈ scope.names, y.2 = .free → ∃ c, X.env.cells.lookup y.1 = some c := fun y hy e => by
  rcases L.free y hy e with k | k
  · exact ok.has _ (.inl k)
  · exact ok.has _ (.inr k)
/-- what the lambda's body sees where it begins -/
theorem lam_in {scope : Scope} {x : Str} {i : Nat} {f c' : Addr} {v : V} {u : Value} {h₁ : Heap} {tk : Nat} (I : Inv X pins σ H s) (L : Lam1 X.env.scope scope x) (hc : X.A.handled = none) (hN : X.N[i]? = some x) (nd : X.N.Nodup) (rv : RelV v u)
    (hns : h₁.Ns s.heap.objs.size fun y => [(x, u)].reverse.lookup y) (kp : ∀ b o, s.heap.get? b = some o → h₁.get? b = some o) :
    Inv (lamCx X X.A.in1 X.stack s H (fun _ _ _ => False) scope f c') [] (σ.set i (some v)) H { s with heap := h₁, toks := tk } := by
  have has := L.has I.ok
  have e0 := I.env0.in1
  have up : ∀ {y c}, (cloFrom X.env.cells scope.names []).lookup y = some c → X.env.cells.lookup y = some c := by
    intro y c e
    rcases cloFrom_mem (PySem.mem_of_lookup e) with hm | ⟨h1, h2⟩
    · cases hm
    · obtain ⟨c1, hc⟩ := has _ h1 rfl
      have hc : X.env.cells.lookup y = some c1 := hc
      have h2 : c = (X.env.cells.lookup y).getD 0 := h2
      have : c = c1 := by
        rw [h2, hc]
        rfl
      rw [this]
      exact hc
  have got : ∀ {y}, scope.names.lookup y = some .free → ∃ c, (cloFrom X.env.cells scope.names []).lookup y = some c := fun {y} hl => mem_lookup (cloFrom_has (cells := X.env.cells) (acc := []) (PySem.mem_of_lookup hl))
  have cel : ∀ {c : Addr} {w : Option Value}, s.heap.IsCell c w → h₁.IsCell c w := fun {c w} ⟨o, ho, hd⟩ => ⟨o, kp _ _ ho, hd⟩
  have noex : ∀ b : Addr, b ∉ ([] : List Addr) := fun b z => by cases z
  have hlen : (σ.set i (some v)).length = X.N.length := by rw [List.length_set]; exact I.len
  refine ⟨⟨e0.mod, L.kind, rfl, rfl, Nat.le_refl _, fun y z c e1 e2 => I.ok.inj y z c (up e1) (up e2), fun y hy => ?_, fun y c z _ => (by cases (show false = true from z)), fun _ => hc, Around.frames_deeper e0.frames, .inr ⟨rfl, rfl⟩, fun b z => absurd z (noex b), e0.bs, e0.bsz,
      fun b _ _ => noex b, fun b z => absurd z (noex b), e0.funs, e0.frf⟩, rfl, e0.bare, Un.kept kp, ⟨_, hns, fun j y w e1 e2 e3 => ?_⟩, fun y c e => ?_, e0.hok.fresh (Nat.le_refl _), fun y c e => I.freeC y c (up e), fun q hq => absurd (show q ∈ ([] : List (Addr × Obj)) ++ [] from hq) (by simp), e0.hok.kept kp, hlen⟩
  · have hy : scope.names.lookup y = some .cell ∨ scope.names.lookup y = some .free := hy
    rcases hy with hy | hy
    · exact absurd rfl (L.own _ (PySem.mem_of_lookup hy)).1
    · exact got hy
  · have e3 : Vis scope y := e3
    by_cases hy : y = x
    · have hij : j = i := by
        rw [hy] at e1
        have e1 : X.N[j]? = some x := e1
        obtain ⟨h1, h2⟩ := List.getElem?_eq_some_iff.mp e1
        obtain ⟨h3, h4⟩ := List.getElem?_eq_some_iff.mp hN
        exact (List.getElem_inj nd).mp (h2.trans h4.symm)
      rw [hij] at e2
      have hi : i < σ.length := by rw [I.len]; exact (List.getElem?_eq_some_iff.mp hN).1
      rw [List.getElem?_set_self hi] at e2
      cases e2
      exact ⟨u, rv, .inl ⟨by rw [hy]; exact L.par, by rw [hy]; simp⟩⟩
    · have hij : i ≠ j := fun z => by
        rw [z] at hN
        have e1 : X.N[j]? = some y := e1
        rw [hN] at e1
        exact hy (Option.some.inj e1).symm
      rw [List.getElem?_set_ne hij] at e2
      rcases e3 with k | k | k
      · exact absurd ((L.own _ (PySem.mem_of_lookup k)).2 rfl) hy
      · exact absurd rfl (L.own _ (PySem.mem_of_lookup k)).1
      · obtain ⟨m, hn, hl⟩ := I.loc
        have vis : Vis X.env.scope y := (L.free _ (PySem.mem_of_lookup k) rfl).elim (fun k => .inr (.inl k)) fun k => .inr (.inr k)
        obtain ⟨w', r, q⟩ := hl j y w e1 e2 vis
        obtain ⟨c2, h2⟩ := got k
        refine ⟨w', r, .inr ⟨.inr k, c2, h2, ?_⟩⟩
        have c1 := up h2
        rcases q with ⟨k', _⟩ | ⟨_, c3, e', z⟩
        · have k' : X.env.scope.names.lookup y = some .local := k'
          rcases L.free _ (PySem.mem_of_lookup k) rfl with k2 | k2 <;> rw [show X.env.scope.names.lookup y = _ from k2] at k' <;> cases k'
        · rw [c1] at e'
          cases e'
          exact cel z
  · obtain ⟨w', z⟩ := I.cell y c (up e)
    exact ⟨w', cel z⟩
/-- the lambda is called in a built-in function -/
theorem lam_call {scope : Scope} {x : Str} {i k : Nat} {f c' : Addr} {q : Str} {pm ctv : Value} {v : V} {u : Value} {params : Arguments} {body : Expr} {tb : TE} {Q : VK} (I : Inv X pins σ H s) (L : Lam1 X.env.scope scope x) (hr : Room (k + 2) X.A) (hN : X.N[i]? = some x) (nd : X.N.Nodup) (rv : RelV v u)
    (hf : s.heap.get? f = some (PySem.W.kla_obj "<lambda>" q params body scope (cloFrom X.env.cells scope.names []) pm c' ctv)) (hc : H c' = some (CodeO c' q)) (hq : X.env.qual ++ "<lambda>" = q)
    (hb : bindArgs (PySem.W.kla_fn "<lambda>" q params body scope (cloFrom X.env.cells scope.names []) pm (.ref c') ctv) ⟨[u], []⟩ = pure [(x, u)])
    (pb : PE (lamCx X X.A.in1 X.stack s H (fun _ _ _ => False) scope f c') body tb) (ht : tb (σ.set i (some v)) H Q) :
    codeAny (model X.prog X.w) X.A.in1 (.call (.ref f) ⟨[u], []⟩) (CR (L2.CX X.prog X.w) X.stack X.prog X.w H s Q fun _ _ _ => False) s := by
  subst hq
  obtain ⟨⟨oc, vs, t, hoc, hd, hv⟩, _, _⟩ := I.hok c' _ hc
  refine PySem.W.kla_callFunE hr.in1.depth hf rfl L.co L.gen rfl ⟨c', oc, vs, t, rfl, hoc, hd, hv⟩ ?_
  rw [hb]
  refine wpAny_pure (wpAny_newFunctionEnv (fun y hy => (L.own y hy).1) (fun y hy => ?_) (fun h₁ hns hsb => ⟨I.nolimit.fresh _ hsb, ?_⟩) L.kind)
  · rw [List.mem_singleton.mp hy]
    exact L.par
  · show codeAny _ _ (.expr body (lamEnv X scope s.heap.objs.size f c')) _ _
    have kp : ∀ b o, s.heap.get? b = some o → h₁.get? b = some o := fun b o e => hsb.extBut b o (Nat.ne_of_lt (Heap.lt_size e)) (Heap.get?_push_of_some _ e)
    have J := lam_in (f := f) (c' := c') (tk := s.toks + [(x, u)].length) I L hr.hd hN nd rv hns kp
    refine PySem.W.kla_codeExpr (wpAny_mono (pb.run [] _ _ H Q J ht) (fun w s' z => ?_) fun e s' z => z)
    obtain ⟨w', H', J', rw', z⟩ := z
    exact ⟨w', H', J'.os, J'.bare, J'.base, J'.hok, rw', z⟩
/-- objects that nobody knows of are written -/
theorem inv_moved {ch : List Addr} {s' : Shared} (I : Inv X pins σ H s) (hch : ∀ b ∈ ch, H b = none ∧ X.s_0.heap.objs.size ≤ b ∧ b ≠ X.env.locals ∧ (∀ x c, X.env.cells.lookup x = some c → c ≠ b) ∧ ∀ p ∈ X.pn ++ pins, p.1 ≠ b)
    (m : Moved ch (fun a b => b = a) s s') : Inv X pins σ H s' := by
  obtain ⟨mh, mg, md, mo, mt⟩ := m
  obtain ⟨h', g', d', t', os'⟩ := s'
  dsimp only at mh mg md mo mt
  subst mg md mo
  have noL : X.env.locals ∉ ch := fun z => (hch _ z).2.2.1 rfl
  exact I.step (g' := s.gens) (d' := s.drawn) (t' := t') (ch := ch) (h' := h') (H' := H) (fun b hb => ⟨.inr (hch b hb).2.1, (hch b hb).2.2⟩) (fun b o _ _ nb e _ => mh b o nb e) (fun b o _ _ nb e _ => ⟨o.slots, mh b o nb e⟩) (fun b o _ _ e => e) (fun b o nb e => ⟨o, mh b o nb e⟩)
    (fun b xs e => e) (fun b o u e => e) (fun b ps e => ⟨#[], by simpa using e⟩) (fun m hn => hn.at' fun o e => mh _ o noL e) (fun b u e => (I.hok b u e).stay (fun c v hc z => mh c v (fun hz => by
      have hn := (hch c hz).1
      rcases hc with hc | hc
      · rw [hc, e] at hn; cases hn
      · rw [hn] at hc; cases hc) z) (fun c hc => hc) fun c xs hc => hc) I.bare
/-- a list's values, one by one -/
theorem walk_vals {prog : Program} {w : World} {A : Around} (hh : A.handled = none) (J l : Addr) (hne : l ≠ J) (xs : List V) :
    Walks prog w A J [J, l] [J] xs.length (fun i v => ∃ x, xs[i]? = some x ∧ RelV x v) (fun i h => h.IsListIter J l i ∧ ∃ its : List Value, Vals xs its ∧ h.IsList l its.toArray) where
  sub := fun b hb => by simp at hb; simp [hb]
  frame := fun i h h' st hk => by
    obtain ⟨a, its, r, b⟩ := st
    exact ⟨a.at fun o e => hk J (by simp) o e, its, r, b.at fun o e => hk l (by simp) o e⟩
  item := fun i s Q E hi st k => by
    obtain ⟨a, its, r, b⟩ := st
    obtain ⟨u, hu, ru⟩ := r.get (i := i) (x := xs[i]) (List.getElem?_eq_getElem hi)
    refine wpAny_pyNext_list_item a b (x := u) (by simpa using hu) fun h' a' sb => ?_
    exact k u h' s.toks ⟨xs[i], List.getElem?_eq_getElem hi, ru⟩ ⟨a', its, r, b.extBut sb.extBut hne⟩ fun c o hc e => sb.extBut c o (fun z => hc (by simp [z])) e
  done := fun s Q E st k => by
    obtain ⟨a, its, r, b⟩ := st
    refine wpAny_pyNext_list_end hh a b ?_ fun h' kp => k h' s.toks fun c o hc e => kp c o (fun z => hc (by simp [z])) e
    have := r.length
    simp [this]
  self := fun i s Q E st k => wpAny_pyIter_listiter st.1 k
def keyLt (ks : List Int) (i j : Nat) : Bool := decide (ks.getD i 0 < ks.getD j 0)
/-- min(l, key=f) -/
theorem min_run {scope : Scope} {x : Str} {i k : Nat} {l f c' : Addr} {q : Str} {pm ctv : Value} {params : Arguments} {body : Expr} {xs : List V} {ks : List Int} {G : Hp → Prop} {Q : VK} {E : Value → Shared → Prop} (I : Inv X pins σ H s) (L : Lam1 X.env.scope scope x) (hr : Room (k + 2) X.A)
    (hN : X.N[i]? = some x) (nd : X.N.Nodup) (hq : X.env.qual ++ "<lambda>" = q) (h0 : xs ≠ []) (hk : ks.length = xs.length) (g0 : G H) (gl : ∀ H', G H' → SqL X.K H' l xs) (gc : ∀ H', G H' → H' c' = some (CodeO c' q)) (fH : H f = none) (ff : f ∉ frs X.stack)
    (hf : s.heap.get? f = some (PySem.W.kla_obj "<lambda>" q params body scope (cloFrom X.env.cells scope.names []) pm c' ctv))
    (hb : ∀ u, bindArgs (PySem.W.kla_fn "<lambda>" q params body scope (cloFrom X.env.cells scope.names []) pm (.ref c') ctv) ⟨[u], []⟩ = pure [(x, u)])
    (turn : ∀ (j : Nat) (y : V) (kk : Int), xs[j]? = some y → ks[j]? = some kk → ∀ (s' : Shared) (H' : Hp), G H' → ∃ tb : TE, PE (lamCx X X.A.in1 X.stack s' H' (fun _ _ _ => False) scope f c') body tb ∧ tb (σ.set i (some y)) H' fun kv H2 => kv = .int kk ∧ G H2)
    (hQ : ∀ (y : V) (H' : Hp), xs[argBest (keyLt ks) (xs.length - 1)]? = some y → G H' → Q y H') :
    wpAny (model X.prog X.w) X.A (call (.builtin "min") [.ref l] [(Str.ofString "key", .ref f)]) (EP X pins σ Q) E s := by
  obtain ⟨its, rv, hl, _⟩ := I.list (gl H g0)
  have hl : s.heap.IsList l its.toArray := hl.isList
  have lt_l : l < s.heap.objs.size := by obtain ⟨_, e, _⟩ := hl; exact Heap.lt_size e
  refine call_min_walkK (wpAny_pyIter_list hl ?_)
  have n0 : 0 < xs.length := List.length_pos_iff.mpr h0
  have oldf := Heap.lt_size hf
  have I2 : Inv X pins σ H { s with heap := s.heap.push { cls := .type "list_iterator", data := .fields #[.ref l, .int 0 0] } } := I.kept (t' := s.toks) fun b o e => Heap.get?_push_of_some _ e
  have szS : (s.heap.push { cls := .type "list_iterator", data := .fields #[.ref l, .int 0 0] }).objs.size = s.heap.objs.size + 1 := by rw [Heap.size_push]
  have chOk : ∀ b ∈ [s.heap.objs.size + 1, s.heap.objs.size], X.s_0.heap.objs.size ≤ b ∧ b ≠ X.env.locals ∧ (∀ x c, X.env.cells.lookup x = some c → c ≠ b) ∧ ∀ p ∈ X.pn ++ pins, p.1 ≠ b := by
    have sz := I.sz
    have lc := I.lt
    have key : ∀ b, s.heap.objs.size ≤ b → X.s_0.heap.objs.size ≤ b ∧ b ≠ X.env.locals ∧ (∀ x c, X.env.cells.lookup x = some c → c ≠ b) ∧ ∀ p ∈ X.pn ++ pins, p.1 ≠ b := fun b hb => by
      refine ⟨Nat.le_trans sz hb, (Nat.ne_of_lt (Nat.lt_of_lt_of_le lc hb)).symm, fun x c e => ?_, fun p hp => ?_⟩
      · obtain ⟨v, o, ho, _⟩ := I.cell x c e
        exact Nat.ne_of_lt (Nat.lt_of_lt_of_le (Heap.lt_size ho) hb)
      · exact Nat.ne_of_lt (Nat.lt_of_lt_of_le (Heap.lt_size (I.pin p hp).1) hb)
    intro b hb
    rcases List.mem_cons.mp hb with rfl | hb
    · exact key _ (Nat.le_succ _)
    · rw [List.mem_singleton.mp hb]
      exact key _ (Nat.le_refl _)
  refine ⟨s.heap.objs.size, [s.heap.objs.size, l], [s.heap.objs.size], fun a b => b = a, xs.length, fun i v => ∃ x, xs[i]? = some x ∧ RelV x v, fun i s' => s'.heap.IsListIter s.heap.objs.size l i ∧ ∃ its : List Value, Vals xs its ∧ s'.heap.IsList l its.toArray,
    fun s' => ∃ H', Inv X pins σ H' s' ∧ G H' ∧ H' f = none ∧ s'.heap.get? f = some (PySem.W.kla_obj "<lambda>" q params body scope (cloFrom X.env.cells scope.names []) pm c' ctv) ∧ H' s.heap.objs.size = none ∧ H' (s.heap.objs.size + 1) = none,
    fun i v _ => ∃ kk t, ks[i]? = some kk ∧ v = .int kk t, keyLt ks, rfl, (walk_vals (prog := X.prog) (w := X.w) (A := X.A.in1) hr.hd _ l (Nat.ne_of_lt lt_l) xs).toS, ⟨⟨_, Heap.get?_push_size _ rfl, rfl, rfl⟩, its, rv, hl.push _⟩, fun b hb => ?_, n0, ⟨fun s1 s2 hJ hm => ?_, fun i v s1 s2 hv _ => hv, fun j v s1 o Q' E' hj hP hJ hst hS hq' => ?_, fun i j vi vj s1 Q' E' _ hi hj hq' => ?_⟩,
    ⟨H, I2, g0, fH, Heap.get?_push_of_some _ hf, I.hok.fresh (Nat.le_refl _), I.hok.fresh (Nat.le_succ _)⟩, fun v s1 hP hJ => ?_⟩
  · show b < (s.heap.push _).objs.size
    rw [szS]
    rcases List.mem_cons.mp hb with rfl | hb
    · exact Nat.lt_succ_self _
    · rw [List.mem_singleton.mp hb]
      exact Nat.lt_succ_of_lt lt_l
  · obtain ⟨H', J, g, f1, f2, h1, h2⟩ := hJ
    rw [szS] at hm
    refine ⟨H', inv_moved J (fun b hb => ?_) hm, g, f1, hm.heap f _ (fun z => ?_) f2, h1, h2⟩
    · refine ⟨?_, chOk b hb⟩
      rcases List.mem_cons.mp hb with rfl | hb
      · exact h2
      · rw [List.mem_singleton.mp hb]; exact h1
    · rcases List.mem_cons.mp z with z | z
      · rw [z] at oldf; exact absurd (Nat.lt_of_lt_of_le oldf (Nat.le_succ _)) (Nat.lt_irrefl _)
      · rw [List.mem_singleton.mp z] at oldf; exact absurd oldf (Nat.lt_irrefl _)
  · obtain ⟨H', J, g, f1, f2, h1, h2⟩ := hJ
    obtain ⟨y, ey, ry⟩ := hP
    have hj2 : j < ks.length := by omega
    obtain ⟨tb, pb, ht⟩ := turn j y ks[j] ey (List.getElem?_eq_getElem hj2) s1 H' g
    have rc := lam_call (k := k) J L hr hN nd ry f2 (gc H' g) hq (hb v) pb ht
    refine wpAny_call (codeAny_mono rc fun r s2 z => ?_)
    cases r with
    | error e =>
      obtain ⟨_, _, _, _, _, _, _, _, _, _, _, _, z⟩ := z
      exact z.elim
    | ok fl =>
      cases fl with
      | next => exact False.elim z
      | brk => exact False.elim z
      | cont => exact False.elim z
      | ret u =>
        obtain ⟨w, H2, os, bare, un, hok, rw', ew, g2⟩ := id z
        subst ew
        obtain ⟨t, et⟩ := (show ∃ t, u = .int ks[j] t from rw')
        subst et
        have keepU : ∀ b o, s1.heap.get? b = some o → H' b = none → b ∉ frs X.stack → s2.heap.get? b = some o := fun b o e n nf => un.keep b o e n nf (by simp)
        have nfr : ∀ b, s.heap.objs.size ≤ b → b ∉ frs X.stack := fun b hb hz => by
          rcases List.mem_cons.mp (I.stkSub _ hz) with e | e
          · have below := I.lt
            rw [← e] at below
            exact absurd (Nat.lt_of_lt_of_le below hb) (Nat.lt_irrefl _)
          · exact I.nofs hb e
        obtain ⟨⟨oi, ei, ri⟩, _⟩ := hst
        rw [szS] at hS
        have I3 := J.after (Q := fun _ H3 => H3 = H2) ⟨_, H2, os, bare, un, hok, rw', rfl⟩
        obtain ⟨v3, H3, J3, _, rfl⟩ := I3
        obtain ⟨its3, rv3, hl3, _⟩ := J3.list (gl _ g2)
        refine hq' _ s2 ⟨_, J3, g2, un.free f _ f2 f1 (by simp), keepU f _ f2 f1 ff, un.free _ _ ei h1 (by simp), un.free _ _ hS h2 (by simp)⟩ ⟨⟨oi, keepU _ _ ei h1 (nfr _ (Nat.le_refl _)), ri⟩, its3, rv3, hl3.isList⟩ (by rw [szS]; exact keepU _ _ hS h2 (nfr _ (Nat.le_succ _))) ⟨ks[j], t, List.getElem?_eq_getElem hj2, rfl⟩ fun j' k' hv => hv
  · obtain ⟨a, t1, ea, rfl⟩ := hi
    obtain ⟨b, t2, eb, rfl⟩ := hj
    refine wpAny_lt_int ?_
    have e1 : ks.getD i 0 = a := by rw [List.getD_eq_getElem?_getD, ea]; rfl
    have e2 : ks.getD j 0 = b := by rw [List.getD_eq_getElem?_getD, eb]; rfl
    unfold keyLt at hq'
    rw [e1, e2] at hq'
    exact hq'
  · obtain ⟨H', J, g, _⟩ := hJ
    obtain ⟨y, ey, ry⟩ := hP
    exact ⟨y, H', J, ry, hQ y H' ey g⟩
/-- min(a, key=lambda x: body): tb tells the body, the slot i holds its parameter -/
def tMinL (X : Cx) (P : Addr) (q : Str) (i : Nat) (tb : TE) (ta : TA) : TE := fun σ H Q => ta σ H fun vs H1 => ∃ (l : Addr) (xs : List V), vs = [.ref l] ∧ SqL X.K H1 l xs ∧ xs ≠ [] ∧ TabS H1 P q ∧
  ∀ H2 c', LamE H1 H2 P c' q → TabS H2 P q → H2 c' = some (CodeO c' q) → ∃ (G : Hp → Prop) (ks : List Int), ks.length = xs.length ∧ G H2 ∧ (∀ H', G H' → SqL X.K H' l xs ∧ H' c' = some (CodeO c' q)) ∧
    (∀ (j : Nat) (y : V) (kk : Int), xs[j]? = some y → ks[j]? = some kk → ∀ H', G H' → tb (σ.set i (some y)) H' fun kv H3 => kv = .int kk ∧ G H3) ∧ ∀ (y : V) (H' : Hp), xs[argBest (keyLt ks) (xs.length - 1)]? = some y → G H' → Q y H'
abbrev oneArg (x : Str) (xp : Pos) : Arguments := ⟨[], [⟨x, none, xp⟩], none, [], [], none, []⟩
theorem pe_minL {a body : Expr} {scope : Scope} {x q : Str} {i k : Nat} {c P : Addr} {ta : TA} {tb : TE} {p lpos kpos pos xp : Pos} (hg : Gl X "min") (hm : X.mg "min" = none) (hr : Room (k + 2) X.A) (B : TabB X.base X.mg c P) (hcode : X.env.code = .ref c) (hq : X.env.qual ++ "<lambda>" = q)
    (L : Lam1 X.env.scope scope x) (hN : X.N[i]? = some x) (nd : X.N.Nodup) (pa : PA X [a] ta) (pb : ∀ (s' : Shared) (H' : Hp) (f c' : Addr), PE (lamCx X X.A.in1 X.stack s' H' (fun _ _ _ => False) scope f c') body tb)
    (he : starEach [a] X.env = (false, eval a X.env) :: starEach [] X.env)
    (hbd : ∀ (q : Str) (cl : List (Str × Addr)) (pm cv ctv u : Value), bindArgs (PySem.W.kla_fn "<lambda>" q (oneArg x xp) body scope cl pm cv ctv) ⟨[u], []⟩ = pure [(x, u)]) :
    PE X (.Call (.Name "min" p) [a] [⟨some "key", .Lambda (oneArg x xp) body scope lpos, kpos⟩] pos) (tMinL X P q i tb ta) := by
  refine ⟨fun pins s σ H Q I h => ?_⟩
  refine wpAny_Call_Name_kw (ld_blt I hg hm (show bootBuiltins "min" = some (.builtin "min") by decide +kernel) ?_ (by decide) (by decide))
  refine PyProof.Rows.callWith_kw (thn (pa.run pos pins s σ H _ I h) fun us s1 ⟨vs, H1, I1, r1, l, xs, ev, hs, h0, tab, z⟩ => ?_) (by rw [he]; rfl) (by rw [he]; rfl) (by rfl) (by rfl)
  subst ev
  show wpAny _ _ (evalAll [do let v ← eval (.Lambda (oneArg x xp) body scope lpos) X.env; standAt pos; pure v]) _ _ s1
  refine wpAny_evalAll_cons (wpAny_bind (lam_mk I1 B hcode hq tab rfl (L.has I1.ok) fun f c' pm ctv H2 s2 I2 e t2 hc sz fH ff hf => wpAny_bind (wpAny_standAt (wpAny_pure ?_))))
  refine wpAny_evalAll_nil ?_
  obtain ⟨G, ks, hk, g0, gl, turn, hQ⟩ := z H2 c' e t2 hc
  rw [Vals.ref1 r1]
  have I3 := I2
  refine min_run (k := k) I3 L hr hN nd hq h0 hk g0 (fun H' g => (gl H' g).1) (fun H' g => (gl H' g).2) fH ff hf (fun u => hbd _ _ _ _ _ _) (fun j y kk h1 h2 s' H' g => ⟨tb, pb s' H' f c', turn j y kk h1 h2 H' g⟩) hQ
end
theorem bind_j (q : Str) (cl : List (Str × Addr)) (pm cv ctv u : Value) (xp : Pos) (body : Expr) (scope : Scope) : bindArgs (PySem.W.kla_fn "<lambda>" q (oneArg "j" xp) body scope cl pm cv ctv) ⟨[u], []⟩ = pure [(Str.ofString "j", u)] := by rfl
end Ps
end
section
set_option maxHeartbeats 4000000
namespace Ps
open PySem
theorem runs_det {M : Model} {Γ : Ctx} {p : Pos} {t : Sem Fin} {fs : List Frame} {s s' : Shared} {e : End} (h : Runs M Γ p t fs s e s') : ∀ {e2 : End} {s2 : Shared}, Runs M Γ p t fs s e2 s2 → e2 = e ∧ s2 = s' := by
  induction h with
  | done => intro e2 s2 h2; cases h2; exact ⟨rfl, rfl⟩
  | raise => intro e2 s2 h2; cases h2; exact ⟨rfl, rfl⟩
  | yield => intro e2 s2 h2; cases h2; exact ⟨rfl, rfl⟩
  | again _ _ ih => intro e2 s2 h2; cases h2 with | again _ h3 => exact ih h3
  | rule _ ih => intro e2 s2 h2; cases h2 with | rule h3 => exact ih h3
  | «at» _ ih => intro e2 s2 h2; cases h2 with | «at» h3 => exact ih h3
  | load e1 _ ih => intro e2 s2 h2; cases h2 with | load e3 h3 => rw [e1] at e3; cases e3; exact ih h3
  | update _ _ ih => intro e2 s2 h2; cases h2 with | update _ h3 => exact ih h3
  | loadIfAlive _ ih => intro e2 s2 h2; cases h2 with | loadIfAlive h3 => exact ih h3
  | point _ ih => intro e2 s2 h2; cases h2 with | point h3 => exact ih h3
  | alloc _ ih => intro e2 s2 h2; cases h2 with | alloc h3 => exact ih h3
  | fresh _ ih => intro e2 s2 h2; cases h2 with | fresh h3 => exact ih h3
  | ask _ ih => intro e2 s2 h2; cases h2 with | ask h3 => exact ih h3
  | choose _ _ ih => intro e2 s2 h2; cases h2 with | choose _ h3 => exact ih h3
  | os _ ih => intro e2 s2 h2; cases h2 with | os h3 => exact ih h3
  | handled _ ih => intro e2 s2 h2; cases h2 with | handled h3 => exact ih h3
  | genState e1 _ ih => intro e2 s2 h2; cases h2 with | genState e3 h3 => rw [e1] at e3; cases e3; exact ih h3
  | stack _ ih => intro e2 s2 h2; cases h2 with | stack h3 => exact ih h3
  | thread _ ih => intro e2 s2 h2; cases h2 with | thread h3 => exact ih h3
  | newGen _ ih => intro e2 s2 h2; cases h2 with | newGen h3 => exact ih h3
  | call _ _ ih1 ih2 =>
    intro e2 s2 h2
    cases h2 with
    | call h3 h4 =>
      obtain ⟨a, b⟩ := ih1 h3
      cases a
      subst b
      exact ih2 h4
    | callSusp h3 => exact End.noConfusion (ih1 h3).1
  | callSusp _ ih =>
    intro e2 s2 h2
    cases h2 with
    | call h3 h4 => exact End.noConfusion (ih h3).1
    | callSusp h3 =>
      obtain ⟨a, b⟩ := ih h3
      cases a
      exact ⟨rfl, b⟩
  | resumeFresh e1 _ _ _ ih1 ih2 =>
    intro e2 s2 h2
    cases h2 with
    | resumeFresh e3 h3 _ h4 =>
      rw [e1] at e3
      cases e3
      obtain ⟨rfl, rfl⟩ := ih1 h3
      exact ih2 h4
    | resumeSuspended e3 => rw [e1] at e3; cases e3
    | resumeJustStarted e3 hv => exact absurd rfl hv
    | resumeRunning e3 => rw [e1] at e3; cases e3
    | resumeFinished e3 => rw [e1] at e3; cases e3
  | resumeSuspended e1 _ _ _ ih1 ih2 =>
    intro e2 s2 h2
    cases h2 with
    | resumeFresh e3 => rw [e1] at e3; cases e3
    | resumeSuspended e3 h3 _ h4 =>
      rw [e1] at e3
      cases e3
      obtain ⟨rfl, rfl⟩ := ih1 h3
      exact ih2 h4
    | resumeJustStarted e3 hv => rw [e1] at e3; cases e3
    | resumeThrowFresh e3 => rw [e1] at e3; cases e3
    | resumeRunning e3 => rw [e1] at e3; cases e3
    | resumeFinished e3 => rw [e1] at e3; cases e3
  | resumeJustStarted e1 hv _ ih =>
    intro e2 s2 h2
    cases h2 with
    | resumeFresh e3 => exact absurd rfl hv
    | resumeSuspended e3 => rw [e1] at e3; cases e3
    | resumeJustStarted e3 _ h3 => exact ih h3
    | resumeRunning e3 => rw [e1] at e3; cases e3
    | resumeFinished e3 => rw [e1] at e3; cases e3
  | resumeThrowFresh e1 _ ih =>
    intro e2 s2 h2
    cases h2 with
    | resumeSuspended e3 => rw [e1] at e3; cases e3
    | resumeThrowFresh e3 h3 => exact ih h3
    | resumeRunning e3 => rw [e1] at e3; cases e3
    | resumeFinished e3 => rw [e1] at e3; cases e3
  | resumeRunning e1 _ ih =>
    intro e2 s2 h2
    cases h2 with
    | resumeFresh e3 => rw [e1] at e3; cases e3
    | resumeSuspended e3 => rw [e1] at e3; cases e3
    | resumeJustStarted e3 => rw [e1] at e3; cases e3
    | resumeThrowFresh e3 => rw [e1] at e3; cases e3
    | resumeRunning e3 h3 => exact ih h3
    | resumeFinished e3 => rw [e1] at e3; cases e3
  | resumeFinished e1 _ ih =>
    intro e2 s2 h2
    cases h2 with
    | resumeFresh e3 => rw [e1] at e3; cases e3
    | resumeSuspended e3 => rw [e1] at e3; cases e3
    | resumeJustStarted e3 => rw [e1] at e3; cases e3
    | resumeThrowFresh e3 => rw [e1] at e3; cases e3
    | resumeRunning e3 => rw [e1] at e3; cases e3
    | resumeFinished e3 h3 => exact ih h3
  | segRet _ _ ih1 ih2 =>
    intro e2 s2 h2
    cases h2 with
    | segRet h3 h4 =>
      obtain ⟨a, b⟩ := ih1 h3
      cases a
      subst b
      exact ih2 h4
    | segSuspOut _ h3 => exact End.noConfusion (ih1 h3).1
    | segSuspGen _ h3 => exact End.noConfusion (ih1 h3).1
  | segGen _ _ ih1 ih2 =>
    intro e2 s2 h2
    cases h2 with
    | segGen h3 h4 =>
      obtain ⟨a, b⟩ := ih1 h3
      cases a
      subst b
      exact ih2 h4
    | segSuspOut _ h3 => exact End.noConfusion (ih1 h3).1
    | segSuspGen _ h3 => exact End.noConfusion (ih1 h3).1
  | segSuspOut q _ ih =>
    intro e2 s2 h2
    cases h2 with
    | segRet h3 h4 => exact End.noConfusion (ih h3).1
    | segGen h3 h4 => exact End.noConfusion (ih h3).1
    | segSuspOut _ h3 =>
      obtain ⟨a, b⟩ := ih h3
      cases a
      exact ⟨rfl, b⟩
    | segSuspGen q2 h3 => rw [q] at q2; cases q2
  | segSuspGen q _ _ _ ih1 ih2 =>
    intro e2 s2 h2
    cases h2 with
    | segRet h3 h4 => exact End.noConfusion (ih1 h3).1
    | segGen h3 h4 => exact End.noConfusion (ih1 h3).1
    | segSuspOut q2 h3 => rw [q] at q2; cases q2
    | segSuspGen q2 h3 _ h4 =>
      rw [q] at q2
      cases q2
      obtain ⟨a, b⟩ := ih1 h3
      cases a
      subst b
      exact ih2 h4
/-- what a code does, told many times, is told at once -/
theorem codeAny_all {ι : Type} {M : Model} {A : Around} {c : Code} {R : Result → Shared → Prop} {Ri : ι → Result → Shared → Prop} {s : Shared} (h : codeAny M A c R s) (hi : ∀ i, codeAny M A c (Ri i) s) : codeAny M A c (fun r s' => R r s' ∧ ∀ i, Ri i r s') s := by
  intro Γ p hc hb
  obtain ⟨r, s', hr, q⟩ := h Γ p hc hb
  refine ⟨r, s', hr, q, fun i => ?_⟩
  obtain ⟨r2, s2, hr2, q2⟩ := hi i Γ p hc hb
  obtain ⟨a, rfl⟩ := runs_det hr hr2
  cases a
  exact q2
end Ps
end
section
set_option maxHeartbeats 4000000
/-! PsMinF: min(x, key=f) of a list, f a def that tells data. -/
namespace Ps
open PySem PySem.Spec PyProof.Rows L2
def keyLtD (ks : List D) (i j : Nat) : Bool := ltD (ks.getD i .non) (ks.getD j .non)
section
variable [Tbs] {X : Cx} {pins : List (Addr × Obj)} {σ : L2.St} {R H : Hp} {s : Shared}
theorem min_runF {k : Nat} {l f : Addr} {fd : FuncData} {ps : List Str} {sp : Sp} {xs : List V} {ks : List D} {Q : VK} {E : Value → Shared → Prop} (F : FnOk X.prog X.w X.K X.mg X.base (L2.CX X.prog X.w) k f fd ps sp) (hr : Room (k + 1) X.A) (hu : X.A.units + 70 < cLine)
    (hb : Binds X.K fd ps []) (I : Inv X pins σ H s) (sm : Same R H) (hs : SqL X.K H l xs) (h0 : xs ≠ []) (hk : ks.length = xs.length) (al : ∀ a ∈ ks, ∀ b ∈ ks, alkD a b = true) (nn : ∀ a ∈ ks, isNon a = false) (dp : ∀ a ∈ ks, dep a ≤ 64)
    (turn : ∀ (j : Nat) (y : V) (kd : D), xs[j]? = some y → ks[j]? = some kd → ∀ R' H', Ext R H R' H' → sp [y] H' (fun kv H2 => ∃ R2, Ext R' H' R2 H2 ∧ Rep X.K R2 kv kd) fun _ _ _ => False)
    (hQ : ∀ (y : V) (R' H' : Hp), xs[argBest (keyLtD ks) (xs.length - 1)]? = some y → Ext R H R' H' → Q y H') :
    wpAny (model X.prog X.w) X.A (call (.builtin "min") [.ref l] [(Str.ofString "key", .ref f)]) (EP X pins σ Q) E s := by
  obtain ⟨its, rv, hl, _⟩ := I.list hs
  have hl : s.heap.IsList l its.toArray := hl.isList
  have lt_l : l < s.heap.objs.size := by obtain ⟨_, e, _⟩ := hl; exact Heap.lt_size e
  refine call_min_walkK (wpAny_pyIter_list hl ?_)
  have n0 : 0 < xs.length := List.length_pos_iff.mpr h0
  have I2 : Inv X pins σ H { s with heap := s.heap.push { cls := .type "list_iterator", data := .fields #[.ref l, .int 0 0] } } := I.kept (t' := s.toks) fun b o e => Heap.get?_push_of_some _ e
  have szS : (s.heap.push { cls := .type "list_iterator", data := .fields #[.ref l, .int 0 0] }).objs.size = s.heap.objs.size + 1 := by rw [Heap.size_push]
  have chOk : ∀ b ∈ [s.heap.objs.size + 1, s.heap.objs.size], X.s_0.heap.objs.size ≤ b ∧ b ≠ X.env.locals ∧ (∀ x c, X.env.cells.lookup x = some c → c ≠ b) ∧ ∀ p ∈ X.pn ++ pins, p.1 ≠ b := by
    have sz := I.sz
    have lc := I.lt
    have key : ∀ b, s.heap.objs.size ≤ b → X.s_0.heap.objs.size ≤ b ∧ b ≠ X.env.locals ∧ (∀ x c, X.env.cells.lookup x = some c → c ≠ b) ∧ ∀ p ∈ X.pn ++ pins, p.1 ≠ b := fun b hb => by
      refine ⟨Nat.le_trans sz hb, (Nat.ne_of_lt (Nat.lt_of_lt_of_le lc hb)).symm, fun x c e => ?_, fun p hp => ?_⟩
      · obtain ⟨v, o, ho, _⟩ := I.cell x c e
        exact Nat.ne_of_lt (Nat.lt_of_lt_of_le (Heap.lt_size ho) hb)
      · exact Nat.ne_of_lt (Nat.lt_of_lt_of_le (Heap.lt_size (I.pin p hp).1) hb)
    intro b hb
    rcases List.mem_cons.mp hb with rfl | hb
    · exact key _ (Nat.le_succ _)
    · rw [List.mem_singleton.mp hb]
      exact key _ (Nat.le_refl _)
  have nfr : ∀ b, s.heap.objs.size ≤ b → b ∉ frs X.stack := fun b hb hz => by
    rcases List.mem_cons.mp (I.stkSub _ hz) with e | e
    · have below := I.lt
      rw [← e] at below
      exact absurd (Nat.lt_of_lt_of_le below hb) (Nat.lt_irrefl _)
    · exact I.nofs hb e
  -- the view that a state stands under
  let JJ : Hp → Hp → Shared → Prop := fun R' H' s' => Inv X pins σ H' s' ∧ Ext R H R' H' ∧ H' s.heap.objs.size = none ∧ H' (s.heap.objs.size + 1) = none
  have moved : ∀ (R' H' : Hp) (s1 s2 : Shared), JJ R' H' s1 → Moved [s.heap.objs.size + 1, s.heap.objs.size] (fun a b => b = a) s1 s2 → JJ R' H' s2 := fun R' H' s1 s2 ⟨J, e, h1, h2⟩ hm => by
    refine ⟨inv_moved J (fun b hb => ⟨?_, chOk b hb⟩) hm, e, h1, h2⟩
    rcases List.mem_cons.mp hb with rfl | hb
    · exact h2
    · rw [List.mem_singleton.mp hb]; exact h1
  refine ⟨s.heap.objs.size, [s.heap.objs.size, l], [s.heap.objs.size], fun a b => b = a, xs.length, fun i v => ∃ x, xs[i]? = some x ∧ RelV x v, fun i s' => s'.heap.IsListIter s.heap.objs.size l i ∧ ∃ its : List Value, Vals xs its ∧ s'.heap.IsList l its.toArray,
    fun s' => ∃ R' H', JJ R' H' s',
    fun i v s' => ∃ R' H' x kd, JJ R' H' s' ∧ ks[i]? = some kd ∧ RelV x v ∧ Rep X.K R' x kd, keyLtD ks, rfl, (walk_vals (prog := X.prog) (w := X.w) (A := X.A.in1) hr.hd _ l (Nat.ne_of_lt lt_l) xs).toS, ⟨⟨_, Heap.get?_push_size _ rfl, rfl, rfl⟩, its, rv, hl.push _⟩, fun b hb => ?_, n0, ⟨fun s1 s2 hJ hm => ?_, fun i v s1 s2 hv hm => ?_, fun j v s1 o Q' E' hj hP hJ hst hS hq' => ?_, fun i j vi vj s1 Q' E' _ hi hj hq' => ?_⟩,
    ⟨R, H, I2, Ext.refl sm, I.hok.fresh (Nat.le_refl _), I.hok.fresh (Nat.le_succ _)⟩, fun v s1 hP hJ => ?_⟩
  · show b < (s.heap.push _).objs.size
    rw [szS]
    rcases List.mem_cons.mp hb with rfl | hb
    · exact Nat.lt_succ_self _
    · rw [List.mem_singleton.mp hb]
      exact Nat.lt_succ_of_lt lt_l
  · obtain ⟨R', H', J⟩ := hJ
    rw [szS] at hm
    exact ⟨R', H', moved R' H' s1 s2 J hm⟩
  · obtain ⟨R', H', x, kd, J, e1, e2, e3⟩ := hv
    rw [szS] at hm
    exact ⟨R', H', x, kd, moved R' H' s1 s2 J hm, e1, e2, e3⟩
  · obtain ⟨R', H', J⟩ := hJ
    obtain ⟨y, ey, ry⟩ := hP
    have hj2 : j < ks.length := by omega
    have hkd := List.getElem?_eq_getElem hj2
    rw [szS] at hS
    have one : ∀ R' H', JJ R' H' s1 → codeAny (model X.prog X.w) X.A.in1 (.call (.ref f) ⟨[v], []⟩) (CR (L2.CX X.prog X.w) X.stack X.prog X.w H' s1 (fun kv H2 => ∃ R2, Ext R' H' R2 H2 ∧ Rep X.K R2 kv ks[j]) fun _ _ _ => False) s1 := fun R' H' ⟨J, e, h1, h2⟩ => by
      have b := hb s1 [v] J.kIn (by
        rw [List.append_nil]
        exact F.len _ _ _ _ (turn j y _ ey hkd R' H' e))
      rw [List.append_nil] at b
      exact F.run X.A.in1 X.stack s1 H' ⟨[v], []⟩ [v] [y] _ _ hr.in1 J.env0.in1 b (.cons ry .nil) (turn j y _ ey hkd R' H' e)
    have all := codeAny_all (one R' H' J) (ι := { q : Nat × Value × Hp × Hp × V × D // JJ q.2.2.1 q.2.2.2.1 s1 }) (Ri := fun q => CR (L2.CX X.prog X.w) X.stack X.prog X.w q.1.2.2.2.1 s1 (fun kv H2 => ∃ R2, Ext q.1.2.2.1 q.1.2.2.2.1 R2 H2 ∧ Rep X.K R2 kv ks[j]) fun _ _ _ => False) fun q => one _ _ q.2
    refine wpAny_call (codeAny_mono all fun r s2 z => ?_)
    obtain ⟨z0, zi⟩ := z
    obtain ⟨⟨oi, ei, ri⟩, _⟩ := id hst
    have out : ∀ R' H', JJ R' H' s1 → ∀ u, r = .ok (.ret u) → CR (L2.CX X.prog X.w) X.stack X.prog X.w H' s1 (fun kv H2 => ∃ R2, Ext R' H' R2 H2 ∧ Rep X.K R2 kv ks[j]) (fun _ _ _ => False) r s2 →
        ∃ (w : V) (R2 H2 : Hp), JJ R2 H2 s2 ∧ Ext R' H' R2 H2 ∧ RelV w u ∧ Rep X.K R2 w ks[j] ∧ (∀ b o, s1.heap.get? b = some o → H' b = none → b ∉ frs X.stack → s2.heap.get? b = some o) := fun R' H' ⟨J, e, h1, h2⟩ u er z => by
      subst er
      obtain ⟨w, H2, os, bare, un, hok, rw', R2, e2, rk⟩ := id z
      have I3 := J.after (Q := fun _ H3 => H3 = H2) ⟨_, H2, os, bare, un, hok, rw', rfl⟩
      obtain ⟨v3, H3, J3, _, rfl⟩ := I3
      exact ⟨w, R2, _, ⟨J3, e.trans e2, un.free _ _ ei h1 (by simp), un.free _ _ hS h2 (by simp)⟩, e2, rw', rk, fun b o e n nf => un.keep b o e n nf (by simp)⟩
    cases r with
    | error e =>
      obtain ⟨_, _, _, _, _, _, _, _, _, _, _, _, z⟩ := z0
      exact z.elim
    | ok fl =>
      cases fl with
      | next => exact False.elim z0
      | brk => exact False.elim z0
      | cont => exact False.elim z0
      | ret u =>
        obtain ⟨w, R2, H2, J2, e2, rw', rk, keepU⟩ := out R' H' J u rfl z0
        obtain ⟨its3, rv3, hl3, _⟩ := J2.1.list (J2.2.1.hh.seq hs)
        refine hq' _ s2 ⟨R2, H2, J2⟩ ⟨⟨oi, keepU _ _ ei J.2.2.1 (nfr _ (Nat.le_refl _)), ri⟩, its3, rv3, hl3.isList⟩ (by rw [szS]; exact keepU _ _ hS J.2.2.2 (nfr _ (Nat.le_succ _))) ⟨R2, H2, w, ks[j], J2, hkd, rw', rk⟩ fun j' k' ⟨R1, H1, x, kd, J1, a1, a2, a3⟩ => ?_
        obtain ⟨_, R3, H3, J3, e3, _⟩ := out R1 H1 J1 u rfl (zi ⟨(j', k', R1, H1, x, kd), J1⟩)
        exact ⟨R3, H3, x, kd, J3, a1, a2, a3.mono e3.rr⟩
  · obtain ⟨R1, H1, x1, d1, J1, a1, a2, a3⟩ := hi
    obtain ⟨R2, H2, x2, d2, J2, b1, b2, b3⟩ := hj
    have e1 : ks.getD i .non = d1 := by rw [List.getD_eq_getElem?_getD, a1]; rfl
    have e2 : ks.getD j .non = d2 := by rw [List.getD_eq_getElem?_getD, b1]; rfl
    have m1 := List.mem_of_getElem? a1
    have m2 := List.mem_of_getElem? b1
    obtain ⟨as, r1⟩ := Dp.reads J1.1 _ _ _ (Shal.dp (R := R1) J1.2.1.sub (.inl a3) (decide_eq_true (dp _ m1))) a2
    obtain ⟨bs, r2⟩ := Dp.reads J2.1 _ _ _ (Shal.dp (R := R2) J2.2.1.sub (.inl b3) (decide_eq_true (dp _ m2))) b2
    unfold keyLtD at hq'
    rw [e1, e2, ltD_py _ _ (al _ m1 _ m2)] at hq'
    have d := dep_py d1
    have dd := dp _ m1
    have ne : toPy d1 ≠ .none := fun z => by
      have := nn _ m1
      cases d1 <;> simp [toPy, isNon] at z this
    exact PySem.W.rcLt_alike _ _ X.A.in1 s1 _ _ as bs r1 r2 (by rw [← alkD_py]; exact al _ m1 _ m2) ne (by show X.A.units + 1 + _ < cLine; omega) X.prog X.w _ _ hq'
  · obtain ⟨R', H', J, e, _⟩ := hJ
    obtain ⟨y, ey, ry⟩ := hP
    exact ⟨y, H', J, ry, hQ y R' H' ey e⟩
def tMinF (X : Cx) (sp : Sp) (ta : TA) : TE := fun σ H Q => ta σ H fun vs H1 => ∃ (l : Addr) (xs : List V) (R : Hp) (ks : List D), vs = [.ref l] ∧ Same R H1 ∧ SqL X.K H1 l xs ∧ xs ≠ [] ∧ ks.length = xs.length ∧ (∀ a ∈ ks, ∀ b ∈ ks, alkD a b = true) ∧ (∀ a ∈ ks, isNon a = false) ∧ (∀ a ∈ ks, dep a ≤ 64) ∧
  (∀ (j : Nat) (y : V) (kd : D), xs[j]? = some y → ks[j]? = some kd → ∀ R' H', Ext R H1 R' H' → sp [y] H' (fun kv H2 => ∃ R2, Ext R' H' R2 H2 ∧ Rep X.K R2 kv kd) fun _ _ _ => False) ∧
  ∀ (y : V) (R' H' : Hp), xs[argBest (keyLtD ks) (xs.length - 1)]? = some y → Ext R H1 R' H' → Q y H'
theorem pe_minF {a : Expr} {x : Str} {k : Nat} {f : Addr} {fd : FuncData} {ps : List Str} {sp : Sp} {ta : TA} {p gp kpos pos : Pos} (F : FnOk X.prog X.w X.K X.mg X.base (L2.CX X.prog X.w) k f fd ps sp) (hr : Room (k + 1) X.A) (hu : X.A.units + 70 < cLine) (hb : Binds X.K fd ps [])
    (hg : Gl X "min") (hm : X.mg "min" = none) (hx : Gl X x) (hf : X.mg x = some (.ref f)) (hd : (x == ("__debug__" : Str)) = false) (pa : PA X [a] ta) (he : starEach [a] X.env = (false, eval a X.env) :: starEach [] X.env) :
    PE X (.Call (.Name "min" p) [a] [⟨some "key", .Name x gp, kpos⟩] pos) (tMinF X sp ta) := by
  refine ⟨fun pins s σ H Q I h => ?_⟩
  refine wpAny_Call_Name_kw (ld_blt I hg hm (show bootBuiltins "min" = some (.builtin "min") by decide +kernel) ?_ (by decide) (by decide))
  refine PyProof.Rows.callWith_kw (thn (pa.run pos pins s σ H _ I h) fun us s1 ⟨vs, H1, I1, r1, l, xs, R, ks, ev, sm, hs, h0, hk, al, nn, dp, turn, hQ⟩ => ?_) (by rw [he]; rfl) (by rw [he]; rfl) (by rfl) (by rfl)
  subst ev
  show wpAny _ _ (evalAll [do let v ← eval (.Name x gp) X.env; standAt pos; pure v]) _ _ s1
  refine wpAny_evalAll_cons (wpAny_bind (ld_glob I1 hx hf (wpAny_bind (wpAny_standAt (wpAny_pure ?_))) hd))
  refine wpAny_evalAll_nil ?_
  rw [Vals.ref1 r1]
  exact min_runF F hr hu hb I1 sm hs h0 hk al nn dp turn hQ
end
end Ps
end
section
set_option maxHeartbeats 2000000
/-! PsTr: from a def's tree to the small language. -/
namespace Ps
open PySem PySem.Spec PyProof.Rows L2
/-- the slots that hold lists of this def's own (m), those that a caller lends (s), those that stay own: made here (o), lent by a caller to be changed (q), which class the objects are of (c); z tells where those of q lie -/
structure Ow where
  m : List Nat
  s : List Nat
  o : List Nat
  q : List Nat
  c : List (Nat × String)
  z : Nat → Addr
instance : Membership Nat Ow := ⟨fun M i => i ∈ M.m ∨ i ∈ M.s ∨ i ∈ M.o ∨ i ∈ M.q⟩
def Ow.contains (M : Ow) (i : Nat) : Bool := M.m.contains i || (M.s.contains i || (M.o.contains i || M.q.contains i))
theorem Ow.mem_iff {M : Ow} {i : Nat} : i ∈ M ↔ i ∈ M.m ∨ i ∈ M.s ∨ i ∈ M.o ∨ i ∈ M.q := Iff.rfl
@[simp] theorem Ow.contains_iff {M : Ow} {i : Nat} : M.contains i = true ↔ i ∈ M := by simp [Ow.contains, Ow.mem_iff]
theorem Ow.contains_not {M : Ow} {i : Nat} : M.contains i = false ↔ i ∉ M := by rw [← Bool.not_eq_true, Ow.contains_iff]
/-- other lists, all else as it is -/
def Ow.w (M : Ow) (m : List Nat) : Ow := ⟨m, M.s, M.o, M.q, M.c, M.z⟩
@[simp] theorem Ow.w_m (M : Ow) (m : List Nat) : (M.w m).m = m := rfl
@[simp] theorem Ow.w_w (M : Ow) (m m' : List Nat) : (M.w m).w m' = M.w m' := rfl
/-- the slots that stay own -/
def Ow.oq (M : Ow) : List Nat := M.o ++ M.q
theorem Ow.of_oq {M : Ow} {i : Nat} (h : i ∈ M.oq) : i ∈ M := by
  rcases List.mem_append.mp h with h | h
  · exact .inr (.inr (.inl h))
  · exact .inr (.inr (.inr h))
/-- a def that may be called: its name in the text, its key, its parameters, the defaults of the last ones, which parameters are held fast (true) or lent (false), which are lent to be changed, which slots stay own, the objects' classes; a method: its class and name -/
structure Sig where
  name : Str
  key : String
  par : Nat
  dfl : List D
  md : List Bool := []
  io : List Nat := []
  ob : List Nat := []
  cl : List (Nat × String) := []
  cls : Option (String × String) := none
/-- a class: its name, its key, its fields, its __init__'s key -/
structure ClsT where
  name : Str
  key : String
  flds : List (Str × String)
/-- a class of refusals: its name, its key, whether it is made with a text alone -/
structure XcT where
  name : Str
  key : String
  made : Bool
structure Tab where
  sigs : List Sig
  consts : List (Str × D)
  cls : List ClsT := []
  /-- the names of the def that makes a lambda -/
  tb : Option (List Str) := none
  exc : List XcT := []
  /-- defs that are called with a caught exception: name, key -/
  xd : List (Str × String) := []
def Tab.noTb (T : Tab) : Tab := ⟨T.sigs, T.consts, T.cls, none, T.exc, T.xd⟩
def odd (x : Str) : Bool := (x == ("__debug__" : Str)) || (x == ("__classdict__" : Str)) || (x == ("__name__" : Str))
def slotOf (sc : Scope) (N : List Str) (x : Str) : Option Nat :=
  if odd x then none else
  match sc.names.lookup x with
  | some .local => N.findIdx? fun y => decide (y = x)
  | some .cell => N.findIdx? fun y => decide (y = x)
  | some .free => N.findIdx? fun y => decide (y = x)
  | _ => none
def isG (sc : Scope) (x : Str) : Bool := !odd x && decide (sc.names.lookup x = some .globalImplicit)
def bOf : Operator → Option BO
  | .Add => some .add
  | .Sub => some .sub
  | .Mult => some .mul
  | .FloorDiv => some .fdiv
  | .Mod => some .mod
  | .Pow => some .pow
  | .LShift => some .shl
  | .RShift => some .shr
  | _ => none
def cOf : CmpOp → Option BO
  | .Eq => some .eq
  | .NotEq => some .ne
  | .Lt => some .lt
  | .LtE => some .le
  | .Gt => some .gt
  | .GtE => some .ge
  | .In => some .inn
  | .NotIn => some .nin
  | .Is => some .is_
  | .IsNot => some .isn
theorem bOf_ok {o : Operator} {b : BO} (h : bOf o = some b) : aOp b = some o := by cases o <;> cases h <;> rfl
theorem cOf_ok {o : CmpOp} {b : BO} (h : cOf o = some b) : cOp b = some o := by cases o <;> cases h <;> rfl
def constOf : Const → Option D
  | .none => some .non
  | .bool b => some (.bl b)
  | .int i => some (.int i)
  | .str z => if Nat.ble z.cps.toList.length SZ && z.cps.toList.all (fun c => decide (c < 0x110000)) then some (.str z.cps.toList) else none
  | _ => none
def tyOf (x : Str) : Option Ty :=
  if x = ("str" : Str) then some .str else if x = ("int" : Str) then some .int else if x = ("bool" : Str) then some .bool
  else if x = ("tuple" : Str) then some .tuple else if x = ("list" : Str) then some .list else none
/-- the built-in functions by name and number of arguments -/
def bfOf (x : Str) (n : Nat) : Option BF :=
  if n = 1 then
    (if x = ("len" : Str) then some .len else if x = ("tuple" : Str) then some .tuple else if x = ("list" : Str) then some .list
     else if x = ("int" : Str) then some .int else if x = ("sum" : Str) then some .sum else if x = ("all" : Str) then some .all
     else if x = ("max" : Str) then some .max1 else if x = ("min" : Str) then some .min1 else if x = ("sorted" : Str) then some .sorted else if x = ("str" : Str) then some .str else none)
  else if n = 2 then (if x = ("max" : Str) then some .max2 else if x = ("min" : Str) then some .min2 else none)
  else none
def bltNames : List Str := ["sorted", "set", "len", "tuple", "list", "int", "sum", "all", "max", "min", "isinstance", "str", "bool", "range", "enumerate", "zip"]
def ownOf (N : List Str) (scope : Scope) : List (Str × Nat) := scope.names.filterMap fun p =>
  match p.2 with
  | .local => (N.findIdx? fun y => decide (y = p.1)).map fun i => (p.1, i)
  | .cell => (N.findIdx? fun y => decide (y = p.1)).map fun i => (p.1, i)
  | _ => none
def locOf (sc : Scope) (fnB : Str → Bool) (N : List Str) (M : Ow) (x : Str) : Option Nat :=
  match N.findIdx? fun y => decide (y = x) with
  | some i => if M.contains i then none else
    match sc.names.lookup x with
    | some .local => some i
    | some .cell => if fnB x then some i else none
    | _ => none
  | none => none
def locsOf (sc : Scope) (fnB : Str → Bool) (N : List Str) (M : Ow) : List Expr → Option (List Nat)
  | [] => some []
  | .Name x _ :: es => (locOf sc fnB N M x).bind fun i => (locsOf sc fnB N M es).bind fun is => some (i :: is)
  | _ :: _ => none
def trG (sc : Scope) (fnB : Str → Bool) (N : List Str) (M : Ow) : Expr → Option Tg
  | .Name x _ => (locOf sc fnB N M x).map .nm
  | .Tuple es _ _ => (locsOf sc fnB N M es).map .tp
  | _ => none
def slotsT : Tg → List Nat
  | .nm i => [i]
  | .tp is => is
def isTup : Expr → Bool
  | .Tuple .. => true
  | _ => false
def clOf : List D → CL
  | [] => .nil
  | d :: ds => .cons (.cst d) (clOf ds)
def appL : CL → CL → CL
  | .nil, r => r
  | .cons e es, r => .cons e (appL es r)
/-- the ends of a range that is asked for a number -/
def rngOf (sc : Scope) : Expr → Option (List Expr)
  | .Call (.Name g _) args [] _ => if g = ("range" : Str) ∧ isG sc g = true ∧ (args.length = 1 ∨ args.length = 2) then some args else none
  | _ => none
def inOf : CmpOp → Option Bool
  | .In => some false
  | .NotIn => some true
  | _ => none
/-- sorted(set(e)) -/
def setOf (sc : Scope) (g : Str) (a : Expr) (as : List Expr) : Option Expr :=
  match a, as with
  | .Call (.Name t _) [e] [] _, [] => if g = ("sorted" : Str) ∧ t = ("set" : Str) ∧ isG sc t = true then some e else none
  | _, _ => none
/-- a text or a name, whose method is called -/
def plainO : Expr → Bool
  | .Subscript .. => true
  | .Name .. => true
  | .Constant .. => true
  | _ => false
/-- a name of a list that is lent -/
def lentOf (sc : Scope) (N : List Str) (M : Ow) : Expr → Option Nat
  | .Name x _ => (slotOf sc N x).bind fun i => if M.s.contains i then some i else none
  | _ => none
/-- what is walked: a lent list may be -/
def baseE (fl : Bool) (l : Option Nat) (r : Option CE) : Option CE :=
  match l, fl with
  | some i, true => some (.var i)
  | _, _ => r
/-- the class of the object at slot i -/
def clsOf (T : Tab) (M : Ow) (i : Nat) : Option ClsT := (M.c.lookup i).bind fun c => T.cls.find? fun k => k.key == c
/-- a name of an object: its slot, its class -/
def objOf (T : Tab) (sc : Scope) (N : List Str) (M : Ow) : Expr → Option (Nat × ClsT)
  | .Name x _ => (slotOf sc N x).bind fun i => (clsOf T M i).bind fun k => some (i, k)
  | _ => none
/-- a field of such -/
def fldOf (T : Tab) (sc : Scope) (N : List Str) (M : Ow) (o : Expr) (f : Str) : Option (Nat × String × String) :=
  (objOf T sc N M o).bind fun p => (p.2.flds.lookup f).bind fun g => some (p.1, p.2.key, g)
/-- a method of such, and its name as a plain text -/
def methOf (T : Tab) (sc : Scope) (N : List Str) (M : Ow) (o : Expr) (m : Str) : Option (Nat × ClsT × Sig) :=
  (objOf T sc N M o).bind fun p => (T.sigs.find? fun s => (match s.cls with
    | some (c, n) => c == p.2.key && decide (Str.ofString n = m)
    | none => false)).bind fun s => some (p.1, p.2, s)
def Sig.mth (s : Sig) : String := (s.cls.map (·.2)).getD ""
mutual
def trE (T : Tab) (N : List Str) (M : Ow) : Nat → Scope → Bool → Expr → Option CE
  | 0, _, _, _ => none
  | n + 1, sc, fl, e => match e with
    | .Name x _ => (match slotOf sc N x with
      | some i => if fl && M.contains i then none else some (.var i)
      | none => if isG sc x then (T.consts.lookup x).map .cst else none)
    | .Constant c _ _ => (constOf c).map .cst
    | .BinOp (.List es _) .Mult b _ => (trL T N M n sc true [] es).bind fun xs => (trE T N M n sc false b).bind fun y => some (.rep xs y)
    | .BinOp a o b _ => (bOf o).bind fun op => (trE T N M n sc false a).bind fun x => (trE T N M n sc false b).bind fun y => some (.bin op x y)
    | .UnaryOp .USub a _ => (trE T N M n sc false a).bind fun x => some (.neg x)
    | .UnaryOp .Not a _ => (trE T N M n sc false a).bind fun x => some (.not x)
    | .BoolOp o vs p => (match vs with
      | [] => none
      | [a] => trE T N M n sc fl a
      | a :: b :: r => (trE T N M n sc false a).bind fun x => (trE T N M n sc fl (.BoolOp o (b :: r) p)).bind fun y => some (match o with
        | .And => .and x y
        | .Or => .or x y))
    | .Compare a [.Is] [.Constant .none _ _] _ => (trE T N M n sc false a).bind fun x => some (.isN false x)
    | .Compare a [.IsNot] [.Constant .none _ _] _ => (trE T N M n sc false a).bind fun x => some (.isN true x)
    | .Compare a [o] [b] _ => match rngOf sc b, inOf o with
      | some [h], some k => (trE T N M n sc false a).bind fun x => (trE T N M n sc false h).bind fun z => some (.inr k x (.cst (.int 0)) z)
      | some [l, h], some k => (trE T N M n sc false a).bind fun x => (trE T N M n sc false l).bind fun y => (trE T N M n sc false h).bind fun z => some (.inr k x y z)
      | _, _ => if behindInMarks o b then none else (cOf o).bind fun op => (trE T N M n sc false a).bind fun x => (trE T N M n sc false b).bind fun y => some (.bin op x y)
    | .Compare a [o, o'] [b, c] _ => if lastMarks [o, o'] [b, c] then none else (cOf o).bind fun p => (cOf o').bind fun q =>
      (trE T N M n sc false a).bind fun x => (trE T N M n sc false b).bind fun y => (trE T N M n sc false c).bind fun z => some (.chain p q x y z)
    | .IfExp c a b _ => (trE T N M n sc false c).bind fun k => (trE T N M n sc fl a).bind fun x => (trE T N M n sc fl b).bind fun y => some (.ite k x y)
    | .Tuple es _ _ => (trL T N M n sc true [] es).bind fun xs => some (.tup xs)
    | .Dict [] [] _ => some .dnew
    | .List es _ => (trL T N M n sc true [] es).bind fun xs => some (.lst xs)
    | .Subscript a (.Slice lo hi none _) _ => (trE T N M n sc false a).bind fun x => (trO T N M n sc lo).bind fun l => (trO T N M n sc hi).bind fun h => some (.slc x l h)
    | .Subscript a (.Slice none none (some (.UnaryOp .USub (.Constant (.int 1) _ _) _)) _) _ => (trE T N M n sc false a).bind fun x => some (.rev x)
    | .Subscript _ (.Slice ..) _ => none
    | .Subscript a i _ => (trE T N M n sc false a).bind fun x => (trE T N M n sc false i).bind fun y => some (.ix x y)
    | .Call (.Name g _) [a] [⟨some kn, .Lambda ps body scope _, _⟩] _ => if g = ("min" : Str) ∧ kn = ("key" : Str) ∧ isG sc g = true ∧ T.tb = some N then
        (match ps with
        | ⟨[], [⟨x, none, _⟩], none, [], [], none, []⟩ => if x = ("j" : Str) ∧ lam1B sc scope x = true then (N.findIdx? fun y => decide (y = x)).bind fun i => if M.contains i then none else
            (trE T N M n sc false a).bind fun y => (trE T.noTb N M n scope false body).bind fun z => some (.minK y i z)
          else none
        | _ => none)
      else none
    | .Call (.Name g _) [a] [⟨some kn, .Name f _, _⟩] _ => if g = ("min" : Str) ∧ kn = ("key" : Str) ∧ isG sc g = true ∧ isG sc f = true then
        (T.sigs.find? fun s => decide (s.name = f)).bind fun s => if s.par = 1 ∧ s.io = [] ∧ s.cls = none ∧ s.md = [] then (trE T N M n sc false a).bind fun y => some (.minF y s.key) else none
      else none
    | .Call (.Name g _) args [] _ => if isG sc g then
        (match args with
        | [] => none
        | a :: as => match setOf sc g a as with
          | some e => (trE T N M n sc false e).bind fun x => some (.sset x)
          | none => match bfOf g (as.length + 1) with
          | some f => (trL T N M n sc false [] (a :: as)).bind fun xs => some (.blt f xs)
          | none => if g = ("isinstance" : Str) then
              (match as with
              | [.Name t _] => if isG sc t then (tyOf t).bind fun ty => (trE T N M n sc true a).bind fun x => some (.isi x ty) else none
              | _ => none)
            else (T.sigs.find? fun s => decide (s.name = g)).bind fun s =>
              if (as.length + 1 ≤ s.par ∧ s.par ≤ as.length + 1 + s.dfl.length) ∧ s.io = [] ∧ s.cls = none then
                (trL T N M n sc true s.md (a :: as)).bind fun xs => some (.call s.key (appL xs (clOf (s.dfl.drop (s.dfl.length + (as.length + 1) - s.par)))))
              else none)
      else none
    | .Attribute o f _ => (fldOf T sc N M o f).bind fun p => some (.fld (.var p.1) p.2.1 p.2.2)
    | .Call (.Attribute o m ap) as [] pos => match methOf T sc N M o m with
      | some p => if p.2.2.io = [] ∧ p.2.2.par = as.length + 1 ∧ p.2.2.dfl = [] ∧ p.2.2.md.headD true = false ∧ (ap.endLine == pos.line) = true ∧ as.length < 20 then (trL T N M n sc true p.2.2.md.tail as).bind fun xs => some (.meth p.1 p.2.1.key p.2.2.mth p.2.2.key xs) else none
      | none => match as with
        | [a] => if m = ("join" : Str) ∧ plainO o = true ∧ (ap.endLine == pos.line) = true then
            (trE T N M n sc false o).bind fun x => (trE T N M n sc false a).bind fun y => some (.sm1 .join x y)
          else if m = ("count" : Str) ∧ plainO o = true ∧ (ap.endLine == pos.line) = true then
            (trE T N M n sc false o).bind fun x => (trE T N M n sc false a).bind fun y => some (.sm1 .count x y)
          else if m = ("split" : Str) ∧ plainO o = true ∧ (ap.endLine == pos.line) = true then
            (trE T N M n sc false o).bind fun x => (trE T N M n sc false a).bind fun y => some (.sm1 .split x y)
          else if m = ("partition" : Str) ∧ plainO o = true ∧ (ap.endLine == pos.line) = true then
            (trE T N M n sc false o).bind fun x => (trE T N M n sc false a).bind fun y => some (.sm1 .part x y)
          else if m = ("index" : Str) ∧ plainO o = true ∧ (ap.endLine == pos.line) = true then
            (trE T N M n sc false o).bind fun x => (trE T N M n sc false a).bind fun y => some (.sm1 .index x y)
          else none
        | [] => if m = ("upper" : Str) ∧ plainO o = true ∧ (ap.endLine == pos.line) = true then (trE T N M n sc false o).bind fun x => some (.sm1 .upper x (.cst .non)) else none
        | _ => none
    | .ListComp elt [⟨tg, it, ifs, 0⟩] scope _ =>
      if blkC N sc scope (ownOf N scope) && (ownOf N scope).all (fun p => !M.contains p.2) then
        (trG (relS scope sc) (fun x => scope.names.lookup x == some .cell) N M tg).bind fun t =>
        (trI T N M n sc false (isTup tg) it).bind fun i =>
        (trL T N M n (relS scope sc) false [] ifs).bind fun c =>
        if ifs.length ≤ 1 ∧ (slotsT t).all (fun i => ((ownOf N scope).map (·.2)).contains i) = true then
          (trE T N M n (relS scope sc) true elt).bind fun x => some (.comp x t i c ((ownOf N scope).map (·.2)))
        else none
      else none
    | _ => none
def trL (T : Tab) (N : List Str) (M : Ow) : Nat → Scope → Bool → List Bool → List Expr → Option CL
  | 0, _, _, _, _ => none
  | n + 1, sc, fl, md, es => match es with
    | [] => some .nil
    | .Starred .. :: _ => none
    | e :: r => (trE T N M n sc (md.headD fl) e).bind fun x => (trL T N M n sc fl md.tail r).bind fun xs => some (.cons x xs)
def trO (T : Tab) (N : List Str) (M : Ow) : Nat → Scope → Option Expr → Option CO
  | 0, _, _ => none
  | n + 1, sc, e => match e with
    | none => some .no
    | some e => (trE T N M n sc false e).bind fun x => some (.yes x)
def trI (T : Tab) (N : List Str) (M : Ow) : Nat → Scope → Bool → Bool → Expr → Option CI
  | 0, _, _, _, _ => none
  | n + 1, sc, fl, tup, it => match it with
    | .Call (.Name g _) args [] _ =>
      if g = ("range" : Str) then (if isG sc g then
        (match args with
        | [a] => (trE T N M n sc false a).bind fun x => some (.rng1 x)
        | [a, b] => (trE T N M n sc false a).bind fun x => (trE T N M n sc false b).bind fun y => some (.rng2 x y)
        | [a, b, .UnaryOp .USub (.Constant (.int 1) _ _) _] => (trE T N M n sc false a).bind fun x => (trE T N M n sc false b).bind fun y => some (.rng3 x y)
        | _ => none) else none)
      else if g = ("enumerate" : Str) then (if isG sc g && tup then
        (match args with
        | [a] => (baseE fl (lentOf sc N M a) (trE T N M n sc fl a)).bind fun x => some (.enu x)
        | _ => none) else none)
      else if g = ("zip" : Str) then (if isG sc g && tup then
        (match args with
        | [a, b] => (baseE fl (lentOf sc N M a) (trE T N M n sc fl a)).bind fun x => (baseE fl (lentOf sc N M b) (trE T N M n sc fl b)).bind fun y => some (.zip x y)
        | [a, b, c] => (baseE fl (lentOf sc N M a) (trE T N M n sc fl a)).bind fun x => (baseE fl (lentOf sc N M b) (trE T N M n sc fl b)).bind fun y => (baseE fl (lentOf sc N M c) (trE T N M n sc fl c)).bind fun z => some (.zip3 x y z)
        | _ => none) else none)
      else (baseE fl (lentOf sc N M it) (trE T N M n sc fl it)).bind fun x => some (.seq x)
    | e => (baseE fl (lentOf sc N M e) (trE T N M n sc fl e)).bind fun x => some (.seq x)
end
/-! ### statements -/
/-- a new list, held by nobody else -/
def newC : CE → Bool
  | .lst _ => true
  | .comp .. => true
  | .blt .list _ => true
  | .rep .. => true
  | .sset _ => true
  | .dnew => true
  | _ => false
/-- a slot whose list is the def's own -/
def ownOfS (sc : Scope) (N : List Str) (M : Ow) (x : Str) : Option Nat :=
  (slotOf sc N x).bind fun i => if M.m.contains i && !(M.w []).contains i then some i else none
/-- fuel for expressions -/
def EF : Nat := 120
def insM (i : Nat) (m : List Nat) : List Nat := if m.contains i then m else i :: m
/-- what may be held fast ahead of a statement -/
def cands (M : Ow) : List Ow := M :: (M.m.map fun i => M.w (M.m.filter (· != i))) ++ [M.w []]
def notComp : Expr → Bool
  | .ListComp .. => false
  | .SetComp .. => false
  | .DictComp .. => false
  | _ => true
/-- y = [..] on one line, as the model asks it -/
def swC (sc : Scope) (x : Str) (p : Pos) : Expr → Bool
  | .ListComp _ _ s pos => decide (sc.names.lookup x = some .local) && p.line == pos.line && !(s.names.any fun (n, k) => n == x && (k == .local || k == .cell))
  | _ => false
def headFix (f : List Nat → Option (CS × List Nat)) : Nat → List Nat → Option (CS × List Nat)
  | 0, _ => none
  | k + 1, m => (f m).bind fun r => if m.all (r.2.contains ·) then some (r.1, m) else headFix f k (m.filter (r.2.contains ·))
/-- arguments of a def that changes some of them: which slots these are -/
def trIO (T : Tab) (N : List Str) (sc : Scope) (M : Ow) (s : Sig) : Nat → List Expr → Option (List (Nat × Nat) × CL)
  | _, [] => some ([], .nil)
  | _, .Starred .. :: _ => none
  | j, e :: es => if s.io.contains j = true then
      (match e with
      | .Name x _ => (slotOf sc N x).bind fun i => if M.oq.contains i = true then (trIO T N sc M s (j + 1) es).bind fun r => some ((j, i) :: r.1, .cons (.var i) r.2) else none
      | _ => none)
    else (trE T N M EF sc true e).bind fun y => (trIO T N sc M s (j + 1) es).bind fun r => some (r.1, .cons y r.2)
/-- a call that changes what its arguments hold: a method's class and name, the def, the arguments -/
def ioOf (T : Tab) (N : List Str) (sc : Scope) (M : Ow) (w : Option (Nat × String × String)) (s : Sig) (args : List Expr) : Option EE :=
  if s.io ≠ [] ∧ s.dfl = [] ∧ args.length = s.par then (trIO T N sc M s 0 args).bind fun r =>
    if r.1.map (·.1) = s.io ∧ (r.1.map (·.1)).Nodup ∧ (r.1.map (·.2)).Nodup then some (.io w s.key r.1 r.2) else none
  else none
mutual
def trEE (T : Tab) (N : List Str) (M : Ow) : Nat → Scope → Expr → Option EE
  | 0, _, _ => none
  | n + 1, sc, e => match trE T N M EF sc true e with
    | some y => some (.pu y)
    | none => match e with
      | .Tuple es _ _ => (trEL T N M n sc es).bind fun xs => some (.tup xs)
      | .Call (.Name g _) (a :: as) [] _ => if isG sc g = true then (T.sigs.find? fun s => decide (s.name = g)).bind fun s =>
          if s.cls = none then (if s.io = [] then (if s.dfl = [] ∧ (a :: as).length = s.par then (trEL T N M n sc (a :: as)).bind fun xs => some (.call s.key xs) else none)
          else ioOf T N sc M none s (a :: as)) else none
        else none
      | .Call (.Attribute (.Name x p) m ap) as [] pos => (methOf T sc N M (.Name x p) m).bind fun q => if (ap.endLine == pos.line) = true ∧ as.length < 20 ∧ q.2.2.io.headD 1 = 0 then ioOf T N sc M (some (q.1, q.2.1.key, q.2.2.mth)) q.2.2 (.Name x p :: as) else none
      | _ => none
def trEL (T : Tab) (N : List Str) (M : Ow) : Nat → Scope → List Expr → Option EL
  | 0, _, _ => none
  | n + 1, sc, es => match es with
    | [] => some .nil
    | .Starred .. :: _ => none
    | e :: r => (trEE T N M n sc e).bind fun x => (trEL T N M n sc r).bind fun xs => some (.cons x xs)
end
/-- a statement that changes what an object holds -/
def trX (T : Tab) (N : List Str) (sc : Scope) (M : Ow) (s : Stmt) : Option CS :=
  match s with
  | .Expr (.Call (.Attribute (.Name x xp) m ap) [a] [] pos) _ => if m = ("append" : Str) ∧ (ap.endLine == pos.line) = true then
      (ownOfS sc N M x).bind fun i => (trEE T N M EF sc a).bind fun y => some (.appE i y)
    else (trEE T N M EF sc (.Call (.Attribute (.Name x xp) m ap) [a] [] pos)).bind fun y => some (.expE y)
  | .Expr e _ => if notComp e = true then (trEE T N M EF sc e).bind fun y => some (.expE y) else none
  | .Return (some e) _ => (trEE T N M EF sc e).bind fun y => some (.retE y)
  | .Assign [.Attribute o f _] e _ => (fldOf T sc N M o f).bind fun p => if M.oq.contains p.1 = true then (trE T N M EF sc true e).bind fun y => some (.fset p.1 p.2.1 p.2.2 y) else none
  | .Assign [.Name x _] (.Call (.Name g _) args [] _) _ => if isG sc g = true then (T.cls.find? fun k => decide (k.name = g)).bind fun k =>
      (locOf sc (fun _ => true) N ⟨[], M.s, [], M.q, [], M.z⟩ x).bind fun i => (T.sigs.find? fun s => decide (s.cls = some (k.key, "__init__"))).bind fun s =>
        if M.o.contains i = true ∧ s.io = [0] ∧ s.par = args.length + 1 ∧ s.dfl = [] ∧ args ≠ [] then (trL T N M EF sc true [] args).bind fun xs => some (.new i k.key s.key xs) else none
    else none
  | .Assign [.Name x p] e _ => if notComp e = true then (locOf sc (fun _ => true) N M x).bind fun i => (trEE T N M EF sc e).bind fun y => some (.asgE (.nm i) y) else none
  | .Assign [.Tuple ts k p] e _ => if isTup e || !notComp e then none else (trG sc (fun _ => true) N M (.Tuple ts k p)).bind fun t => (trEE T N M EF sc e).bind fun y => some (.asgE t y)
  | _ => none
/-! ### refusals -/
def xcOf (T : Tab) (sc : Scope) (x : Str) : Option XcT := if isG sc x = true then T.exc.find? fun k => decide (k.name = x) else none
/-- a class that is asked for -/
def xNm (T : Tab) (sc : Scope) : Expr → Option String
  | .Name x _ => if x = ("ValueError" : Str) ∧ isG sc x = true ∧ T.exc ≠ [] then some "ValueError" else (xcOf T sc x).map (·.key)
  | _ => none
def xNms (T : Tab) (sc : Scope) : List Expr → Option (List String)
  | [] => some []
  | e :: es => (xNm T sc e).bind fun n => (xNms T sc es).bind fun ns => some (n :: ns)
/-- the caught exception's name -/
def isEn (en x : Str) : Bool := decide (x = en) && !odd x
def fldX (f : Str) : Option String := if f = ("paper" : Str) then some "paper" else if f = ("many" : Str) then some "many" else if f = ("most" : Str) then some "most" else none
mutual
def trXE (T : Tab) (N : List Str) (sc : Scope) (M : Ow) (en : Str) : Nat → Expr → Option XE
  | 0, _ => none
  | n + 1, e => match e with
    | .Constant c _ _ => (constOf c).map .cst
    | .Name x _ => if x = en then none else (slotOf sc N x).bind fun i => if M.contains i then none else some (.var i)
    | .UnaryOp .Not a _ => (trXE T N sc M en n a).map .not
    | .BoolOp o vs p => (match vs with
      | [] => none
      | [a] => trXE T N sc M en n a
      | a :: b :: r => (trXE T N sc M en n a).bind fun x => (trXE T N sc M en n (.BoolOp o (b :: r) p)).bind fun y => some (match o with
        | .And => .and x y
        | .Or => .or x y))
    | .List es _ => (trXL T N sc M en n es).map .lst
    | .BinOp a .Add b _ => (trXE T N sc M en n a).bind fun x => (trXE T N sc M en n b).bind fun y => some (.add x y)
    | .Attribute (.Name x _) f _ => if isEn en x = true then (fldX f).map .fld else none
    | .Call (.Name g _) [.Name x _] [] _ => if isEn en x = true ∧ isG sc g = true then (T.xd.find? fun p => decide (p.1 = g)).map fun p => .call p.2 else none
    | .Call (.Name g _) [.Name x _, .Name c p] [] _ => if isEn en x = true ∧ g = ("isinstance" : Str) ∧ isG sc g = true then (xNm T sc (.Name c p)).map .isI else none
    | .Call (.Name g _) [.Name x _, .Tuple es _ _] [] _ => if isEn en x = true ∧ g = ("isinstance" : Str) ∧ isG sc g = true ∧ es.length < 100 then (xNms T sc es).map .isM else none
    | .Call (.Name g _) [.Attribute (.Name x _) f _, .Name t _] [] _ => if isEn en x = true ∧ g = ("isinstance" : Str) ∧ isG sc g = true ∧ isG sc t = true then (fldX f).bind fun f => (tyOf t).map (.fty f) else none
    | _ => none
def trXL (T : Tab) (N : List Str) (sc : Scope) (M : Ow) (en : Str) : Nat → List Expr → Option XL
  | 0, _ => none
  | n + 1, es => match es with
    | [] => some .nil
    | .Starred .. :: _ => none
    | e :: r => (trXE T N sc M en n e).bind fun x => (trXL T N sc M en n r).bind fun xs => some (.cons x xs)
end
/-- a test in a suite -/
def trXT (T : Tab) (N : List Str) (sc : Scope) (M : Ow) (en : Str) : Nat → Expr → Option XE
  | 0, _ => none
  | n + 1, e => match e with
    | .BoolOp .Or [a] _ => trXT T N sc M en n a
    | .BoolOp .Or (a :: b :: r) p => (trXT T N sc M en n a).bind fun x => (trXT T N sc M en n (.BoolOp .Or (b :: r) p)).bind fun y => some (.or x y)
    | .Call f as ks p => trXE T N sc M en EF (.Call f as ks p)
    | _ => none
/-- the statements of an except suite -/
def trXS (T : Tab) (N : List Str) (sc : Scope) (M : Ow) (en : Str) : List Stmt → Option (List XS)
  | [] => some []
  | .Assign [.Name x _] e _ :: r => if x = en then none else (locOf sc (fun _ => true) N M x).bind fun i => (trXE T N sc M en EF e).bind fun y => (trXS T N sc M en r).bind fun ys => some (.asg i y :: ys)
  | .Return (some e) _ :: r => (trXE T N sc M en EF e).bind fun y => (trXS T N sc M en r).bind fun ys => some (.ret y :: ys)
  | .If c [.Return (some e) _] [] _ :: r => (trXT T N sc M en EF c).bind fun k => (trXE T N sc M en EF e).bind fun y => (trXS T N sc M en r).bind fun ys => some (.ifR k y :: ys)
  | _ :: _ => none
/-- a name that is nobody's -/
def noEn : Str := "__debug__"
def trHs (T : Tab) (N : List Str) (sc : Scope) (M : Ow) : List ExceptHandler → Option (List (String × Option Nat × List XS))
  | [] => some []
  | .ExceptHandler (some (.Name x _)) (some en) (b :: r) _ :: hs => (xcOf T sc x).bind fun k => (locOf sc (fun _ => true) N M en).bind fun i => if sc.names.lookup en = some .local then
      (trXS T N sc M en (b :: r)).bind fun ys => (trHs T N sc M hs).bind fun zs => some ((k.key, some i, ys) :: zs)
    else none
  | .ExceptHandler (some (.Name x _)) none (b :: r) _ :: hs => (xcOf T sc x).bind fun k => (trXS T N sc M noEn (b :: r)).bind fun ys => (trHs T N sc M hs).bind fun zs => some ((k.key, none, ys) :: zs)
  | _ :: _ => none
/-- raise C("..") -/
def trRais (T : Tab) (sc : Scope) : Expr → Option CS
  | .Call (.Name x _) [.Constant (.str _) _ _] [] _ => (xcOf T sc x).bind fun k => if k.made = true ∧ xflds k.key = [] then some (.rais k.key .nil) else none
  | _ => none
mutual
def trS (T : Tab) (N : List Str) (sc : Scope) : Nat → List Nat → Ow → Stmt → Option (CS × List Nat)
  | 0, _, _, _ => none
  | n + 1, h, M, s => ((cands M).findSome? fun M1 => trS1 T N sc n h M1 s).or ((cands M).findSome? fun M1 => (trX T N sc M1 s).bind fun c => some (c, M1.m))
def trS1 (T : Tab) (N : List Str) (sc : Scope) : Nat → List Nat → Ow → Stmt → Option (CS × List Nat)
  | 0, _, _, _ => none
  | n + 1, h, M, s => match s with
    | .Pass _ => some (.skip, M.m)
    | .Raise (some e) none _ => some ((trRais T sc e).getD .nope, M.m)
    | .Raise .. => some (.nope, M.m)
    | .Try body hs [] [] _ => (trB T N sc n h M body).bind fun b => (trHs T N sc (M.w []) hs).bind fun zs => if hs = [] then none else some (.tryX b.1 zs, [])
    | .Break _ => if h.all (M.m.contains ·) then some (.brk, M.m) else none
    | .Continue _ => if h.all (M.m.contains ·) then some (.cnt, M.m) else none
    | .Expr (.Constant (.str _) _ _) _ => some (.skip, M.m)
    | .Expr (.Call (.Attribute (.Name x _) m ap) [a] [] pos) _ => if (ap.endLine == pos.line) = true then
        (ownOfS sc N M x).bind fun i => (trE T N M EF sc true a).bind fun y =>
          if m = ("append" : Str) then some (.app i y, M.m)
          else if m = ("extend" : Str) then some (.ext i y, M.m)
          else none
      else none
    | .Expr (.Call (.Attribute (.Name x _) m ap) [a, b] [] pos) _ => if m = ("insert" : Str) ∧ (ap.endLine == pos.line) = true then
        (ownOfS sc N M x).bind fun i => (trE T N M EF sc false a).bind fun y => (trE T N M EF sc true b).bind fun z => some (.ins i y z, M.m)
      else none
    | .Return none _ => some (.retN, M.m)
    | .Return (some e) _ => (trE T N M EF sc true e).bind fun y => some (.ret y, M.m)
    | .Assign [.Name x _] (.Call (.Attribute (.Name y _) m ap) [a] [] pos) _ => if m = ("pop" : Str) ∧ (ap.endLine == pos.line) = true then
        (locOf sc (fun _ => true) N M x).bind fun k => (ownOfS sc N M y).bind fun i => (trE T N M EF sc false a).bind fun z => some (.pop k i z, M.m)
      else none
    | .Assign [.Name x p] e _ => (trE T N M EF sc true e).bind fun y =>
        if newC y then (locOf sc (fun _ => true) N (M.w []) x).bind fun i => some (.asg (.nm i) y, insM i M.m)
        else (locOf sc (fun _ => true) N M x).bind fun i => if notComp e then some (.asg (.nm i) y, M.m) else none
    | .Assign [.Tuple ts k p] e _ => if isTup e || !notComp e then none else
        (trG sc (fun _ => true) N M (.Tuple ts k p)).bind fun t => (trE T N M EF sc true e).bind fun y => some (.asg t y, M.m)
    | .Assign [.Subscript (.Name x _) k _] e _ => (match k with
      | .Slice .. => none
      | _ => if notComp e then (ownOfS sc N M x).bind fun i => (trE T N M EF sc true e).bind fun y => (trE T N M EF sc false k).bind fun z => some (.put i z y, M.m) else none)
    | .AugAssign (.Name x _) .Add e _ => (locOf sc (fun _ => true) N M x).bind fun i => (trE T N M EF sc false e).bind fun y => some (.aug i y, M.m)
    | .If c a b _ => (trE T N M EF sc false c).bind fun k => (trB T N sc n h M a).bind fun x => (trB T N sc n h M b).bind fun y => some (.cond k x.1 y.1, x.2.filter (y.2.contains ·))
    | .For tg it body [] _ => (trG sc (fun _ => true) N M tg).bind fun t => (trI T N M EF sc true (isTup tg) it).bind fun i =>
        (headFix (fun m => trB T N sc n m (M.w m) body) 6 M.m).bind fun b => some (.loop t i b.1, b.2)
    | .While c body [] _ => (headFix (fun m => (trE T N (M.w m) EF sc false c).bind fun _ => trB T N sc n m (M.w m) body) 6 M.m).bind fun b =>
        (trE T N (M.w b.2) EF sc false c).bind fun k => some (.whil k b.1, b.2)
    | _ => none
def trB (T : Tab) (N : List Str) (sc : Scope) : Nat → List Nat → Ow → List Stmt → Option (CS × List Nat)
  | 0, _, _, _ => none
  | n + 1, h, M, ss => match ss with
    | [] => some (.skip, M.m)
    | [s] => trS T N sc n h M s
    | s :: r => (trS T N sc n h M s).bind fun x => (trB T N sc n h (M.w x.2) r).bind fun y => some (.seq x.1 y.1, y.2)
end
/-- fuel for blocks -/
def BFU : Nat := 200
end Ps
end
section
set_option maxHeartbeats 4000000
/-! PsSE: the small language's expressions say what the model does. -/
namespace Ps
open PySem PySem.Spec PyProof.Rows L2
variable [Tbs]
/-- the table stands, and not among what never changes -/
def TabOk (R H : Hp) : Prop := ∀ p, Tbs.T = some p → LamX.TabS H p.1 p.2 ∧ R p.1 = none
/-- how what is raised lies in the heap -/
abbrev XRel := Hp → Hp → String → List D → Value → Option Addr → Prop
def PostE {α β : Type} (XR : XRel) (R H : Hp) (rep : Hp → Hp → β → α → Prop) (r : Res α) (Q : β → Hp → Prop) (E : XK) : Prop :=
  match r with
  | .ok a => ∀ b R' H', Ext R H R' H' → rep R' H' b a → Q b H'
  | .exc c ps => ∀ cls dx R' H', Ext R H R' H' → XR R' H' c ps cls dx → E cls dx H'
  | .stuck => False
section
variable {α α' β β' : Type} {XR : XRel} {R H R1 H1 : Hp} {rep : Hp → Hp → β → α → Prop} {rep' : Hp → Hp → β' → α' → Prop} {Q : β → Hp → Prop} {Q' : β' → Hp → Prop} {E : XK}
theorem PostE.later {r : Res α} (p : PostE XR R H rep r Q E) (e : Ext R H R1 H1) : PostE XR R1 H1 rep r Q E := by
  cases r with
  | ok a => exact fun b R' H' x y => p b R' H' (e.trans x) y
  | exc c ps => exact fun cls dx R' H' x y => p cls dx R' H' (e.trans x) y
  | stuck => exact p
/-- the first of two: what comes behind it is shown where it stands -/
theorem PostE.first {r : Res α} {f : α → Res α'} (p : PostE XR R H rep' (r.bind f) Q' E)
    (k : ∀ a b R1 H1, Ext R H R1 H1 → rep R1 H1 b a → PostE XR R1 H1 rep' (f a) Q' E → Q b H1) : PostE XR R H rep r Q E := by
  cases r with
  | ok a => exact fun b R' H' x y => k a b R' H' x y (PostE.later p x)
  | exc c ps => exact p
  | stuck => exact p
theorem PostE.here {a : α} {b : β} (s : Same R H) (p : PostE XR R H rep (.ok a) Q E) (y : rep R H b a) : Q b H := p b R H (Ext.refl s) y
theorem PostE.iff {c : Prop} [Decidable c] {a : α} (p : PostE XR R H rep (if c then .ok a else .stuck) Q E) : c ∧ PostE XR R H rep (.ok a) Q E := by
  by_cases h : c
  · rw [if_pos h] at p
    exact ⟨h, p⟩
  · rw [if_neg h] at p
    exact p.elim
end
/-- what an own list, an own dict holds -/
def OwnC (K : PySem.W.Frag) (R : Hp) (o : HO) (d : D) : Prop := (∃ ds vs, d = .lst ds ∧ o = .lst vs ∧ Reps K R vs ds) ∨ ∃ kvs tv, d = .dic kvs ∧ o = .dT tv ∧ RepKs tv kvs
theorem OwnC.mono {K : PySem.W.Frag} {R R' : Hp} {o : HO} {d : D} (e : Same R R') (h : OwnC K R o d) : OwnC K R' o d := by
  rcases h with ⟨ds, vs, h1, h2, h3⟩ | h
  · exact .inl ⟨ds, vs, h1, h2, h3.mono e⟩
  · exact .inr h
theorem OwnC.nt {K : PySem.W.Frag} {R : Hp} {o : HO} {d : D} (h : OwnC K R o d) : NT o := by
  intro ps z
  rcases h with ⟨ds, vs, _, rfl, _⟩ | ⟨kvs, tv, _, rfl, _⟩ <;> cases z
theorem OwnC.nc {K : PySem.W.Frag} {R : Hp} {o : HO} {d : D} (h : OwnC K R o d) : NC o := by
  intro c q z
  unfold LamX.CodeO at z
  rcases h with ⟨ds, vs, _, rfl, _⟩ | ⟨kvs, tv, _, rfl, _⟩ <;> cases z
theorem OwnC.rep {K : PySem.W.Frag} {R : Hp} {a : Addr} {o : HO} {d : D} (h : OwnC K R o d) (e : R a = some o) : Rep K R (.ref a) d := by
  rcases h with ⟨ds, vs, rfl, rfl, h3⟩ | ⟨kvs, tv, rfl, rfl, h3⟩
  · exact .lst (SqL.of e) h3
  · exact .dic e h3
theorem OwnC.shal {K : PySem.W.Frag} {R H : Hp} {a : Addr} {o : HO} {d : D} (h : OwnC K R o d) (e : H a = some o) : Shal K R H (.ref a) d := by
  rcases h with ⟨ds, vs, rfl, rfl, h3⟩ | ⟨kvs, tv, rfl, rfl, h3⟩
  · exact .inr (.inl ⟨a, vs, ds, rfl, rfl, SqL.of e, h3⟩)
  · exact .inr (.inr (.inl ⟨a, tv, kvs, rfl, rfl, e, h3⟩))
/-- an owned list or dict stands at a -/
def Own (K : PySem.W.Frag) (H0 R H : Hp) (a : Addr) (d : D) : Prop := H0 a = none ∧ R a = none ∧ ∃ o, H a = some o ∧ OwnC K R o d
/-- what stays own: each with its part of the heap, which nobody else has -/
def OwnO (K : PySem.W.Frag) (M : Ow) (H0 R H : Hp) (σ : L2.St) (ρ : Rho) : Prop :=
  ∃ F : Nat → List Addr, (∀ i ∈ M.oq, ∀ d, ρ[i]? = some (some d) → ∃ a, σ[i]? = some (some (.ref a)) ∧ OwnT K R H a d (F i) ∧ ∀ b ∈ F i, H0 b = none ∧ R b = none) ∧
    (∀ i ∈ M.oq, ∀ j ∈ M.oq, i ≠ j → ∀ d e, ρ[i]? = some (some d) → ρ[j]? = some (some e) → ∀ b ∈ F i, b ∉ F j) ∧
    ∀ i ∈ M.oq, ∀ j ∈ M.m, ∀ d e a, ρ[i]? = some (some d) → ρ[j]? = some (some e) → σ[j]? = some (some (.ref a)) → a ∉ F i
/-- the slots hold the data -/
structure SR (K : PySem.W.Frag) (M : Ow) (R0 H0 R H : Hp) (σ : L2.St) (ρ : Rho) : Prop where
  ext : Ext R0 H0 R H
  len : σ.length = ρ.length
  val : ∀ i d, ρ[i]? = some (some d) → ∃ v, σ[i]? = some (some v) ∧ (i ∉ M → Rep K R v d) ∧ (i ∈ M.m → ∃ a, v = .ref a ∧ Own K H0 R H a d) ∧ (i ∈ M.s → Shal K R H0 v d)
  sep : ∀ i j a d e, i ≠ j → i ∈ M.m → j ∈ M.m → ρ[i]? = some (some d) → ρ[j]? = some (some e) → σ[i]? = some (some (.ref a)) → σ[j]? = some (some (.ref a)) → False
  own : OwnO K M H0 R H σ ρ
  dis : ∀ i ∈ M.oq, i ∉ M.m ∧ i ∉ M.s
  pin : ∀ i ∈ M.q, σ[i]? = some (some (.ref (M.z i)))
  tab : TabOk R H
section
variable {K : PySem.W.Frag} {M : Ow} {R0 H0 R H R' H' : Hp} {σ : L2.St} {ρ : Rho}
/-- what stays own lies as it was: where its part of the heap is as it was -/
theorem OwnO.keep (s : OwnO K M H0 R H σ ρ) (e : Same R R') (k : ∀ b, H0 b = none → R b = none → (∃ o, H b = some o ∧ NT o) → (∀ o, H b = some o → H' b = some o) ∧ R' b = none) : OwnO K M H0 R' H' σ ρ := by
  obtain ⟨F, h1, h2, h3⟩ := s
  refine ⟨F, fun i hi d hd => ?_, h2, h3⟩
  obtain ⟨a, e1, e2, e3⟩ := h1 i hi d hd
  have dom := e2.dom
  have kk : ∀ b ∈ F i, (∀ o, H b = some o → H' b = some o) ∧ R' b = none := fun b hb => k b (e3 b hb).1 (e3 b hb).2 (by
    cases q : H b with
    | none => exact absurd q (dom b hb)
    | some o => exact ⟨o, rfl, e2.nt hb q⟩)
  exact ⟨a, e1, e2.keep e fun b hb => (kk b hb).1, fun b hb => ⟨(e3 b hb).1, (kk b hb).2⟩⟩
theorem OwnO.later (s : OwnO K M H0 R H σ ρ) (e : Ext R H R' H') : OwnO K M H0 R' H' σ ρ := by
  refine s.keep e.rr fun b h0 hr ho => ?_
  obtain ⟨o, ho, hn⟩ := ho
  exact ⟨fun o' q => by
    rw [ho] at q
    cases q
    exact e.hh.at ho hn, e.new b hr (by rw [ho]; simp)⟩
theorem tab_dom {H : Hp} {P : Addr} {q : Str} (t : LamX.TabS H P q) : H P ≠ none := by
  obtain ⟨ps, h, _⟩ := t
  rw [h]
  simp
theorem tab_ne {H : Hp} {P : Addr} {q : Str} {o : HO} (t : LamX.TabS H P q) (h : H P = some o) (n : NT o) : False := by
  obtain ⟨ps, h1, _⟩ := t
  rw [h] at h1
  exact n ps (Option.some.inj h1)
theorem SR.later (s : SR K M R0 H0 R H σ ρ) (e : Ext R H R' H') : SR K M R0 H0 R' H' σ ρ := by
  refine ⟨s.ext.trans e, s.len, fun i d h => ?_, s.sep, s.own.later e, s.dis, s.pin, fun p hp => ⟨e.hh.tb p hp (s.tab p hp).1, e.new _ (s.tab p hp).2 (tab_dom (s.tab p hp).1)⟩⟩
  obtain ⟨v, h1, h2, h3, h4⟩ := s.val i d h
  refine ⟨v, h1, fun hm => (h2 hm).mono e.rr, fun hm => ?_, fun hm => (h4 hm).mono e.rr (SameN.refl _)⟩
  obtain ⟨a, ea, h0, hr, o, hh, r⟩ := h3 hm
  exact ⟨a, ea, h0, e.new a hr (by rw [hh]; simp), o, e.hh.at hh r.nt, r.mono e.rr⟩
theorem SR.sub (s : SR K M R0 H0 R H σ ρ) : Same R H := s.ext.sub
/-- a new frame of slots without owned lists -/
theorem SR.shalV (s : SR K M R0 H0 R H σ ρ) {i : Nat} {d : D} (h : ρ[i]? = some (some d)) : ∃ v, σ[i]? = some (some v) ∧ Shal K R H v d := by
  obtain ⟨v, h1, h2, h3, h4⟩ := s.val i d h
  refine ⟨v, h1, ?_⟩
  by_cases hm : i ∈ M.m
  · obtain ⟨a, ea, h0, hr, o, hh, r⟩ := h3 hm
    rw [ea]
    exact r.shal hh
  by_cases hs : i ∈ M.s
  · exact (h4 hs).mono (Same.refl _) s.ext.hh
  by_cases ho : i ∈ M.oq
  · obtain ⟨F, q1, q2, q3⟩ := s.own
    obtain ⟨a, e1, e2, e3⟩ := q1 i ho d h
    rw [h1] at e1
    cases e1
    exact .inr (.inr (.inr ⟨a, _, rfl, e2⟩))
  · refine .inl (h2 fun z => ?_)
    rcases z with z | z | z | z
    · exact hm z
    · exact hs z
    · exact ho (List.mem_append_left _ z)
    · exact ho (List.mem_append_right _ z)
end
/-- full: nobody else may change it; else it may be an owned list -/
def RepF (K : PySem.W.Frag) : Bool → Hp → Hp → V → D → Prop
  | true => fun R _ v d => Rep K R v d
  | false => fun R H v d => Shal K R H v d
theorem RepF.of {K : PySem.W.Frag} {R H : Hp} {v : V} {d : D} (h : Rep K R v d) : ∀ fl, RepF K fl R H v d
  | true => h
  | false => .inl h
theorem RepF.shal {K : PySem.W.Frag} {R H : Hp} {v : V} {d : D} : ∀ {fl}, RepF K fl R H v d → Shal K R H v d
  | true, h => .inl h
  | false, h => h
/-- arguments, each held as told -/
inductive RepFs (K : PySem.W.Frag) (fl : Bool) : List Bool → Hp → Hp → List V → List D → Prop
  | nil {md : List Bool} {R H : Hp} : RepFs K fl md R H [] []
  | cons {md : List Bool} {R H : Hp} {v : V} {vs : List V} {d : D} {ds : List D} (h : RepF K (md.headD fl) R H v d) (t : RepFs K fl md.tail R H vs ds) : RepFs K fl md R H (v :: vs) (d :: ds)
/-- what a def of the table promises -/
def spOf (XR : XRel) (K : PySem.W.Frag) (Φ : FEnv) (key : String) (par : Nat) (md : List Bool) : Sp := fun vs H Q E =>
  ∃ R ds, (Same R H ∧ TabOk R H) ∧ RepFs K true md R H vs ds ∧ vs.length = par ∧ PostE XR R H (fun R' _ v d => Rep K R' v d) (Φ key ds) Q E
/-- what the lent parameters hold behind a call -/
def OutsR (K : PySem.W.Frag) (Hb : Hp) (io : List Nat) (vs : List V) (R' H' : Hp) (os : List D) : Prop :=
  os.length = io.length ∧ ∃ F : Nat → List Addr, (∀ (k j : Nat) (d : D), io[k]? = some j → os[k]? = some d → ∃ a, vs[j]? = some (.ref a) ∧ OwnT K R' H' a d (F j) ∧ ∀ b ∈ F j, Hb b = none ∧ R' b = none) ∧
    ∀ i ∈ io, ∀ j ∈ io, i ≠ j → ∀ b ∈ F i, b ∉ F j
def PostIo (XR : XRel) (K : PySem.W.Frag) (io : List Nat) (vs : List V) (R Hb : Hp) (r : Res D) (Q : VK) (E : XK) : Prop :=
  match r with
  | .ok (.tup (d :: os)) => ∀ v R' H', Ext R Hb R' H' → Rep K R' v d → OutsR K Hb io vs R' H' os → Q v H'
  | .exc c ps => ∀ cls dx R' H', Ext R Hb R' H' → OutsR K Hb io vs R' H' (ps.take io.length) → XR R' H' c (ps.drop io.length) cls dx → E cls dx H'
  | _ => False
/-- what a def promises that changes what some of its parameters hold: Hb is the heap without these -/
def spIo (XR : XRel) (K : PySem.W.Frag) (Φ : FEnv) (key : String) (par : Nat) (md : List Bool) (io : List Nat) : Sp := fun vs H Q E =>
  ∃ (R Hb : Hp) (ds : List D) (F : Nat → List Addr), (Same R Hb ∧ TabOk R Hb) ∧ Same Hb H ∧ vs.length = par ∧ ds.length = par ∧
    (∀ (j : Nat) (v : V) (d : D), vs[j]? = some v → ds[j]? = some d → j ∉ io → RepF K (md.getD j true) R Hb v d) ∧
    (∀ j ∈ io, ∀ d, ds[j]? = some d → ∃ a, vs[j]? = some (.ref a) ∧ OwnT K R H a d (F j) ∧ ∀ b ∈ F j, Hb b = none ∧ R b = none) ∧
    (∀ i ∈ io, ∀ j ∈ io, i ≠ j → ∀ b ∈ F i, b ∉ F j) ∧ PostIo XR K io vs R Hb (Φ key ds) Q E
def spS (XR : XRel) (K : PySem.W.Frag) (Φ : FEnv) (s : Sig) : Sp := if s.io = [] then spOf XR K Φ s.key s.par s.md else spIo XR K Φ s.key s.par s.md s.io
/-- where a def stands: in the module, or in a class -/
def AtF (K : PySem.W.Frag) (mg : Str → Option Value) (s : Sig) (f : Addr) : Prop :=
  match s.cls with
  | none => mg s.name = some (.ref f)
  | some (c, m) => Meth K (He.ga K (Str.ofString c)) (Str.ofString m) f
/-- a def of the table as it stands -/
def SigOk (XR : XRel) (Φ : FEnv) (X : Cx) (k : Nat) (s : Sig) : Prop :=
  ∃ (f : Addr) (fd : FuncData) (ps : List Str), AtF X.K X.mg s f ∧ PySem.W.keepIn X.K (.ref f) = true ∧ FnOk X.prog X.w X.K X.mg X.base (L2.CX X.prog X.w) k f fd ps (spS XR X.K Φ s) ∧
    ∀ j, j ≤ s.dfl.length → ∃ (dvs : List V) (ds : List Value), Vals dvs ds ∧ (∀ R, Reps X.K R dvs (s.dfl.drop j)) ∧ Binds X.K fd ps ds
/-- a class of the table -/
structure ClsOk (K : PySem.W.Frag) (mg : Str → Option Value) (k : ClsT) : Prop where
  key : k.name = Str.ofString k.key
  cl : Cls K (He.ga K k.name)
  mg : mg k.name = some (.ref (He.ga K k.name))
  noat : ∀ p ∈ k.flds, NoAttr K (He.ga K k.name) p.1 ∧ p.1 = Str.ofString p.2
  mkr : ∀ f, PySem.W.findIn K (.ref (He.ga K k.name)) "__init__" = some (some (.ref f)) → Mk K (He.ga K k.name) f
/-- the place in the text where code stands, as it runs -/
structure Site (T : Tab) (Φ : FEnv) (XR : XRel) (N : List Str) (sc : Scope) (fnB : Str → Bool) (X : Cx) (W : WX) : Prop where
  calm : X.calm = true
  nE : X.N = N
  nd : N.Nodup
  scE : X.env.scope = sc
  fnE : X.fn = fnB
  sigs : ∃ k, Room (k + 1) X.A ∧ ∀ s ∈ T.sigs, SigOk XR Φ X k s
  const : ∀ x d, T.consts.lookup x = some d → ∃ u v, X.mg x = some u ∧ RelV v u ∧ ∀ R, Rep X.K R v d
  blt : ∀ x ∈ bltNames, X.mg x = none
  takes : Takes X W
  cls : ∀ k ∈ T.cls, ClsOk X.K X.mg k
  lam : T.tb = some N → (∃ k, Room (k + 3) X.A ∧ ∀ s ∈ T.sigs, SigOk XR Φ X k s) ∧ ∃ c P q, LamX.TabB X.base X.mg c P ∧ X.env.code = .ref c ∧ X.env.qual ++ "<lambda>" = q ∧ Tbs.T = some (P, q)
section
variable {T : Tab} {Φ : FEnv} {XR : XRel} {N : List Str} {sc : Scope} {fnB : Str → Bool} {X : Cx} {W : WX}
theorem Site.room (S : Site T Φ XR N sc fnB X W) : X.A.units + 65 < cLine := by
  obtain ⟨k, r, _⟩ := S.sigs
  have := r.un
  omega
end
/-- an expression: e is told by c -/
def SE (Φ : FEnv) (XR : XRel) (M : Ow) (X : Cx) (W : WX) (fl : Bool) (e : Expr) (c : CE) : Prop :=
  ∃ t : TE, PE X e t ∧ ∀ R0 H0 R H σ ρ Q, SR X.K M R0 H0 R H σ ρ → PostE XR R H (RepF X.K fl) (ev Φ c ρ) Q (fun cls dx H' => W cls dx σ H') → t σ H Q
/-- a test -/
def STt (Φ : FEnv) (XR : XRel) (M : Ow) (X : Cx) (W : WX) (e : Expr) (c : CE) : Prop :=
  ∃ t : TT, PT X e t ∧ ∀ R0 H0 R H σ ρ Q, SR X.K M R0 H0 R H σ ρ → PostE XR R H (fun _ _ b k => b = k) ((ev Φ c ρ).bind truR) Q (fun cls dx H' => W cls dx σ H') → t σ H Q
/-- a test that is and, or -/
def SW (Φ : FEnv) (XR : XRel) (M : Ow) (X : Cx) (W : WX) (e : Expr) (c : CE) : Prop :=
  ∃ t : TT, PW X e t ∧ ∀ R0 H0 R H σ ρ Q, SR X.K M R0 H0 R H σ ρ → PostE XR R H (fun _ _ b k => b = k) ((ev Φ c ρ).bind truR) Q (fun cls dx H' => W cls dx σ H') → t σ H Q
/-- an argument list -/
def SL (Φ : FEnv) (XR : XRel) (M : Ow) (X : Cx) (W : WX) (fl : Bool) (md : List Bool) (es : List Expr) (c : CL) : Prop :=
  ∃ t : TA, PA X es t ∧ ∀ R0 H0 R H σ ρ Q, SR X.K M R0 H0 R H σ ρ → PostE XR R H (RepFs X.K fl md) (evs Φ c ρ) Q (fun cls dx H' => W cls dx σ H') → t σ H Q
/-- a slice's part -/
def SO (Φ : FEnv) (XR : XRel) (M : Ow) (X : Cx) (W : WX) (e : Option Expr) (c : CO) : Prop :=
  ∃ t : TO, PO X e t ∧ ∀ R0 H0 R H σ ρ Q, SR X.K M R0 H0 R H σ ρ → PostE XR R H (fun _ _ b k => b = k) (evo Φ c ρ) Q (fun cls dx H' => W cls dx σ H') → t σ H Q
/-- held fast, or standing in H0 when that is asked -/
def RepB (K : PySem.W.Frag) (fl : Bool) (H0 R H : Hp) (v : V) (d : D) : Prop := RepF K fl R H v d ∨ (fl = true ∧ Shal K R H0 v d)
/-- an expression whose value is walked -/
def SB (Φ : FEnv) (XR : XRel) (M : Ow) (X : Cx) (W : WX) (fl : Bool) (e : Expr) (c : CE) : Prop :=
  ∃ t : TE, PE X e t ∧ ∀ R0 H0 R H σ ρ Q, SR X.K M R0 H0 R H σ ρ → PostE XR R H (RepB X.K fl H0) (ev Φ c ρ) Q (fun cls dx H' => W cls dx σ H') → t σ H Q
theorem SE.sb {Φ : FEnv} {XR : XRel} {M : Ow} {X : Cx} {W : WX} {fl : Bool} {e : Expr} {c : CE} (h : SE Φ XR M X W fl e c) : SB Φ XR M X W fl e c := by
  obtain ⟨t, p, q⟩ := h
  refine ⟨t, p, fun R0 H0 R H σ ρ Q s pp => q R0 H0 R H σ ρ Q s ?_⟩
  generalize ev Φ c ρ = r at pp ⊢
  cases r with
  | ok a => exact fun b R' H' x y => pp b R' H' x (.inl y)
  | exc c ps => exact pp
  | stuck => exact pp
/-- what is walked: J gives the items one by one, as long as what it leans on stands -/
def RepI (K : PySem.W.Frag) (fl : Bool) (H0 R' H' : Hp) (J : It) (xs : List D) : Prop :=
  ∃ (G : Hp → Prop) (Y : Nat → Hp → V → Hp → Prop), Walk J xs.length G Y ∧ (∀ H'', SameN (if fl then R' else H') H'' → SameN H0 H'' → G H'') ∧
    ∀ i d, xs[i]? = some d → ∀ R1 H1 x H2, Same R' R1 → Same R1 H1 → Y i H1 x H2 → ∃ R2, Ext R1 H1 R2 H2 ∧ Rep K R2 x d
def SI (Φ : FEnv) (XR : XRel) (M : Ow) (X : Cx) (W : WX) (fl : Bool) (tg e : Expr) (c : CI) : Prop :=
  ∃ t : TI, PI X tg e t ∧ ∀ R0 H0 R H σ ρ Q, SR X.K M R0 H0 R H σ ρ → PostE XR R H (RepI X.K fl H0) (evi Φ c ρ) Q (fun cls dx H' => W cls dx σ H') → t σ H Q
section
variable {α : Type} {K : PySem.W.Frag} {XR : XRel} {R H R1 H1 : Hp}
theorem Shal.later {v : V} {d : D} (h : Shal K R H v d) (e : Ext R H R1 H1) : Shal K R1 H1 v d := h.mono e.rr e.hh
theorem RepF.later {v : V} {d : D} : ∀ {fl}, RepF K fl R H v d → Ext R H R1 H1 → RepF K fl R1 H1 v d
  | true, h, e => Rep.mono e.rr _ _ h
  | false, h, e => Shal.later h e
theorem RepFs.later {fl : Bool} {md : List Bool} {vs : List V} {ds : List D} (h : RepFs K fl md R H vs ds) (e : Ext R H R1 H1) : RepFs K fl md R1 H1 vs ds := by
  induction h with
  | nil => exact .nil
  | cons h t ih => exact .cons (h.later e) (ih e)
theorem RepFs.full : ∀ {vs : List V} {ds : List D}, RepFs K true [] R H vs ds → Reps K R vs ds
  | _, _, .nil => .nil
  | _, _, .cons h t => .cons h (RepFs.full t)
theorem Reps.fulls {fl : Bool} : ∀ {md : List Bool} {vs : List V} {ds : List D}, Reps K R vs ds → RepFs K fl md R H vs ds
  | _, _, _, .nil => .nil
  | _, _, _, .cons h t => .cons (RepF.of h _) (Reps.fulls t)
theorem RepFs.append {fl : Bool} : ∀ {md : List Bool} {vs ws : List V} {ds es : List D}, RepFs K fl md R H vs ds → Reps K R ws es → RepFs K fl md R H (vs ++ ws) (ds ++ es)
  | _, _, _, _, _, .nil, s => s.fulls
  | _, _, _, _, _, .cons h t, s => .cons h (RepFs.append t s)
theorem RepFs.length {fl : Bool} {md : List Bool} {vs : List V} {ds : List D} (h : RepFs K fl md R H vs ds) : vs.length = ds.length := by
  induction h with
  | nil => rfl
  | cons h t ih => simp [ih]
/-- from an answer that raises nothing -/
theorem post0_of {r : Res D} {Q : VK} {E : XK} {fl : Bool} (n : ∀ c ps, r ≠ .exc c ps) (p : PostE XR R H (RepF K fl) r Q E) : Post0 K R H r Q := by
  cases r with
  | ok d => exact fun v R' H' e h => p v R' H' e (RepF.of h fl)
  | exc c ps => exact absurd rfl (n c ps)
  | stuck => exact p
theorem addR_n : ∀ x y c ps, addR x y ≠ .exc c ps := by
  intro x y c ps h
  unfold addR at h
  split at h <;> first | (cases h; done) | (split at h <;> cases h)
theorem intR_n {x y : D} {f : Int → Int → Res D} {c ps} (n : ∀ i j, f i j ≠ .exc c ps) : intR x y f ≠ .exc c ps := by
  intro h
  unfold intR at h
  split at h
  · exact n _ _ h
  · cases h
theorem eqR_n : ∀ x y c ps, eqR x y ≠ .exc c ps := by
  intro x y c ps h
  unfold eqR at h
  split at h
  · cases h
  · split at h <;> cases h
theorem inR_n : ∀ x y c ps, inR x y ≠ .exc c ps := by
  intro x y c ps h
  unfold inR at h
  split at h
  · split at h <;> cases h
  · split at h <;> cases h
  · split at h <;> cases h
  · split at h <;> cases h
  · cases h
theorem isR_n : ∀ x y c ps, isR x y ≠ .exc c ps := by
  intro x y c ps h
  unfold isR at h
  split at h <;> cases h
theorem bind_n {α' : Type} {r : Res α} {f : α → Res α'} {c ps} (n : r ≠ .exc c ps) (m : ∀ a, f a ≠ .exc c ps) : r.bind f ≠ .exc c ps := by
  cases r with
  | ok a => exact m a
  | exc c' ps' => intro h; simp only [Res.bind_exc, Res.exc.injEq] at h; exact n (by rw [h.1, h.2])
  | stuck => intro h; cases h
theorem mulR_n (x y : D) (c ps) : mulR x y ≠ .exc c ps := by
  intro h
  unfold mulR at h
  split at h
  · split at h <;> cases h
  · split at h <;> cases h
  · split at h <;> cases h
  · cases h
theorem binR_n (op : BO) (x y : D) (c ps) : binR op x y ≠ .exc c ps := by
  cases op
  case add => exact addR_n x y c ps
  case mul => exact mulR_n x y c ps
  case eq => exact bind_n (eqR_n x y c ps) fun _ h => by cases h
  case ne => exact bind_n (eqR_n x y c ps) fun _ h => by cases h
  case inn => exact bind_n (inR_n x y c ps) fun _ h => by cases h
  case nin => exact bind_n (inR_n x y c ps) fun _ h => by cases h
  case is_ => exact bind_n (isR_n x y c ps) fun _ h => by cases h
  case isn => exact bind_n (isR_n x y c ps) fun _ h => by cases h
  case le =>
    intro h
    have h : leR x y = .exc c ps := h
    unfold leR at h
    split at h
    · cases h
    · split at h <;> cases h
    · cases h
  all_goals exact intR_n fun i j h => by first | (cases h; done) | (split at h <;> cases h)
/-- what is told by a comparison is a truth -/
theorem cmp_bl {op : BO} {o : CmpOp} (ho : cOp op = some o) {x y d : D} (h : binR op x y = .ok d) : ∃ k, d = .bl k := by
  have int_bl : ∀ {f : Int → Int → Bool}, intR x y (fun i j => .ok (.bl (f i j))) = .ok d → ∃ k, d = .bl k := fun {f} h => by
    unfold intR at h
    split at h
    · injection h with h
      exact ⟨_, h.symm⟩
    · cases h
  have bnd_bl : ∀ {r : Res Bool} {f : Bool → Bool}, (r.bind fun k => .ok (.bl (f k))) = .ok d → ∃ k, d = .bl k := fun {r f} h => by
    cases r with
    | ok a =>
      injection h with h
      exact ⟨_, h.symm⟩
    | exc c ps => cases h
    | stuck => cases h
  cases op <;> first | (cases ho; done) | skip
  case eq => exact bnd_bl (f := fun k => k) h
  case ne => exact bnd_bl (f := fun k => !k) h
  case lt => exact int_bl h
  case le =>
    have h : leR x y = .ok d := h
    unfold leR at h
    split at h
    · injection h with h
      exact ⟨_, h.symm⟩
    · split at h
      · injection h with h
        exact ⟨_, h.symm⟩
      · cases h
    · cases h
  case gt => exact int_bl h
  case ge => exact int_bl h
  case inn => exact bnd_bl (f := fun k => k) h
  case nin => exact bnd_bl (f := fun k => !k) h
  case is_ => exact bnd_bl (f := fun k => k) h
  case isn => exact bnd_bl (f := fun k => !k) h
theorem bits_tru {K : PySem.W.Frag} {v : V} {d : D} {k : Bool} (s : Same R H) (h : Shal K R H v d) (e : truR d = .ok k) : TruV K v H k := by
  cases d with
  | non =>
    cases h.non_inv
    have e' : (Res.ok false : Res Bool) = .ok k := e
    injection e' with e'
    exact e'.symm
  | bl b =>
    cases h.bl_inv
    have e' : (Res.ok b : Res Bool) = .ok k := e
    injection e' with e'
    exact e'.symm
  | int i =>
    cases h.int_inv
    have e' : (Res.ok (i != 0) : Res Bool) = .ok k := e
    injection e' with e'
    exact e'.symm
  | str t =>
    obtain ⟨ev, g⟩ := h.str_inv
    subst ev
    have e' : (Res.ok (!t.isEmpty) : Res Bool) = .ok k := e
    injection e' with e'
    refine ⟨by rw [len_S, ← SZ_line]; exact g.1, ?_⟩
    rw [← e', len_S]
    cases t with
    | nil => rfl
    | cons a r => simp; omega
  | tup ds =>
    obtain ⟨a, vs, ev, hs, r⟩ := h.tup_inv
    subst ev
    have e' : (Res.ok (!ds.isEmpty) : Res Bool) = .ok k := e
    injection e' with e'
    refine .inr (.inl ⟨vs, Same.seqT s hs, ?_⟩)
    rw [← e']
    cases r <;> rfl
  | lst ds =>
    obtain ⟨a, vs, ev, hs, r⟩ := h.lst_inv s
    subst ev
    have e' : (Res.ok (!ds.isEmpty) : Res Bool) = .ok k := e
    injection e' with e'
    refine .inl ⟨vs, hs, ?_⟩
    rw [← e']
    cases r <;> rfl
  | dic _ => cases e
  | dik _ => cases e
  | obj _ _ => cases e
end
end Ps
end
section
set_option maxHeartbeats 4000000
/-! PsXc: classes of refusals, what is raised, defs that are asked about it. -/
namespace Ps
open PySem PySem.Spec PyProof.Rows L2
variable [Tbs]
/-- where a class of refusals lies -/
abbrev xa (K : PySem.W.Frag) (c : String) : Addr := He.ga K (Str.ofString c)
/-- what is raised: its class, its fields in its dict -/
def XRd (T : Tab) (K : PySem.W.Frag) : XRel := fun R H c ps cls dx =>
  cls = .ref (xa K c) ∧ (∃ k ∈ T.exc, k.key = c) ∧ ∃ vs, Reps K R vs ps ∧ vs.length = (xflds c).length ∧ (xflds c = [] → dx = none) ∧
    (xflds c ≠ [] → ∃ d fs, dx = some d ∧ H d = some (.xd fs) ∧ ∀ (j : Nat) (f : String) (v : V), (xflds c)[j]? = some f → vs[j]? = some v → fs.lookup (Str.ofString f) = some v)
theorem XRd.step {T : Tab} {K : PySem.W.Frag} {R R' H H' : Hp} {c : String} {ps : List D} {cls : Value} {dx : Option Addr} (h : XRd T K R H c ps cls dx) (e : Same R R') (e' : SameN H H') : XRd T K R' H' c ps cls dx := by
  obtain ⟨h1, h2, vs, h3, h4, h5, h6⟩ := h
  refine ⟨h1, h2, vs, h3.mono e, h4, h5, fun n => ?_⟩
  obtain ⟨d, fs, q1, q2, q3⟩ := h6 n
  exact ⟨d, fs, q1, e'.at q2, q3⟩
/-- what the written part of the program tells of a class of refusals -/
structure XcOk (T : Tab) (K : PySem.W.Frag) (mg : Str → Option Value) (k : XcT) : Prop where
  key : k.name = Str.ofString k.key
  mg : mg k.name = some (.ref (He.ga K k.name))
  keep : PySem.W.keepIn K (.ref (He.ga K k.name)) = true
  sub : PySem.W.subIn K (.ref (He.ga K k.name)) (.type "BaseException") = some true
  ty : PySem.W.typeIn K (.ref (He.ga K k.name)) = some (.type "type")
  made : k.made = true → PySem.W.excIn K (He.ga K k.name) He.veBase "ValueError.__new__" = true
  exm : ∀ n ∈ T.exc, PySem.W.exmOne K (.ref (He.ga K k.name)) (.ref (He.ga K n.name)) = some (subX k.key n.key)
  kit : ∀ n ∈ T.exc, PySem.W.kitOne K (.ref (He.ga K k.name)) (.ref (He.ga K n.name)) = some (subX k.key n.key)
  ve : PySem.W.kitOne K (.ref (He.ga K k.name)) (.type "ValueError") = some true
  ec : ExcC K (He.ga K k.name)
  xf : XfC K (He.ga K k.name)
  nof : ∀ f ∈ xflds k.key, PySem.W.findIn K (.ref (He.ga K k.name)) (Str.ofString f) = some none
/-- a def that is called with a caught exception -/
structure FnP (P : Program) (w : World) (K : PySem.W.Frag) (mg : Str → Option Value) (base : Heap) (CX : CXT) (k : Nat) (f : Addr) (fd : FuncData) (ps : List Str) (sp : Addr × Obj → Sp) : Prop where
  one : ps.length = 1
  goes : ∀ (A : Around) (outer : List Env) (s : Shared) (H : Hp) (args : Args) (us : List Value) (vs : List V) (Q : VK) (p : Addr × Obj), L2H.RoomH k A → L2H.PinOk outer H s p → Env0 P w K mg base A outer s H →
    BindsTo s fd args (ps.zip us) → Vals vs us → sp p vs H Q (fun _ _ _ => False) → codeAny (model P w) A (.call (.ref f) args) (CR CX outer P w H s Q (fun _ _ _ => False)) s
/-- what it promises -/
def spX (T : Tab) (K : PySem.W.Frag) (Φ : FEnv) (key : String) : Addr × Obj → Sp := fun p vs H Q E =>
  ∃ (c : String) (ps : List D) (dx : Option Addr) (R : Hp), vs = [.ref p.1] ∧ Zc (.ref (xa K c)) dx p.2 ∧ (∃ us, p.2.data = .fields us) ∧ (Same R H ∧ TabOk R H) ∧ XRd T K R H c ps (.ref (xa K c)) dx ∧
    PostE (XRd T K) R H (fun R' _ v d => Rep K R' v d) (quiet (Φ key [.obj c ((xflds c).zip ps)])) Q E
structure XdOk (T : Tab) (Φ : FEnv) (X : Cx) (p : Str × String) : Prop where
  ex : ∃ (f : Addr) (fd : FuncData) (ps : List Str), X.mg p.1 = some (.ref f) ∧ PySem.W.keepIn X.K (.ref f) = true ∧ Binds X.K fd ps [] ∧ FnP X.prog X.w X.K X.mg X.base (L2.CX X.prog X.w) 1 f fd ps (spX T X.K Φ p.2)
structure ExcS (T : Tab) (Φ : FEnv) (XR : XRel) (X : Cx) : Prop where
  xr : XR = XRd T X.K
  ok : ∀ k ∈ T.exc, XcOk T X.K X.mg k
  ve : T.exc ≠ [] → X.mg "ValueError" = none
  xd : ∀ p ∈ T.xd, XdOk T Φ X p
  room : T.xd ≠ [] → L2H.RoomH 2 X.A
/-! ### isinstance(e, ..) -/
/-- where the caught exception stands -/
structure XPin (T : Tab) (Y : Cx) (a : Addr) (oe : Obj) (c : String) (dx : Option Addr) : Prop where
  mem : (a, oe) ∈ Y.pn
  zc : Zc (.ref (xa Y.K c)) dx oe
  dat : ∃ us, oe.data = .fields us
def rIsX (K : PySem.W.Frag) (c : String) (a : Addr) : List V → Hp → VK → Prop := fun xs H Q => ∃ (cs : List Value) (v : V) (b : Bool), xs = [.ref a, v] ∧
  ((∃ u, cs = [u] ∧ (∀ z, RelV v z → z = u) ∧ PySem.W.kitOne K (.ref (xa K c)) u = some b) ∨ (∃ t vs, v = .ref t ∧ H t = some (.tup vs) ∧ (∀ us, Vals vs us → us = cs) ∧ PySem.W.kitAny K (.ref (xa K c)) cs = some b)) ∧ Q (.bl b) H
theorem XPin.inst {T : Tab} {Y : Cx} {a : Addr} {oe : Obj} {c : String} {dx : Option Addr} (P : XPin T Y a oe c dx) {pins : List (Addr × Obj)} {σ : L2.St} {H : Hp} {s : Shared} (I : Inv Y pins σ H s) (hd : ∀ d, dx = some d → ∃ fs, H d = some (.xd fs)) :
    ∃ od, PySem.W.InstAt s.heap a oe (xa Y.K c) od := by
  have g := (I.pin (a, oe) (List.mem_append.mpr (.inl P.mem))).1
  obtain ⟨us, hu⟩ := P.dat
  have nc : PySem.W.notCls oe = true := by unfold PySem.W.notCls; rw [hu]
  cases dx with
  | none => exact ⟨none, g, P.zc.1, nc, by rw [P.zc.2]; trivial⟩
  | some d =>
    obtain ⟨fs, hf⟩ := hd d rfl
    have ok : ObjOk Y.prog Y.w H s.heap d (.xd fs) := I.hok d _ hf
    obtain ⟨mA, ⟨od, _, _, ho, _⟩, _⟩ := ok
    exact ⟨some od, g, P.zc.1, nc, by rw [P.zc.2]; exact ho⟩
theorem call_isX {T : Tab} {Y : Cx} {a : Addr} {oe : Obj} {c : String} {dx : Option Addr} (P : XPin T Y a oe c dx) (C : ExcC Y.K (xa Y.K c)) :
    CallR Y (.builtin "isinstance") (fun xs H Q => (∀ d, dx = some d → ∃ fs, H d = some (.xd fs)) ∧ rIsX Y.K c a xs H Q) := by
  intro pins s σ H xs us Q I r h
  obtain ⟨hd, cs, v, b, rfl, h, q⟩ := h
  obtain ⟨od, J⟩ := P.inst I hd
  obtain ⟨cd, hcd, _⟩ := PySem.W.any_some C.hd
  have Z : PySem.W.KitX Y.K (.ref a) (.ref (xa Y.K c)) (fun h => PySem.W.InstAt h a oe (xa Y.K c) od) := PySem.W.kitx_exc (by rw [hcd]; rfl) C.hg C.hk C.hs C.ha C.hn C.ht C.hm
  have fin : ∀ tk, EP Y pins σ Q (.bool b) { s with toks := tk } := fun tk => ⟨.bl b, H, I.kept (t' := tk) fun _ _ z => z, rfl, q⟩
  cases r with
  | @cons _ u1 _ us rx rr =>
    cases rr with
    | @cons _ u2 _ us2 rt rr =>
      cases rr
      obtain rfl : u1 = Value.ref a := rx
      rcases h with ⟨u, rfl, hu, hk⟩ | ⟨t, vs, rfl, ht, hu, hk⟩
      · rw [hu u2 rt]
        exact PySem.W.kia_one Z I.kIn J hk (fun z => nomatch z) fin
      · obtain rfl : u2 = Value.ref t := rt
        have ok : ObjOk Y.prog Y.w H s.heap t (.tup vs) := I.hok t _ ht
        obtain ⟨_, its, rv, o, ho, hc, n, hdt⟩ := ok
        rw [hu its rv] at hdt
        obtain ⟨oc, odd, oda, osl⟩ := o
        dsimp only at hc hdt
        subst hc hdt
        exact PySem.W.kia_tup Z I.kIn J ho hk (fun z => nomatch z) fin
end Ps
end
section
set_option maxHeartbeats 4000000
/-! PsSE2: one lemma a construct. -/
namespace Ps
open PySem PySem.Spec PyProof.Rows L2
variable [Tbs]
section
variable {Φ : FEnv} {XR : XRel} {M : Ow} {X : Cx} {W : WX} {T : Tab} {N : List Str} {sc : Scope} {fnB : Str → Bool}
theorem odd_no {x : Str} (h : odd x = false) : (x == ("__debug__" : Str)) = false ∧ (x == ("__classdict__" : Str)) = false ∧ x ≠ "__name__" := by
  unfold odd at h
  rw [Bool.or_eq_false_iff, Bool.or_eq_false_iff] at h
  exact ⟨h.1.1, h.1.2, fun e => by have := h.2; rw [e] at this; simp at this⟩
theorem find_at {x : Str} {i : Nat} : ∀ {N : List Str}, (N.findIdx? fun y => decide (y = x)) = some i → N[i]? = some x := by
  intro N h
  obtain ⟨h1, h2, _⟩ := List.findIdx?_eq_some_iff_getElem.mp h
  rw [List.getElem?_eq_getElem h1, of_decide_eq_true h2]
theorem slot_ok (S : Site T Φ XR N sc fnB X W) {x : Str} {i : Nat} (h : slotOf sc N x = some i) :
    X.N[i]? = some x ∧ Vis X.env.scope x ∧ (x == ("__debug__" : Str)) = false ∧ (x == ("__classdict__" : Str)) = false := by
  unfold slotOf at h
  by_cases ho : odd x = true
  · rw [if_pos ho] at h
    cases h
  · rw [if_neg ho] at h
    obtain ⟨o1, o2, _⟩ := odd_no (by simpa using ho)
    rw [S.nE, S.scE]
    unfold Vis
    split at h
    · rename_i e
      exact ⟨find_at h, .inl e, o1, o2⟩
    · rename_i e
      exact ⟨find_at h, .inr (.inl e), o1, o2⟩
    · rename_i e
      exact ⟨find_at h, .inr (.inr e), o1, o2⟩
    · cases h
theorem glob_ok (S : Site T Φ XR N sc fnB X W) {x : Str} (h : isG sc x = true) : Gl X x ∧ (x == ("__debug__" : Str)) = false ∧ x ≠ "__name__" := by
  unfold isG at h
  rw [Bool.and_eq_true] at h
  obtain ⟨o1, _, o3⟩ := odd_no (x := x) (by simpa using h.1)
  refine ⟨?_, o1, o3⟩
  show X.env.scope.names.lookup x = _
  rw [S.scE]
  exact of_decide_eq_true h.2
theorem se_var (S : Site T Φ XR N sc fnB X W) {x : Str} {i : Nat} {pos : Pos} {fl : Bool} (h : slotOf sc N x = some i) (hf : fl = true → i ∉ M) : SE Φ XR M X W fl (.Name x pos) (.var i) := by
  obtain ⟨h1, h2, h3, h4⟩ := slot_ok S h
  refine ⟨_, pe_var h1 h2 h3 h4, fun R0 H0 R H σ ρ Q s p => ?_⟩
  have p : PostE XR R H (RepF X.K fl) (getv ρ i) Q _ := p
  unfold getv at p
  split at p
  · rename_i d e
    obtain ⟨v, e1, r⟩ := s.shalV e
    refine ⟨v, e1, p.here s.sub ?_⟩
    cases fl with
    | false => exact r
    | true =>
      obtain ⟨v', e2, r', _⟩ := s.val i d e
      rw [e1] at e2
      cases e2
      exact r' (hf rfl)
  · exact p.elim
theorem se_glob (S : Site T Φ XR N sc fnB X W) {x : Str} {d : D} {pos : Pos} {fl : Bool} (h : isG sc x = true) (hc : T.consts.lookup x = some d) : SE Φ XR M X W fl (.Name x pos) (.cst d) := by
  obtain ⟨g1, g2, g3⟩ := glob_ok S h
  obtain ⟨u, v, hm, r, rr⟩ := S.const x d hc
  exact ⟨_, pe_glob g1 hm r g2, fun R0 H0 R H σ ρ Q s p => PostE.here s.sub p (RepF.of (rr _) fl)⟩
theorem se_cst {c : Const} {d : D} {j : Nat} {pos : Pos} {fl : Bool} (h : constOf c = some d) : SE Φ XR M X W fl (.Constant c j pos) (.cst d) := by
  cases c with
  | none => cases h; exact ⟨_, pe_non, fun R0 H0 R H σ ρ Q s p => PostE.here s.sub p (RepF.of .non fl)⟩
  | bool b => cases h; exact ⟨_, pe_bl, fun R0 H0 R H σ ρ Q s p => PostE.here s.sub p (RepF.of (.bl b) fl)⟩
  | int b => cases h; exact ⟨_, pe_int, fun R0 H0 R H σ ρ Q s p => PostE.here s.sub p (RepF.of (.int b) fl)⟩
  | str z =>
    unfold constOf at h
    by_cases q : (Nat.ble z.cps.toList.length SZ && z.cps.toList.all (fun c => decide (c < 0x110000))) = true
    · simp only [q, if_true] at h
      cases h
      rw [Bool.and_eq_true] at q
      exact ⟨_, pe_str, fun R0 H0 R H σ ρ Q s p => PostE.here s.sub p (RepF.of (.str rfl ⟨Nat.le_of_ble_eq_true q.1, q.2⟩) fl)⟩
    · simp only [q] at h
      cases h
  | _ => cases h
/-- two operands -/
theorem two {a b : Expr} {ca cb : CE} {f : D → D → Res D} {ta tb : TE} {fl f1 f2 : Bool}
    (ha : ∀ R0 H0 R H σ ρ Q, SR X.K M R0 H0 R H σ ρ → PostE XR R H (RepF X.K f1) (ev Φ ca ρ) Q (fun cls dx H' => W cls dx σ H') → ta σ H Q)
    (hb : ∀ R0 H0 R H σ ρ Q, SR X.K M R0 H0 R H σ ρ → PostE XR R H (RepF X.K f2) (ev Φ cb ρ) Q (fun cls dx H' => W cls dx σ H') → tb σ H Q)
    {R0 H0 R H : Hp} {σ : L2.St} {ρ : Rho} {Q : VK} (s : SR X.K M R0 H0 R H σ ρ) {k : V → V → Hp → Prop}
    (p : PostE XR R H (RepF X.K fl) ((ev Φ ca ρ).bind fun x => (ev Φ cb ρ).bind fun y => f x y) Q (fun cls dx H' => W cls dx σ H'))
    (h : ∀ x y vx vy R2 H2, Ext R H R2 H2 → Shal X.K R2 H2 vx x → Shal X.K R2 H2 vy y → PostE XR R2 H2 (RepF X.K fl) (f x y) Q (fun cls dx H' => W cls dx σ H') → k vx vy H2) :
    ta σ H fun x H1 => tb σ H1 fun y H2 => k x y H2 := by
  refine ha R0 H0 R H σ ρ _ s (p.first fun x vx R1 H1 e1 r1 p1 => ?_)
  refine hb R0 H0 R1 H1 σ ρ _ (s.later e1) (p1.first fun y vy R2 H2 e2 r2 p2 => ?_)
  exact h x y vx vy R2 H2 (e1.trans e2) (r1.shal.later e2) r2.shal p2
theorem se_bin {a b : Expr} {ca cb : CE} {o : Operator} {op : BO} {pos : Pos} {fl : Bool} (ho : bOf o = some op) (ha : SE Φ XR M X W false a ca) (hb : SE Φ XR M X W false b cb) :
    SE Φ XR M X W fl (.BinOp a o b pos) (.bin op ca cb) := by
  obtain ⟨ta, pa, ha⟩ := ha
  obtain ⟨tb, pb, hb⟩ := hb
  refine ⟨_, pe_op (op_sem op (bOf_ok ho)) pa pb, fun R0 H0 R H σ ρ Q s p => ?_⟩
  exact two (a := a) (b := b) ha hb s p fun x y vx vy R2 H2 e rx ry q => ⟨R2, x, y, e.sub, rx, ry, post0_of (binR_n op x y) q⟩
theorem se_cmp (S : Site T Φ XR N sc fnB X W) {a b : Expr} {ca cb : CE} {o : CmpOp} {op : BO} {pos : Pos} {fl : Bool} (ho : cOf o = some op) (hm : behindInMarks o b = false) (ha : SE Φ XR M X W false a ca) (hb : SE Φ XR M X W false b cb) :
    SE Φ XR M X W fl (.Compare a [o] [b] pos) (.bin op ca cb) := by
  obtain ⟨ta, pa, ha⟩ := ha
  obtain ⟨tb, pb, hb⟩ := hb
  refine ⟨_, pe_cmpR (cmp_sem S.room op (cOf_ok ho)) pa pb hm, fun R0 H0 R H σ ρ Q s p => ?_⟩
  exact two (a := a) (b := b) ha hb s p fun x y vx vy R2 H2 e rx ry q => ⟨R2, x, y, e.sub, rx, ry, post0_of (binR_n op x y) q⟩
/-- .. as a test -/
theorem st_cmp (S : Site T Φ XR N sc fnB X W) {a b : Expr} {ca cb : CE} {o : CmpOp} {op : BO} {pos : Pos} (ho : cOf o = some op) (hm : behindInMarks o b = false) (ha : SE Φ XR M X W false a ca) (hb : SE Φ XR M X W false b cb) :
    STt Φ XR M X W (.Compare a [o] [b] pos) (.bin op ca cb) := by
  obtain ⟨ta, pa, ha⟩ := ha
  obtain ⟨tb, pb, hb⟩ := hb
  refine ⟨_, pt_cmpR (cmp_sem S.room op (cOf_ok ho)) pa pb hm, fun R0 H0 R H σ ρ Q s p => ?_⟩
  have q : PostE XR R H (RepF X.K true) (ev Φ (.bin op ca cb) ρ) (fun v H' => ∃ k, v = .bl k ∧ Q k H') (fun cls dx H' => W cls dx σ H') := by
    have hh : ∀ d, ev Φ (.bin op ca cb) ρ = .ok d → ∃ k, d = .bl k := fun d hd => by
      simp only [ev] at hd
      cases hx : ev Φ ca ρ with
      | ok x =>
        rw [hx] at hd
        cases hy : ev Φ cb ρ with
        | ok y =>
          rw [hy] at hd
          exact cmp_bl (cOf_ok ho) hd
        | exc c ps => rw [hy] at hd; cases hd
        | stuck => rw [hy] at hd; cases hd
      | exc c ps => rw [hx] at hd; cases hd
      | stuck => rw [hx] at hd; cases hd
    generalize hr : ev Φ (.bin op ca cb) ρ = r at p hh
    cases r with
    | ok d =>
      obtain ⟨k, rfl⟩ := hh d rfl
      intro v R' H' e h
      cases h
      exact ⟨k, rfl, p k R' H' e rfl⟩
    | exc c ps => exact p
    | stuck => exact p
  exact two (a := a) (b := b) ha hb s q fun x y vx vy R2 H2 e rx ry q => ⟨R2, x, y, e.sub, rx, ry, post0_of (binR_n op x y) q⟩
/-- three operands of a chain; the end is wished for by Q' -/
theorem chain_core (S : Site T Φ XR N sc fnB X W) {a b c : Expr} {ca cb cc : CE} {op op' : BO} {o o' : CmpOp} (ho : cOf o = some op) (ho' : cOf o' = some op') {ta tb tc : TE}
    (ha : ∀ R0 H0 R H σ ρ Q, SR X.K M R0 H0 R H σ ρ → PostE XR R H (RepF X.K false) (ev Φ ca ρ) Q (fun cls dx H' => W cls dx σ H') → ta σ H Q)
    (hb : ∀ R0 H0 R H σ ρ Q, SR X.K M R0 H0 R H σ ρ → PostE XR R H (RepF X.K false) (ev Φ cb ρ) Q (fun cls dx H' => W cls dx σ H') → tb σ H Q)
    (hc : ∀ R0 H0 R H σ ρ Q, SR X.K M R0 H0 R H σ ρ → PostE XR R H (RepF X.K false) (ev Φ cc ρ) Q (fun cls dx H' => W cls dx σ H') → tc σ H Q)
    {R0 H0 R H : Hp} {σ : L2.St} {ρ : Rho} {Q : VK} (s : SR X.K M R0 H0 R H σ ρ)
    (p : PostE XR R H (RepF X.K true) (ev Φ (.chain op op' ca cb cc) ρ) Q (fun cls dx H' => W cls dx σ H')) :
    tChain (semR2 X.K (binR op)) (semR2 X.K (binR op')) ta tb tc σ H Q := by
  simp only [ev] at p
  refine two (a := a) (b := b) ha hb s p fun x y vx vy R2 H2 e rx ry q => ⟨R2, x, y, e.sub, rx, ry, ?_⟩
  cases hz : binR op x y with
  | exc c' ps => exact absurd hz (binR_n op x y c' ps)
  | stuck => rw [hz] at q; exact q.elim
  | ok z =>
    rw [hz] at q
    obtain ⟨k, rfl⟩ := cmp_bl (cOf_ok ho) hz
    intro v R3 H3 e3 h3
    cases h3
    refine ⟨k, rfl, ?_⟩
    cases k with
    | false =>
      rw [if_neg Bool.false_ne_true]
      exact q (.bl false) R3 H3 e3 (.bl false)
    | true =>
      rw [if_pos rfl]
      have q : PostE XR R2 H2 (RepF X.K true) ((ev Φ cc ρ).bind fun z => (binR op' y z).bind fun r' => (boolR r').bind fun k' => .ok (.bl k')) Q (fun cls dx H' => W cls dx σ H') := q
      refine hc R0 H0 R3 H3 σ ρ _ (s.later (e.trans e3)) ((q.later e3).first fun w vw R4 H4 e4 rw' p4 => ?_)
      refine ⟨R4, y, w, e4.sub, (ry.later e3).later e4, rw', ?_⟩
      cases hz2 : binR op' y w with
      | exc c' ps => exact absurd hz2 (binR_n op' y w c' ps)
      | stuck => rw [hz2] at p4; exact p4.elim
      | ok z2 =>
        rw [hz2] at p4
        obtain ⟨k2, rfl⟩ := cmp_bl (cOf_ok ho') hz2
        exact fun v' R' H' e' h' => p4 v' R' H' e' h'
theorem se_chain (S : Site T Φ XR N sc fnB X W) {a b c : Expr} {ca cb cc : CE} {op op' : BO} {o o' : CmpOp} {pos : Pos} {fl : Bool} (ho : cOf o = some op) (ho' : cOf o' = some op') (hm : lastMarks [o, o'] [b, c] = false)
    (ha : SE Φ XR M X W false a ca) (hb : SE Φ XR M X W false b cb) (hc : SE Φ XR M X W false c cc) : SE Φ XR M X W fl (.Compare a [o, o'] [b, c] pos) (.chain op op' ca cb cc) := by
  obtain ⟨ta, pa, ha⟩ := ha
  obtain ⟨tb, pb, hb⟩ := hb
  obtain ⟨tc, pc, hc⟩ := hc
  refine ⟨_, pe_chain (cmp_sem S.room op (cOf_ok ho)) (cmp_sem S.room op' (cOf_ok ho')) pa pb pc hm, fun R0 H0 R H σ ρ Q s p => ?_⟩
  refine chain_core S (a := a) (b := b) (c := c) ho ho' ha hb hc s ?_
  generalize ev Φ (.chain op op' ca cb cc) ρ = r at p ⊢
  cases r with
  | ok d => exact fun v R' H' e h => p v R' H' e (RepF.of h fl)
  | exc c ps => exact p
  | stuck => exact p
theorem st_chain (S : Site T Φ XR N sc fnB X W) {a b c : Expr} {ca cb cc : CE} {op op' : BO} {o o' : CmpOp} {pos : Pos} (ho : cOf o = some op) (ho' : cOf o' = some op') (hm : lastMarks [o, o'] [b, c] = false)
    (ha : SE Φ XR M X W false a ca) (hb : SE Φ XR M X W false b cb) (hc : SE Φ XR M X W false c cc) : STt Φ XR M X W (.Compare a [o, o'] [b, c] pos) (.chain op op' ca cb cc) := by
  obtain ⟨ta, pa, ha⟩ := ha
  obtain ⟨tb, pb, hb⟩ := hb
  obtain ⟨tc, pc, hc⟩ := hc
  refine ⟨_, pt_chain (cmp_sem S.room op (cOf_ok ho)) (cmp_sem S.room op' (cOf_ok ho')) pa pb pc hm, fun R0 H0 R H σ ρ Q s p => ?_⟩
  refine chain_core S (a := a) (b := b) (c := c) ho ho' ha hb hc s ?_
  have hh : ∀ d, ev Φ (.chain op op' ca cb cc) ρ = .ok d → ∃ k, d = .bl k := fun d hd => by
    simp only [ev] at hd
    cases hx : ev Φ ca ρ with
    | ok x =>
      rw [hx] at hd
      cases hy : ev Φ cb ρ with
      | ok y =>
        rw [hy] at hd
        simp only [Res.bind_ok] at hd
        cases hz : binR op x y with
        | ok z =>
          rw [hz] at hd
          obtain ⟨k, rfl⟩ := cmp_bl (cOf_ok ho) hz
          cases k with
          | false => exact ⟨false, by injection hd with hd; exact hd.symm⟩
          | true =>
            simp only [Res.bind_ok, boolR] at hd
            cases hw : ev Φ cc ρ with
            | ok w =>
              rw [hw] at hd
              simp only [Res.bind_ok] at hd
              cases hz2 : binR op' y w with
              | ok z2 =>
                rw [hz2] at hd
                obtain ⟨k2, rfl⟩ := cmp_bl (cOf_ok ho') hz2
                exact ⟨k2, by injection hd with hd; exact hd.symm⟩
              | exc c ps => rw [hz2] at hd; cases hd
              | stuck => rw [hz2] at hd; cases hd
            | exc c ps => rw [hw] at hd; cases hd
            | stuck => rw [hw] at hd; cases hd
        | exc c ps => rw [hz] at hd; cases hd
        | stuck => rw [hz] at hd; cases hd
      | exc c ps => rw [hy] at hd; cases hd
      | stuck => rw [hy] at hd; cases hd
    | exc c ps => rw [hx] at hd; cases hd
    | stuck => rw [hx] at hd; cases hd
  generalize ev Φ (.chain op op' ca cb cc) ρ = r at p hh ⊢
  cases r with
  | ok d =>
    obtain ⟨k, rfl⟩ := hh d rfl
    intro v R' H' e h
    cases h
    exact ⟨k, rfl, p k R' H' e rfl⟩
  | exc c ps => exact p
  | stuck => exact p
theorem se_neg {a : Expr} {ca : CE} {pos : Pos} {fl : Bool} (ha : SE Φ XR M X W false a ca) : SE Φ XR M X W fl (.UnaryOp .USub a pos) (.neg ca) := by
  obtain ⟨ta, pa, ha⟩ := ha
  refine ⟨_, pe_un un_neg pa, fun R0 H0 R H σ ρ Q s p => ?_⟩
  simp only [ev] at p
  refine ha R0 H0 R H σ ρ _ s (p.first fun x vx R1 H1 e1 r1 p1 => ?_)
  cases x with
  | int i =>
    cases r1.shal.int_inv
    exact ⟨i, rfl, PostE.here e1.sub p1 (RepF.of (.int _) fl)⟩
  | _ => exact p1.elim
theorem se_not {a : Expr} {ca : CE} {pos : Pos} {fl : Bool} (ha : SE Φ XR M X W false a ca) : SE Φ XR M X W fl (.UnaryOp .Not a pos) (.not ca) := by
  obtain ⟨ta, pa, ha⟩ := ha
  refine ⟨_, pe_not pa, fun R0 H0 R H σ ρ Q s p => ?_⟩
  simp only [ev] at p
  refine ha R0 H0 R H σ ρ _ s (p.first fun x vx R1 H1 e1 r1 p1 => ?_)
  cases x with
  | bl i =>
    cases r1.shal.bl_inv
    exact ⟨i, rfl, PostE.here e1.sub p1 (RepF.of (.bl _) fl)⟩
  | _ => exact p1.elim
theorem st_not {a : Expr} {ca : CE} {pos : Pos} (ha : STt Φ XR M X W a ca) : STt Φ XR M X W (.UnaryOp .Not a pos) (.not ca) := by
  obtain ⟨ta, pa, ha⟩ := ha
  refine ⟨_, pt_not pa, fun R0 H0 R H σ ρ Q s p => ?_⟩
  simp only [ev] at p
  refine ha R0 H0 R H σ ρ _ s ?_
  generalize ev Φ ca ρ = r at p ⊢
  cases r with
  | ok d =>
    cases d with
    | bl k =>
      intro b R' H' e hb
      subst hb
      exact p _ R' H' e rfl
    | _ => exact p.elim
  | exc c ps => exact p
  | stuck => exact p
theorem nonV {v : V} {d : D} {R H : Hp} {K : PySem.W.Frag} (h : Shal K R H v d) : decide (v = .non) = (match d with | .non => true | _ => false) := by
  cases d with
  | non => cases h.non_inv; rfl
  | bl b => cases h.bl_inv; rfl
  | int b => cases h.int_inv; rfl
  | str b => obtain ⟨e, _⟩ := h.str_inv; subst e; rfl
  | tup ds => obtain ⟨a, vs, e, _⟩ := h.tup_inv; subst e; rfl
  | lst ds =>
    rcases h with h | ⟨a, vs, ds, e, _⟩ | ⟨a, tv, kvs, e, _⟩ | ⟨a, fp, e, _⟩
    · cases h; rfl
    · subst e; rfl
    · subst e; rfl
    · subst e; rfl
  | dic kvs =>
    rcases h with h | ⟨a, vs, ds, e, _⟩ | ⟨a, tv, kvs, e, _⟩ | ⟨a, fp, e, _⟩
    · cases h; rfl
    · subst e; rfl
    · subst e; rfl
    · subst e; rfl
  | dik kvs =>
    rcases h with h | ⟨a, vs, ds, e, _⟩ | ⟨a, tv, kvs, e, _⟩ | ⟨a, fp, e, _⟩
    · cases h
    · subst e; rfl
    · subst e; rfl
    · subst e; rfl
  | obj c fs =>
    rcases h with h | ⟨a, vs, ds, e, _⟩ | ⟨a, tv, kvs, e, _⟩ | ⟨a, fp, e, _⟩
    · cases h
    · subst e; rfl
    · subst e; rfl
    · subst e; rfl
theorem se_isN {a : Expr} {ca : CE} {j : Nat} {pos pos' : Pos} {fl : Bool} (ha : SE Φ XR M X W false a ca) : SE Φ XR M X W fl (.Compare a [.Is] [.Constant .none j pos'] pos) (.isN false ca) := by
  obtain ⟨ta, pa, ha⟩ := ha
  refine ⟨_, pe_cmp (pc_isN pa), fun R0 H0 R H σ ρ Q s p => ?_⟩
  simp only [ev] at p
  refine ha R0 H0 R H σ ρ _ s (p.first fun x vx R1 H1 e1 r1 p1 => ?_)
  show Q (.bl (decide (vx = .non))) H1
  rw [nonV r1.shal]
  cases x <;> exact PostE.here e1.sub p1 (RepF.of (.bl _) fl)
theorem se_notN {a : Expr} {ca : CE} {j : Nat} {pos pos' : Pos} {fl : Bool} (ha : SE Φ XR M X W false a ca) : SE Φ XR M X W fl (.Compare a [.IsNot] [.Constant .none j pos'] pos) (.isN true ca) := by
  obtain ⟨ta, pa, ha⟩ := ha
  refine ⟨_, pe_cmp (pc_notN pa), fun R0 H0 R H σ ρ Q s p => ?_⟩
  simp only [ev] at p
  refine ha R0 H0 R H σ ρ _ s (p.first fun x vx R1 H1 e1 r1 p1 => ?_)
  show Q (.bl (!decide (vx = .non))) H1
  rw [nonV r1.shal]
  cases x <;> exact PostE.here e1.sub p1 (RepF.of (.bl _) fl)
theorem st_isN {a : Expr} {ca : CE} {j : Nat} {pos pos' : Pos} (ha : SE Φ XR M X W false a ca) : STt Φ XR M X W (.Compare a [.Is] [.Constant .none j pos'] pos) (.isN false ca) := by
  obtain ⟨ta, pa, ha⟩ := ha
  refine ⟨_, pt_cmp (pc_isN pa), fun R0 H0 R H σ ρ Q s p => ?_⟩
  simp only [ev] at p
  refine ha R0 H0 R H σ ρ _ s ?_
  generalize ev Φ ca ρ = r at p ⊢
  cases r with
  | ok x =>
    intro vx R1 H1 e1 r1
    refine ⟨_, rfl, ?_⟩
    rw [nonV r1]
    cases x <;> exact p _ R1 H1 e1 rfl
  | exc c ps => exact p
  | stuck => exact p
theorem st_notN {a : Expr} {ca : CE} {j : Nat} {pos pos' : Pos} (ha : SE Φ XR M X W false a ca) : STt Φ XR M X W (.Compare a [.IsNot] [.Constant .none j pos'] pos) (.isN true ca) := by
  obtain ⟨ta, pa, ha⟩ := ha
  refine ⟨_, pt_cmp (pc_notN pa), fun R0 H0 R H σ ρ Q s p => ?_⟩
  simp only [ev] at p
  refine ha R0 H0 R H σ ρ _ s ?_
  generalize ev Φ ca ρ = r at p ⊢
  cases r with
  | ok x =>
    intro vx R1 H1 e1 r1
    refine ⟨_, rfl, ?_⟩
    rw [nonV r1]
    cases x <;> exact p _ R1 H1 e1 rfl
  | exc c ps => exact p
  | stuck => exact p
/-! ### and, or -/
theorem se_one {op : BoolOp} {a : Expr} {ca : CE} {pos : Pos} {fl : Bool} (ha : SE Φ XR M X W fl a ca) : SE Φ XR M X W fl (.BoolOp op [a] pos) ca := by
  obtain ⟨ta, pa, ha⟩ := ha
  exact ⟨_, pe_one pa, ha⟩
theorem se_and {a b : Expr} {r : List Expr} {ca cb : CE} {pos : Pos} {fl : Bool} (ha : SE Φ XR M X W false a ca) (hb : SE Φ XR M X W fl (.BoolOp .And (b :: r) pos) cb) : SE Φ XR M X W fl (.BoolOp .And (a :: b :: r) pos) (.and ca cb) := by
  obtain ⟨ta, pa, ha⟩ := ha
  obtain ⟨tb, pb, hb⟩ := hb
  refine ⟨_, pe_and pa pb, fun R0 H0 R H σ ρ Q s p => ?_⟩
  simp only [ev] at p
  refine ha R0 H0 R H σ ρ _ s (p.first fun x vx R1 H1 e1 r1 p1 => ?_)
  cases x with
  | bl k =>
    cases r1.shal.bl_inv
    refine ⟨k, rfl, ?_⟩
    cases k with
    | true =>
      rw [if_pos rfl]
      exact hb R0 H0 R1 H1 σ ρ _ (s.later e1) p1
    | false =>
      rw [if_neg Bool.false_ne_true]
      exact PostE.here e1.sub p1 (RepF.of (.bl _) fl)
  | _ => exact p1.elim
theorem se_or {a b : Expr} {r : List Expr} {ca cb : CE} {pos : Pos} {fl : Bool} (ha : SE Φ XR M X W false a ca) (hb : SE Φ XR M X W fl (.BoolOp .Or (b :: r) pos) cb) : SE Φ XR M X W fl (.BoolOp .Or (a :: b :: r) pos) (.or ca cb) := by
  obtain ⟨ta, pa, ha⟩ := ha
  obtain ⟨tb, pb, hb⟩ := hb
  refine ⟨_, pe_or pa pb, fun R0 H0 R H σ ρ Q s p => ?_⟩
  simp only [ev] at p
  refine ha R0 H0 R H σ ρ _ s (p.first fun x vx R1 H1 e1 r1 p1 => ?_)
  cases x with
  | bl k =>
    cases r1.shal.bl_inv
    refine ⟨k, rfl, ?_⟩
    cases k with
    | true =>
      rw [if_pos rfl]
      exact PostE.here e1.sub p1 (RepF.of (.bl _) fl)
    | false =>
      rw [if_neg Bool.false_ne_true]
      exact hb R0 H0 R1 H1 σ ρ _ (s.later e1) p1
  | _ => exact p1.elim
theorem sw_and1 {a : Expr} {ca : CE} {pos : Pos} (ha : STt Φ XR M X W a ca) : SW Φ XR M X W (.BoolOp .And [a] pos) ca := by
  obtain ⟨ta, pa, ha⟩ := ha
  exact ⟨_, pw_and1 pa, ha⟩
theorem sw_or1 {a : Expr} {ca : CE} {pos : Pos} (ha : STt Φ XR M X W a ca) : SW Φ XR M X W (.BoolOp .Or [a] pos) ca := by
  obtain ⟨ta, pa, ha⟩ := ha
  exact ⟨_, pw_or1 pa, ha⟩
theorem sw_and {a b : Expr} {r : List Expr} {ca cb : CE} {pos : Pos} (ha : STt Φ XR M X W a ca) (hb : SW Φ XR M X W (.BoolOp .And (b :: r) pos) cb) : SW Φ XR M X W (.BoolOp .And (a :: b :: r) pos) (.and ca cb) := by
  obtain ⟨ta, pa, ha⟩ := ha
  obtain ⟨tb, pb, hb⟩ := hb
  refine ⟨_, pw_and pa pb, fun R0 H0 R H σ ρ Q s p => ?_⟩
  simp only [ev] at p
  refine ha R0 H0 R H σ ρ _ s ?_
  generalize ev Φ ca ρ = q at p ⊢
  cases q with
  | ok x =>
    cases x with
    | bl k =>
      intro k' R1 H1 e1 ek
      subst ek
      cases k' with
      | true =>
        show if true = true then tb σ H1 Q else Q false H1
        rw [if_pos rfl]
        exact hb R0 H0 R1 H1 σ ρ _ (s.later e1) (PostE.later p e1)
      | false =>
        show if false = true then tb σ H1 Q else Q false H1
        rw [if_neg Bool.false_ne_true]
        exact p false R1 H1 e1 rfl
    | _ => exact p.elim
  | exc c ps => exact p
  | stuck => exact p
theorem sw_or {a b : Expr} {r : List Expr} {ca cb : CE} {pos : Pos} (ha : STt Φ XR M X W a ca) (hb : SW Φ XR M X W (.BoolOp .Or (b :: r) pos) cb) : SW Φ XR M X W (.BoolOp .Or (a :: b :: r) pos) (.or ca cb) := by
  obtain ⟨ta, pa, ha⟩ := ha
  obtain ⟨tb, pb, hb⟩ := hb
  refine ⟨_, pw_or pa pb, fun R0 H0 R H σ ρ Q s p => ?_⟩
  simp only [ev] at p
  refine ha R0 H0 R H σ ρ _ s ?_
  generalize ev Φ ca ρ = q at p ⊢
  cases q with
  | ok x =>
    cases x with
    | bl k =>
      intro k' R1 H1 e1 ek
      subst ek
      cases k' with
      | true =>
        show if true = true then Q true H1 else tb σ H1 Q
        rw [if_pos rfl]
        exact p true R1 H1 e1 rfl
      | false =>
        show if false = true then Q true H1 else tb σ H1 Q
        rw [if_neg Bool.false_ne_true]
        exact hb R0 H0 R1 H1 σ ρ _ (s.later e1) (PostE.later p e1)
    | _ => exact p.elim
  | exc c ps => exact p
  | stuck => exact p
theorem SW.st {e : Expr} {c : CE} (h : SW Φ XR M X W e c) : STt Φ XR M X W e c := by
  obtain ⟨t, p, h⟩ := h
  exact ⟨t, p.pt, h⟩
/-! ### a if c else b -/
theorem if_core {α β : Type} {rep : Hp → Hp → β → α → Prop} {cc : CE} {tc : TT} (hc : ∀ R0 H0 R H σ ρ Q, SR X.K M R0 H0 R H σ ρ → PostE XR R H (fun _ _ b k => b = k) ((ev Φ cc ρ).bind truR) Q (fun cls dx H' => W cls dx σ H') → tc σ H Q)
    {R0 H0 R H : Hp} {σ : L2.St} {ρ : Rho} {Q : β → Hp → Prop} (s : SR X.K M R0 H0 R H σ ρ) {f g : Res α} {A B : Hp → Prop}
    (p : PostE XR R H rep ((ev Φ cc ρ).bind fun x => (truR x).bind fun k => match k with | true => f | false => g) Q (fun cls dx H' => W cls dx σ H'))
    (ha : ∀ R1 H1, Ext R H R1 H1 → PostE XR R1 H1 rep f Q (fun cls dx H' => W cls dx σ H') → A H1)
    (hb : ∀ R1 H1, Ext R H R1 H1 → PostE XR R1 H1 rep g Q (fun cls dx H' => W cls dx σ H') → B H1) :
    tc σ H fun c H1 => if c = true then A H1 else B H1 := by
  refine hc R0 H0 R H σ ρ _ s ?_
  generalize ev Φ cc ρ = q at p ⊢
  cases q with
  | ok x =>
    simp only [Res.bind_ok] at p ⊢
    refine p.first fun k b R1 H1 e1 ek p1 => ?_
    subst ek
    cases b with
    | true => rw [if_pos rfl]; exact ha R1 H1 e1 p1
    | false => rw [if_neg Bool.false_ne_true]; exact hb R1 H1 e1 p1
  | exc c ps => exact p
  | stuck => exact p
theorem se_ite {c a b : Expr} {cc ca cb : CE} {pos : Pos} {fl : Bool} (hc : STt Φ XR M X W c cc) (ha : SE Φ XR M X W fl a ca) (hb : SE Φ XR M X W fl b cb) : SE Φ XR M X W fl (.IfExp c a b pos) (.ite cc ca cb) := by
  obtain ⟨tc, pc, hc⟩ := hc
  obtain ⟨ta, pa, ha⟩ := ha
  obtain ⟨tb, pb, hb⟩ := hb
  refine ⟨_, pe_ifExp pc pa pb, fun R0 H0 R H σ ρ Q s p => ?_⟩
  simp only [ev] at p
  exact if_core hc s p (fun R1 H1 e1 p1 => ha R0 H0 R1 H1 σ ρ _ (s.later e1) p1) (fun R1 H1 e1 p1 => hb R0 H0 R1 H1 σ ρ _ (s.later e1) p1)
theorem pt_ifExp {c a b : Expr} {tc ta tb : TT} {pos : Pos} (hc : PT X c tc) (ha : PT X a ta) (hb : PT X b tb) : PT X (.IfExp c a b pos) (fun σ H Q => tc σ H fun k H1 => if k = true then ta σ H1 Q else tb σ H1 Q) := by
  refine ⟨fun pins s σ H Q I h => ?_⟩
  show wpAny _ _ (do if ← isTrue c X.env (eval c X.env) then isTrue a X.env (eval a X.env) else isTrue b X.env (eval b X.env)) _ _ _
  refine wpAny_bind (thn (hc.run pins s σ H _ I h) fun d s1 ⟨H1, I1, q1⟩ => ?_)
  cases d with
  | true => exact ha.run pins s1 σ H1 Q I1 q1
  | false => exact hb.run pins s1 σ H1 Q I1 q1
theorem st_ite {c a b : Expr} {cc ca cb : CE} {pos : Pos} (hc : STt Φ XR M X W c cc) (ha : STt Φ XR M X W a ca) (hb : STt Φ XR M X W b cb) : STt Φ XR M X W (.IfExp c a b pos) (.ite cc ca cb) := by
  obtain ⟨tc, pc, hc⟩ := hc
  obtain ⟨ta, pa, ha⟩ := ha
  obtain ⟨tb, pb, hb⟩ := hb
  refine ⟨_, pt_ifExp pc pa pb, fun R0 H0 R H σ ρ Q s p => ?_⟩
  simp only [ev] at p
  have p : PostE XR R H (fun _ _ b k => b = k) ((ev Φ cc ρ).bind fun x => (truR x).bind fun k => match k with | true => (ev Φ ca ρ).bind truR | false => (ev Φ cb ρ).bind truR) Q (fun cls dx H' => W cls dx σ H') := by
    generalize ev Φ cc ρ = q at p ⊢
    cases q with
    | ok x =>
      simp only [Res.bind_ok] at p ⊢
      generalize truR x = q at p ⊢
      cases q with
      | ok k => cases k <;> exact p
      | exc c ps => exact p
      | stuck => exact p
    | exc c ps => exact p
    | stuck => exact p
  exact if_core hc s p (fun R1 H1 e1 p1 => ha R0 H0 R1 H1 σ ρ _ (s.later e1) p1) (fun R1 H1 e1 p1 => hb R0 H0 R1 H1 σ ρ _ (s.later e1) p1)
/-- any other expression as a test -/
theorem st_val {a : Expr} {ca : CE} (ha : SE Φ XR M X W false a ca) (he : ∀ whole, isTrue a X.env whole = (do let v ← whole; standAt a.pos; holding [v] (truthy v))) : STt Φ XR M X W a ca := by
  obtain ⟨ta, pa, ha⟩ := ha
  refine ⟨_, pt_truth pa he, fun R0 H0 R H σ ρ Q s p => ?_⟩
  refine ha R0 H0 R H σ ρ _ s (p.first fun x vx R1 H1 e1 r1 p1 => ?_)
  cases hk : truR x with
  | ok k =>
    rw [hk] at p1
    exact ⟨k, bits_tru e1.sub r1 hk, p1 k R1 H1 (Ext.refl e1.sub) rfl⟩
  | exc c ps => cases x <;> cases hk
  | stuck => rw [hk] at p1; exact p1.elim
/-! ### argument lists, displays -/
theorem sl_nil {fl : Bool} {md : List Bool} : SL Φ XR M X W fl md [] .nil := ⟨_, pa_nil, fun R0 H0 R H σ ρ Q s p => PostE.here s.sub p .nil⟩
theorem sl_cons {fl : Bool} {md : List Bool} {e : Expr} {es : List Expr} {c : CE} {cs : CL} (h : SE Φ XR M X W (md.headD fl) e c) (t : SL Φ XR M X W fl md.tail es cs) (hs : starEach (e :: es) X.env = (false, eval e X.env) :: starEach es X.env) : SL Φ XR M X W fl md (e :: es) (.cons c cs) := by
  obtain ⟨te, pe, h⟩ := h
  obtain ⟨tr, pr, t⟩ := t
  refine ⟨_, pa_cons pe pr hs, fun R0 H0 R H σ ρ Q s p => ?_⟩
  simp only [evs] at p
  refine h R0 H0 R H σ ρ _ s (p.first fun x vx R1 H1 e1 r1 p1 => ?_)
  refine t R0 H0 R1 H1 σ ρ _ (s.later e1) (p1.first fun xs vxs R2 H2 e2 r2 p2 => ?_)
  exact PostE.here e2.sub p2 (.cons (r1.later e2) r2)
theorem se_tup {es : List Expr} {cs : CL} {k : Nat} {pos : Pos} {fl : Bool} (h : SL Φ XR M X W true [] es cs) : SE Φ XR M X W fl (.Tuple es k pos) (.tup cs) := by
  obtain ⟨t, pt, h⟩ := h
  refine ⟨_, pe_tup pt, fun R0 H0 R H σ ρ Q s p => ?_⟩
  simp only [ev] at p
  refine h R0 H0 R H σ ρ _ s (p.first fun xs vxs R1 H1 e1 r1 p1 => ?_)
  obtain ⟨hz, p1⟩ := p1.iff
  refine ⟨by rw [r1.length, ← SZ_line]; exact hz, fun q hq => ?_⟩
  exact p1 _ _ _ (Ext.laid e1.sub hq) (RepF.of (.tup upd_same (r1.full.mono (same_upd (e1.sub.free hq)))) fl)
/-- a new list, a new dict that nobody else holds -/
def RepN (K : PySem.W.Frag) (H : Hp) : Hp → Hp → V → D → Prop := fun R' H' v d => ∃ a o, v = .ref a ∧ H a = none ∧ R' a = none ∧ H' a = some o ∧ OwnC K R' o d
theorem RepN.lst {K : PySem.W.Frag} {H R' H' : Hp} {a : Addr} {ds : List D} {vs : List V} (h1 : H a = none) (h2 : R' a = none) (h3 : H' a = some (.lst vs)) (h4 : Reps K R' vs ds) : RepN K H R' H' (.ref a) (.lst ds) :=
  ⟨a, _, rfl, h1, h2, h3, .inl ⟨ds, vs, rfl, rfl, h4⟩⟩
def SN (Φ : FEnv) (XR : XRel) (M : Ow) (X : Cx) (W : WX) (e : Expr) (c : CE) : Prop :=
  ∃ t : TE, PE X e t ∧ ∀ R0 H0 R H σ ρ Q, SR X.K M R0 H0 R H σ ρ → PostE XR R H (RepN X.K H) (ev Φ c ρ) Q (fun cls dx H' => W cls dx σ H') → t σ H Q
theorem SN.se {e : Expr} {c : CE} {fl : Bool} (h : SN Φ XR M X W e c) : SE Φ XR M X W fl e c := by
  obtain ⟨t, pe, h⟩ := h
  refine ⟨t, pe, fun R0 H0 R H σ ρ Q s p => h R0 H0 R H σ ρ Q s ?_⟩
  generalize ev Φ c ρ = q at p ⊢
  cases q with
  | ok d =>
    rintro v R' H' e ⟨a, o, rfl, h1, h2, h3, h4⟩
    exact p _ _ _ (e.froze h1 h3 h2) (RepF.of ((h4.mono (same_upd h2)).rep upd_same) fl)
  | exc c ps => exact p
  | stuck => exact p
theorem sn_lst {es : List Expr} {cs : CL} {pos : Pos} (h : SL Φ XR M X W true [] es cs) : SN Φ XR M X W (.List es pos) (.lst cs) := by
  obtain ⟨t, pt, h⟩ := h
  refine ⟨_, pe_lst pt, fun R0 H0 R H σ ρ Q s p => ?_⟩
  simp only [ev] at p
  refine h R0 H0 R H σ ρ _ s ?_
  generalize evs Φ cs ρ = r at p ⊢
  cases r with
  | ok xs =>
    simp only [Res.bind_ok] at p
    obtain ⟨hz, p⟩ := p.iff
    intro vxs R1 H1 e1 r1
    refine ⟨by rw [r1.length, ← SZ_line]; exact hz, fun q hq => ?_⟩
    exact p _ _ _ (e1.trans (Ext.new_ e1.sub hq)) (RepN.lst (e1.hh.free hq) (e1.sub.free hq) upd_same r1.full)
  | exc c ps => exact p
  | stuck => exact p
theorem sn_dnew {pos : Pos} : SN Φ XR M X W (.Dict [] [] pos) .dnew := by
  refine ⟨_, pe_dnewT, fun R0 H0 R H σ ρ Q s p => ?_⟩
  simp only [ev] at p
  intro q hq
  exact p _ _ _ (Ext.new_ s.sub hq) ⟨q, _, rfl, hq, s.sub.free hq, upd_same, .inr ⟨[], [], rfl, rfl, .nil⟩⟩
end
end Ps
end
section
set_option maxHeartbeats 4000000
/-! PsSE3: items, slices, calls, comprehensions. -/
namespace Ps
open PySem PySem.Spec PyProof.Rows L2
variable [Tbs]
section
variable {Φ : FEnv} {XR : XRel} {M : Ow} {X : Cx} {W : WX} {T : Tab} {N : List Str} {sc : Scope} {fnB : Str → Bool}
/-! ### items, slices -/
theorem idxR_n (x y : D) (c ps) : idxR x y ≠ .exc c ps := by
  intro h
  unfold idxR at h
  split at h
  · unfold ofOpt at h; split at h <;> cases h
  · unfold ofOpt at h; split at h <;> cases h
  · unfold ofOpt at h; split at h <;> cases h
  · cases h
theorem atP_inv {α : Type} {xs : List α} {i : Int} {a : α} (h : atP xs i = some a) : ∃ j, ixP xs.length i = some j ∧ xs[j]? = some a := by
  unfold atP at h
  cases e : ixP xs.length i with
  | none => rw [e] at h; cases h
  | some j => rw [e] at h; exact ⟨j, rfl, h⟩
theorem ix_sem : IxR X (semR2 X.K idxR) := by
  intro value slice pins s σ H vx vy v u Q I rx ry h hsub
  obtain ⟨R, x, y, sm, hx, hy, p⟩ := h
  unfold idxR at p
  split at p
  · rename_i xs i
    unfold ofOpt at p
    split at p
    · rename_i d e
      cases hy.int_inv
      obtain ⟨a, vs, rfl, hs, r⟩ := hx.lst_inv sm
      obtain ⟨j, e1, e2⟩ := atP_inv e
      obtain ⟨w, e3, rw'⟩ := r.get e2
      refine ix_list value slice pins s σ H _ _ v u Q I rx ry ⟨a, vs, i, w, rfl, rfl, hs, ?_, p.here sm rw'⟩ hsub
      show (ixN vs.length i).bind _ = _
      rw [r.length, ← ixP_eq, e1]
      exact e3
    · exact p.elim
  · rename_i xs i
    unfold ofOpt at p
    split at p
    · rename_i d e
      cases hy.int_inv
      obtain ⟨a, vs, rfl, hs, r⟩ := hx.tup_inv
      obtain ⟨j, e1, e2⟩ := atP_inv e
      obtain ⟨w, e3, rw'⟩ := r.get e2
      refine ix_tup value slice pins s σ H _ _ v u Q I rx ry ⟨a, vs, i, w, rfl, rfl, Same.seqT sm hs, ?_, p.here sm rw'⟩ hsub
      show (ixN vs.length i).bind _ = _
      rw [r.length, ← ixP_eq, e1]
      exact e3
    · exact p.elim
  · rename_i xs i
    unfold ofOpt at p
    split at p
    · rename_i d e
      cases hy.int_inv
      obtain ⟨ev, g⟩ := hx.str_inv
      subst ev
      obtain ⟨j, e1, e2⟩ := atP_inv e
      refine ix_str value slice pins s σ H _ _ v u Q I rx ry ⟨_, i, d, rfl, rfl, by rw [len_S, ← SZ_line]; exact g.1, ?_, p.here sm (Rep.S1 (g.mem (List.mem_of_getElem? e2)))⟩ hsub
      simpa [atP_eq] using e
    · exact p.elim
  · exact p.elim
theorem se_ix {a b : Expr} {ca cb : CE} {pos : Pos} {fl : Bool} (ha : SE Φ XR M X W false a ca) (hb : SE Φ XR M X W false b cb) (hp : PlainIx b) : SE Φ XR M X W fl (.Subscript a b pos) (.ix ca cb) := by
  obtain ⟨ta, pa, ha⟩ := ha
  obtain ⟨tb, pb, hb⟩ := hb
  refine ⟨_, pe_ix ix_sem pa pb hp, fun R0 H0 R H σ ρ Q s p => ?_⟩
  exact two (a := a) (b := b) ha hb s p fun x y vx vy R2 H2 e rx ry q => ⟨R2, x, y, e.sub, rx, ry, post0_of (idxR_n x y) q⟩
def semSl (K : PySem.W.Frag) : V → Option Int → Option Int → Hp → VK → Prop := fun vx lo hi H Q => ∃ R x, Same R H ∧ Shal K R H vx x ∧ Post0 K R H (slcR x lo hi) Q
theorem cut_mem {α : Type} {xs : List α} {lo hi : Option Int} {x : α} (h : x ∈ cutP xs lo hi) : x ∈ xs := List.mem_of_mem_drop (List.mem_of_mem_take h)
theorem cut_len {α : Type} (xs : List α) (lo hi : Option Int) : (cutP xs lo hi).length ≤ xs.length := by
  unfold cutP
  rw [List.length_take, List.length_drop]
  omega
theorem cut_all {α : Type} {xs : List α} {lo hi : Option Int} (h1 : bndP xs.length 0 lo = 0) (h2 : bndP xs.length xs.length hi = xs.length) : cutP xs lo hi = xs := by
  unfold cutP
  rw [h1, h2]
  simp
theorem sl_sem : SlR X (semSl X.K) := by
  intro pins s σ H vx v vl vu lo hi sl Q I rx hs pl pu h
  obtain ⟨R, x, sm, hx, p⟩ := h
  cases x with
  | lst ds =>
    obtain ⟨a, vs, rfl, hl, r⟩ := hx.lst_inv sm
    exact sl_list pins s σ H _ v vl vu lo hi sl Q I rx hs pl pu ⟨a, vs, rfl, hl, fun q hq => p _ _ _ (Ext.laid sm hq) (.lst (SqL.of upd_same) ((r.cut lo hi).mono (same_upd (sm.free hq))))⟩
  | tup ds =>
    obtain ⟨a, vs, rfl, hl', r⟩ := hx.tup_inv'
    have hl : SqT X.K R a vs := SqT.of hl'
    refine sl_tupA pins s σ H _ v vl vu lo hi sl Q I rx hs pl pu ⟨a, vs, rfl, Same.seqT sm hl, fun ⟨e1, e2⟩ => ?_, fun _ q hq => ?_⟩
    · rw [← bndP_eq, r.length] at e1 e2
      have p : Post0 X.K R H (.ok (.tup (cutP ds lo hi))) Q := p
      rw [cut_all e1 e2] at p
      exact p.here sm (.tup hl' r)
    · exact p _ _ _ (Ext.laid sm hq) (.tup upd_same ((r.cut lo hi).mono (same_upd (sm.free hq))))
  | str t =>
    obtain ⟨ev, g⟩ := hx.str_inv
    subst ev
    have g2 : GoodS (cutP t lo hi) := g.sub (cut_len t lo hi) fun c hc => cut_mem hc
    refine sl_str pins s σ H _ v vl vu lo hi sl Q I rx hs pl pu ⟨_, rfl, by rw [len_S, ← SZ_line]; exact g.1, p.here sm (.str ?_ g2)⟩
    unfold cutS cutP
    rw [bndP_eq, bndP_eq]
    simp [len_S]
  | _ => exact p.elim
theorem so_no : SO Φ XR M X W none .no := ⟨_, po_none, fun R0 H0 R H σ ρ Q s p => PostE.here s.sub p rfl⟩
theorem so_yes {a : Expr} {ca : CE} (ha : SE Φ XR M X W false a ca) : SO Φ XR M X W (some a) (.yes ca) := by
  obtain ⟨ta, pa, ha⟩ := ha
  refine ⟨_, po_some pa, fun R0 H0 R H σ ρ Q s p => ?_⟩
  simp only [evo] at p
  refine ha R0 H0 R H σ ρ _ s (p.first fun x vx R1 H1 e1 r1 p1 => ?_)
  cases x with
  | int i =>
    cases r1.shal.int_inv
    exact ⟨i, rfl, PostE.here e1.sub p1 rfl⟩
  | _ => exact p1.elim
theorem se_slc {a : Expr} {lo hi : Option Expr} {ca : CE} {cl ch : CO} {p2 pos : Pos} {fl : Bool} (ha : SE Φ XR M X W false a ca) (hl : SO Φ XR M X W lo cl) (hh : SO Φ XR M X W hi ch) :
    SE Φ XR M X W fl (.Subscript a (.Slice lo hi none p2) pos) (.slc ca cl ch) := by
  obtain ⟨ta, pa, ha⟩ := ha
  obtain ⟨tl, pl, hl⟩ := hl
  obtain ⟨th, ph, hh⟩ := hh
  refine ⟨_, pe_slice sl_sem pa pl ph, fun R0 H0 R H σ ρ Q s p => ?_⟩
  simp only [ev] at p
  refine ha R0 H0 R H σ ρ _ s (p.first fun x vx R1 H1 e1 r1 p1 => ?_)
  refine hl R0 H0 R1 H1 σ ρ _ (s.later e1) (p1.first fun l vl R2 H2 e2 r2 p2 => ?_)
  subst r2
  refine hh R0 H0 R2 H2 σ ρ _ ((s.later e1).later e2) (p2.first fun h vh R3 H3 e3 r3 p3 => ?_)
  subst r3
  refine ⟨R3, x, e3.sub, (r1.shal.later e2).later e3, post0_of (fl := fl) (fun c ps z => ?_) p3⟩
  cases x <;> cases z
/-! ### calls -/
theorem clOf_ev {ρ : Rho} : ∀ ds : List D, evs Φ (clOf ds) ρ = .ok ds
  | [] => rfl
  | d :: ds => by simp only [clOf, evs, ev, clOf_ev ds, Res.bind_ok]
theorem appL_ev {ρ : Rho} {r : CL} {ds : List D} (hr : evs Φ r ρ = .ok ds) : ∀ cs : CL, evs Φ (appL cs r) ρ = (evs Φ cs ρ).bind fun xs => .ok (xs ++ ds)
  | .nil => by simp only [appL, evs, hr, Res.bind_ok, List.nil_append]
  | .cons e es => by
    simp only [appL, evs, appL_ev hr es]
    cases ev Φ e ρ with
    | ok x =>
      simp only [Res.bind_ok]
      cases evs Φ es ρ with
      | ok xs => simp only [Res.bind_ok, List.cons_append]
      | exc c ps => rfl
      | stuck => rfl
    | exc c ps => rfl
    | stuck => rfl
theorem se_call (S : Site T Φ XR N sc fnB X W) {sg : Sig} {e : Expr} {es : List Expr} {cs : CL} {p pos : Pos} {fl : Bool} (hm : sg ∈ T.sigs) (hg : isG sc sg.name = true) (h : SL Φ XR M X W true sg.md (e :: es) cs)
    (hn : (es.length + 1) ≤ sg.par ∧ sg.par ≤ es.length + 1 + sg.dfl.length) (hio : sg.io = []) (hcls : sg.cls = none) (hl : ∀ ρ xs, evs Φ cs ρ = .ok xs → xs.length = es.length + 1)
    (he : starEach (e :: es) X.env = (false, eval e X.env) :: starEach es X.env) (hpl : (backTo pos (starEach es X.env)).any (·.1) = false) :
    SE Φ XR M X W fl (.Call (.Name sg.name p) (e :: es) [] pos) (.call sg.key (appL cs (clOf (sg.dfl.drop (sg.dfl.length + (es.length + 1) - sg.par))))) := by
  obtain ⟨t, pt, h⟩ := h
  obtain ⟨k, hr, hS⟩ := S.sigs
  have hr := hr.mono (Nat.le_succ k)
  obtain ⟨f, fd, ps, mf, kf, F, bnd⟩ := hS sg hm
  unfold AtF at mf
  rw [hcls] at mf
  unfold spS at F
  rw [if_pos hio] at F
  obtain ⟨dvs, ds, rv, rd, hb⟩ := bnd (sg.dfl.length + (es.length + 1) - sg.par) (by omega)
  obtain ⟨g1, g2, _⟩ := glob_ok S hg
  refine ⟨_, pe_callSD F hr g1 mf kf hb rv (fun σ => passAt S.takes σ) pt g2 he hpl, fun R0 H0 R H σ ρ Q s p => ?_⟩
  simp only [ev] at p
  rw [appL_ev (clOf_ev _)] at p
  refine h R0 H0 R H σ ρ _ s ?_
  generalize hx : evs Φ cs ρ = q at p ⊢
  cases q with
  | ok xs =>
    intro vs R1 H1 e1 r1
    have l1 := hl ρ xs hx
    have l2 := r1.length
    refine ⟨R1, xs ++ sg.dfl.drop (sg.dfl.length + (es.length + 1) - sg.par), ⟨e1.sub, (s.later e1).tab⟩, r1.append (rd R1), ?_, ?_⟩
    · have := (rd R1).length
      rw [List.length_drop] at this
      rw [List.length_append]
      omega
    · have p := PostE.later p e1
      simp only [Res.bind_ok] at p
      generalize Φ sg.key (xs ++ sg.dfl.drop (sg.dfl.length + (es.length + 1) - sg.par)) = r at p ⊢
      cases r with
      | ok d => exact fun v R' H' e h => p v R' H' e (RepF.of h fl)
      | exc c ps => exact p
      | stuck => exact p
  | exc c ps => exact p
  | stuck => exact p
/-! ### built-in functions -/
inductive Shals (K : PySem.W.Frag) (R H : Hp) : List V → List D → Prop
  | nil : Shals K R H [] []
  | cons {v : V} {vs : List V} {d : D} {ds : List D} (h : Shal K R H v d) (t : Shals K R H vs ds) : Shals K R H (v :: vs) (d :: ds)
theorem RepFs.shals {K : PySem.W.Frag} {fl : Bool} {md : List Bool} {R H : Hp} {vs : List V} {ds : List D} (h : RepFs K fl md R H vs ds) : Shals K R H vs ds := by
  induction h with
  | nil => exact .nil
  | cons h t ih => exact .cons h.shal ih
def semC (K : PySem.W.Frag) (f : List D → Res D) : List V → Hp → VK → Prop := fun vs H Q => ∃ R ds, Same R H ∧ Shals K R H vs ds ∧ Post0 K R H (f ds) Q
theorem ints_ok {K : PySem.W.Frag} {R : Hp} : ∀ {ds : List D} {ns : List Int} {vs : List V}, intsD ds = some ns → Reps K R vs ds → vs = ns.map V.int
  | [], ns, vs, h, r => by cases h; cases r; rfl
  | d :: ds, ns, vs, h, r => by
    cases r with
    | cons r1 r2 =>
      cases d with
      | int i =>
        cases r1
        simp only [intsD] at h
        cases e : intsD ds with
        | none => rw [e] at h; cases h
        | some ms =>
          rw [e] at h
          cases h
          rw [ints_ok e r2]
          rfl
      | _ => cases h
theorem bools_ok {K : PySem.W.Frag} {R : Hp} : ∀ {ds : List D} {ns : List Bool} {vs : List V}, boolsD ds = some ns → Reps K R vs ds → vs = ns.map V.bl
  | [], ns, vs, h, r => by cases h; cases r; rfl
  | d :: ds, ns, vs, h, r => by
    cases r with
    | cons r1 r2 =>
      cases d with
      | bl i =>
        cases r1
        simp only [boolsD] at h
        cases e : boolsD ds with
        | none => rw [e] at h; cases h
        | some ms =>
          rw [e] at h
          cases h
          rw [bools_ok e r2]
          rfl
      | _ => cases h
theorem strs_ok {K : PySem.W.Frag} {R : Hp} : ∀ {ds : List D} {ns : List (List Nat)} {vs : List V}, strsD ds = some ns → Reps K R vs ds → vs = (ns.map fun s => (⟨s.toArray⟩ : Str)).map V.str ∧ ∀ s ∈ ns, GoodS s
  | [], ns, vs, h, r => by cases h; cases r; exact ⟨rfl, fun s hs => by cases hs⟩
  | d :: ds, ns, vs, h, r => by
    cases r with
    | cons r1 r2 =>
      cases d with
      | str i =>
        cases r1 with
        | str e1 g =>
          simp only [strsD] at h
          cases e : strsD ds with
          | none => rw [e] at h; cases h
          | some ms =>
            rw [e] at h
            cases h
            obtain ⟨e2, g2⟩ := strs_ok e r2
            rw [e2, str_eta e1]
            exact ⟨rfl, fun s hs => by
              rcases List.mem_cons.mp hs with q | q
              · rw [q]; exact g
              · exact g2 s q⟩
      | _ => cases h
/-! ### sorted -/
section
variable {α : Type} {le : α → α → Bool}
theorem insB_perm (n : α) : ∀ l : List α, (insB le n l).Perm (n :: l)
  | [] => List.Perm.refl _
  | m :: r => by
    unfold insB
    split
    · exact List.Perm.refl _
    · exact ((insB_perm n r).cons m).trans (List.Perm.swap n m r)
theorem srtB_perm : ∀ l : List α, (srtB le l).Perm l
  | [] => List.Perm.refl _
  | n :: r => (insB_perm n _).trans ((srtB_perm r).cons n)
theorem insB_sorted (tot : ∀ a b, le a b = true ∨ le b a = true) (tr : ∀ a b c, le a b = true → le b c = true → le a c = true) (n : α) : ∀ l : List α, l.Pairwise (fun a b => le a b = true) → (insB le n l).Pairwise (fun a b => le a b = true)
  | [], _ => List.pairwise_singleton _ _
  | m :: r, h => by
    obtain ⟨h1, h2⟩ := List.pairwise_cons.mp h
    unfold insB
    split
    · rename_i q
      refine List.pairwise_cons.mpr ⟨fun x hx => ?_, h⟩
      rcases List.mem_cons.mp hx with e | e
      · rw [e]; exact q
      · exact tr _ _ _ q (h1 x e)
    · rename_i q
      have q' : le m n = true := (tot n m).resolve_left q
      refine List.pairwise_cons.mpr ⟨fun x hx => ?_, insB_sorted tot tr n r h2⟩
      rcases List.mem_cons.mp ((insB_perm n r).mem_iff.mp hx) with e | e
      · rw [e]; exact q'
      · exact h1 x e
theorem srtB_sorted (tot : ∀ a b, le a b = true ∨ le b a = true) (tr : ∀ a b c, le a b = true → le b c = true → le a c = true) : ∀ l : List α, (srtB le l).Pairwise (fun a b => le a b = true)
  | [] => .nil
  | n :: r => insB_sorted tot tr n _ (srtB_sorted tot tr r)
theorem perm_uniq (anti : ∀ a b, le a b = true → le b a = true → a = b) : ∀ {a b : List α}, a.Pairwise (fun a b => le a b = true) → b.Pairwise (fun a b => le a b = true) → a.Perm b → a = b
  | [], b, _, _, h => (List.Perm.nil_eq h)
  | x :: xs, [], _, _, h => by have := h.length_eq; simp at this
  | x :: xs, y :: ys, h1, h2, h => by
    obtain ⟨p1, p2⟩ := List.pairwise_cons.mp h1
    obtain ⟨q1, q2⟩ := List.pairwise_cons.mp h2
    have e : x = y := by
      rcases List.mem_cons.mp (h.mem_iff.mp (List.mem_cons_self (a := x))) with e | e
      · exact e
      · rcases List.mem_cons.mp (h.mem_iff.mpr (List.mem_cons_self (a := y))) with e' | e'
        · exact e'.symm
        · exact anti _ _ (p1 y e') (q1 x e)
    subst e
    rw [perm_uniq anti p2 q2 (List.Perm.cons_inv h)]
end
theorem leI_tot (a b : Int) : decide (a ≤ b) = true ∨ decide (b ≤ a) = true := by simp only [decide_eq_true_eq]; omega
theorem leI_tr (a b c : Int) (h : decide (a ≤ b) = true) (h' : decide (b ≤ c) = true) : decide (a ≤ c) = true := by simp only [decide_eq_true_eq] at *; omega
theorem leI_anti (a b : Int) (h : decide (a ≤ b) = true) (h' : decide (b ≤ a) = true) : a = b := by simp only [decide_eq_true_eq] at *; omega
theorem leP_tot (a b : Int × Int) : leP a b = true ∨ leP b a = true := by simp only [leP, decide_eq_true_eq]; omega
theorem leP_tr (a b c : Int × Int) (h : leP a b = true) (h' : leP b c = true) : leP a c = true := by simp only [leP, decide_eq_true_eq] at *; omega
theorem leP_anti (a b : Int × Int) (h : leP a b = true) (h' : leP b a = true) : a = b := by
  simp only [leP, decide_eq_true_eq] at *
  exact Prod.ext (by omega) (by omega)
theorem sortR_n (xs : List D) (c ps) : sortR xs ≠ .exc c ps := by
  intro h
  unfold sortR at h
  split at h
  · cases h
  · unfold ofOpt at h
    split at h <;> cases h
theorem pairs_len : ∀ {zs : List D} {ps : List (Int × Int)}, pairsD zs = some ps → zs = ps.map fun p => .tup [.int p.1, .int p.2]
  | [], ps, h => by cases h; rfl
  | z :: zs, ps, h => by
    unfold pairsD at h
    split at h
    · rename_i e
      cases e
    · rename_i i j r e
      injection e with e1 e2
      subst e1 e2
      cases e3 : pairsD zs with
      | none => rw [e3] at h; cases h
      | some qs =>
        rw [e3] at h
        cases h
        rw [pairs_len e3]
        rfl
    · cases h
/-- the pair that a value tells -/
def kP (R : Hp) : V → Int × Int
  | .ref t => match R t with
    | some (.tup [.int i, .int j]) => (i, j)
    | _ => (0, 0)
  | _ => (0, 0)
theorem kP_rep {K : PySem.W.Frag} {R : Hp} {v : V} {i j : Int} (h : Rep K R v (.tup [.int i, .int j])) : kP R v = (i, j) ∧ ∃ t, v = .ref t ∧ R t = some (.tup [.int i, .int j]) := by
  cases h with
  | tup h r =>
    cases r with
    | cons r1 r =>
      cases r with
      | cons r2 r =>
        cases r
        cases r1
        cases r2
        exact ⟨by simp only [kP, h], _, rfl, h⟩
theorem kP_all {K : PySem.W.Frag} {R : Hp} : ∀ {vs : List V} {ps : List (Int × Int)}, Reps K R vs (ps.map fun p => .tup [.int p.1, .int p.2]) → vs.map (kP R) = ps ∧ ∀ v ∈ vs, ∃ t, v = .ref t ∧ R t = some (.tup [.int (kP R v).1, .int (kP R v).2])
  | [], [], _ => ⟨rfl, fun v hv => by cases hv⟩
  | [], p :: ps, h => by cases h
  | v :: vs, [], h => by cases h
  | v :: vs, p :: ps, h => by
    cases h with
    | cons h t =>
      obtain ⟨e1, t1, e2, e3⟩ := kP_rep h
      obtain ⟨i1, i2⟩ := kP_all t
      refine ⟨by rw [List.map_cons, i1, e1], fun w hw => ?_⟩
      rcases List.mem_cons.mp hw with z | z
      · subst z
        rw [e1]
        exact ⟨t1, e2, e3⟩
      · exact i2 w z
theorem kP_reps {K : PySem.W.Frag} {R : Hp} : ∀ {ys : List V}, (∀ v ∈ ys, ∃ t, v = .ref t ∧ R t = some (.tup [.int (kP R v).1, .int (kP R v).2])) → Reps K R ys ((ys.map (kP R)).map fun p => .tup [.int p.1, .int p.2])
  | [], _ => .nil
  | y :: ys, h => by
    obtain ⟨t, e, e2⟩ := h y (by simp)
    refine .cons ?_ (kP_reps fun v hv => h v (List.mem_cons_of_mem _ hv))
    rw [e] at e2 ⊢
    exact .tup e2 (.cons (.int _) (.cons (.int _) .nil))
theorem sorted_sem {a : Addr} {vs : List V} {zs : List D} {R H : Hp} {Q : VK} (sm : Same R H) (hs : SqL X.K H a vs) (rr : Reps X.K R vs zs) (p : Post0 X.K R H (sortR zs) Q) : rSortedI X.K [V.ref a] H Q ∨ rSortedPO X.K [V.ref a] H Q := by
  unfold sortR at p
  split at p
  · rename_i ns e
    have ev := ints_ok e rr
    subst ev
    refine .inl ⟨a, ns, rfl, hs, fun ms q h1 h2 hq => ?_⟩
    have em : ms = srtB (fun i j => decide (i ≤ j)) ns := perm_uniq (le := fun i j => decide (i ≤ j)) leI_anti (h2.imp fun {a b} h => decide_eq_true h) (srtB_sorted leI_tot leI_tr ns) (h1.trans (srtB_perm ns).symm)
    subst em
    exact p _ _ _ (Ext.laid sm hq) (.lst (SqL.of upd_same) (Reps.of_ints _))
  · cases e : pairsD zs with
    | none => rw [e] at p; exact p.elim
    | some ps =>
      rw [e] at p
      have ez := pairs_len e
      subst ez
      obtain ⟨k1, k2⟩ := kP_all rr
      refine .inr ⟨a, vs, kP R, rfl, hs, fun v hv => ?_, fun ys q h1 h2 hq => ?_⟩
      · obtain ⟨t, e1, e2⟩ := k2 v hv
        exact ⟨t, e1, sm _ _ e2⟩
      · have em : ys.map (kP R) = srtB leP ps := by
          refine perm_uniq leP_anti ?_ (srtB_sorted leP_tot leP_tr ps) ?_
          · rw [List.pairwise_map]
            refine h1.imp fun {x y} h => ?_
            have h := SrtO.lexB_no.mp h
            simp only [leP, decide_eq_true_eq]
            omega
          · have := h2.perm.map (kP R)
            rw [k1] at this
            exact this.trans (srtB_perm ps).symm
        have ry := kP_reps (K := X.K) (R := R) (ys := ys) fun v hv => k2 v (h2.perm.mem_iff.mp hv)
        rw [em] at ry
        exact p _ _ _ (Ext.laid sm hq) (.lst (SqL.of upd_same) (ry.mono (same_upd (sm.free hq))))
theorem sorted_semT {a : Addr} {vs : List V} {zs : List D} {R H : Hp} {Q : VK} (sm : Same R H) (hs : H a = some (.tup vs)) (rr : Reps X.K R vs zs) (p : Post0 X.K R H ((ofOpt (pairsD zs)).bind fun ps => .ok (.lst ((srtB leP ps).map fun p => .tup [.int p.1, .int p.2]))) Q) : rSortedPT X.K [V.ref a] H Q := by
  cases e : pairsD zs with
  | none => rw [e] at p; exact p.elim
  | some ps =>
    rw [e] at p
    have ez := pairs_len e
    subst ez
    obtain ⟨k1, k2⟩ := kP_all rr
    refine ⟨a, vs, kP R, rfl, hs, fun v hv => ?_, fun ys q h1 h2 hq => ?_⟩
    · obtain ⟨t, e1, e2⟩ := k2 v hv
      exact ⟨t, e1, sm _ _ e2⟩
    · have em : ys.map (kP R) = srtB leP ps := by
        refine perm_uniq leP_anti ?_ (srtB_sorted leP_tot leP_tr ps) ?_
        · rw [List.pairwise_map]
          refine h1.imp fun {x y} h => ?_
          have h := SrtO.lexB_no.mp h
          simp only [leP, decide_eq_true_eq]
          omega
        · have := h2.perm.map (kP R)
          rw [k1] at this
          exact this.trans (srtB_perm ps).symm
      have ry := kP_reps (K := X.K) (R := R) (ys := ys) fun v hv => k2 v (h2.perm.mem_iff.mp hv)
      rw [em] at ry
      exact p _ _ _ (Ext.laid sm hq) (.lst (SqL.of upd_same) (ry.mono (same_upd (sm.free hq))))
theorem min1R_n (xs : List D) (c ps) : min1R xs ≠ .exc c ps := by
  intro h
  unfold min1R at h
  split at h
  · revert h; unfold ofOpt; split <;> intro h <;> cases h
  · unfold minR at h
    split at h
    · cases h
    · split at h <;> cases h
theorem bltR_n (f : BF) (xs : List D) (c ps) : bltR f xs ≠ .exc c ps := by
  intro h
  unfold bltR at h
  split at h <;> first
    | (cases h; done)
    | exact sortR_n _ _ _ h
    | exact min1R_n _ _ _ h
    | (split at h <;> cases h; done)
    | (revert h; unfold ofOpt; split <;> intro h <;> first | (cases h; done) | (simp only [Res.bind_ok] at h; split at h <;> cases h))
/-- which of them are types -/
def bfTy : BF → Option String
  | .tuple => some "tuple"
  | .list => some "list"
  | .int => some "int"
  | .str => some "str"
  | _ => none
def bfId : BF → Option String
  | .len => some "len"
  | .max2 => some "max"
  | .min2 => some "min"
  | .sum => some "sum"
  | .all => some "all"
  | .max1 => some "max"
  | .min1 => some "min"
  | .sorted => some "sorted"
  | _ => none
theorem Reps.sgn {K : PySem.W.Frag} {R : Hp} {z : List Nat} (g : GoodS z) : Reps K R (sgnV ⟨z.toArray⟩) (z.map fun c => .str [c]) := by
  unfold sgnV
  simp only
  have : ∀ l : List Nat, (∀ c ∈ l, c ∈ z) → Reps K R (l.map fun c => V.str ⟨#[c]⟩) (l.map fun c => D.str [c]) := fun l => by
    induction l with
    | nil => exact fun _ => .nil
    | cons c l ih =>
      intro h
      refine .cons (.str (by simp) ⟨?_, ?_⟩) (ih fun x hx => h x (List.mem_cons_of_mem _ hx))
      · have := List.length_pos_of_mem (h c (by simp))
        have := g.1
        simp only [List.length_cons, List.length_nil]
        omega
      · simpa using g.mem (h c (by simp))
  exact this z fun _ h => h
theorem blt_ty (hc : X.calm = true) {f : BF} {t : String} (h : bfTy f = some t) : CallR X (.type t) (semC X.K (bltR f)) := by
  intro pins s σ H xs us Q I r hh
  obtain ⟨R, ds, sm, rs, p⟩ := hh
  cases f <;> first | (cases h; done) | skip
  all_goals (have h' := Option.some.inj h; subst h')
  · -- tuple
    cases rs with
    | nil => exact p.elim
    | cons h1 t1 =>
      rename_i d ds
      cases t1 with
      | cons _ _ => cases d <;> exact p.elim
      | nil =>
        cases d with
        | tup zs =>
          obtain ⟨a, vs, rfl, hs', rr⟩ := h1.tup_inv'
          have hs : SqT X.K R a vs := SqT.of hs'
          exact call_tuple_of pins s σ H _ us Q I r ⟨a, vs, rfl, .inr ⟨Same.seqT sm hs, p.here sm (.tup hs' rr)⟩⟩
        | lst zs =>
          obtain ⟨a, vs, rfl, hs, rr⟩ := h1.lst_inv sm
          exact call_tuple_of pins s σ H _ us Q I r ⟨a, vs, rfl, .inl ⟨hs, fun q hq => p _ _ _ (Ext.laid sm hq) (.tup upd_same (rr.mono (same_upd (sm.free hq))))⟩⟩
        | str z =>
          obtain ⟨rfl, g⟩ := h1.str_inv
          exact call_tuple_text hc pins s σ H _ us Q I r ⟨_, rfl, by rw [← SZ_line]; simpa using g.1, fun q hq => p _ _ _ (Ext.laid sm hq) (.tup upd_same (Reps.sgn g))⟩
        | _ => exact p.elim
  · -- list
    cases rs with
    | nil => exact p.elim
    | cons h1 t1 =>
      rename_i d ds
      cases t1 with
      | cons _ _ => cases d <;> exact p.elim
      | nil =>
        cases d with
        | tup zs =>
          obtain ⟨a, vs, rfl, hs, rr⟩ := h1.tup_inv
          exact call_list_of pins s σ H _ us Q I r ⟨a, vs, rfl, .inr (Same.seqT sm hs), fun q hq => p _ _ _ (Ext.laid sm hq) (.lst (SqL.of upd_same) (rr.mono (same_upd (sm.free hq))))⟩
        | lst zs =>
          obtain ⟨a, vs, rfl, hs, rr⟩ := h1.lst_inv sm
          exact call_list_of pins s σ H _ us Q I r ⟨a, vs, rfl, .inl hs, fun q hq => p _ _ _ (Ext.laid sm hq) (.lst (SqL.of upd_same) (rr.mono (same_upd (sm.free hq))))⟩
        | str z =>
          obtain ⟨rfl, g⟩ := h1.str_inv
          exact call_list_text hc pins s σ H _ us Q I r ⟨_, rfl, by rw [← SZ_line]; simpa using g.1, fun q hq => p _ _ _ (Ext.laid sm hq) (.lst (SqL.of upd_same) (Reps.sgn g))⟩
        | _ => exact p.elim
  · -- int
    cases rs with
    | nil => exact p.elim
    | cons h1 t1 =>
      rename_i d ds
      cases t1 with
      | cons _ _ => cases d <;> exact p.elim
      | nil =>
        cases d with
        | int i =>
          cases h1.int_inv
          exact call_int1 pins s σ H _ us Q I r (.inl ⟨i, rfl, p.here sm (.int _)⟩)
        | bl i =>
          cases h1.bl_inv
          exact call_int1 pins s σ H _ us Q I r (.inr ⟨i, rfl, p.here sm (.int _)⟩)
        | str z =>
          obtain ⟨rfl, g⟩ := h1.str_inv
          have p : Post0 X.K R H (if z ≠ [] ∧ z.length ≤ 640 ∧ figs z = true then .ok (.int (decV z : Nat)) else .stuck) Q := p
          by_cases c : z ≠ [] ∧ z.length ≤ 640 ∧ figs z = true
          · rw [if_pos c] at p
            refine call_int_str pins s σ H _ us Q I r ⟨_, _, rfl, PySem.intText_digits (x := ⟨z.toArray⟩) (fun d hd => of_decide_eq_true (List.all_eq_true.mp c.2.2 d hd)) c.1 (by rw [len_S]; omega), by rw [len_S]; exact c.2.1, ?_⟩
            exact p.here sm (.int _)
          · rw [if_neg c] at p
            exact p.elim
        | _ => exact p.elim
  · -- str
    cases rs with
    | nil => exact p.elim
    | cons h1 t1 =>
      rename_i d ds
      cases t1 with
      | cons _ _ => cases d <;> exact p.elim
      | nil =>
        cases d with
        | int i =>
          cases h1.int_inv
          have p : Post0 X.K R H (if 0 ≤ i ∧ bitsI i ≤ 1900 then .ok (.str (decL i.toNat)) else .stuck) Q := p
          by_cases c : 0 ≤ i ∧ bitsI i ≤ 1900
          · rw [if_pos c] at p
            have hb : i.natAbs.log2 < 1900 := by
              have := c.2
              unfold bitsI at this
              split at this
              · rename_i z; subst z; decide
              · omega
            refine call_str_int pins s σ H _ us Q I r ⟨i, rfl, by omega, p.here sm ?_⟩
            obtain ⟨n, rfl⟩ := Int.eq_ofNat_of_zero_le c.1
            refine .str (TL.tl_num n) ⟨?_, List.all_eq_true.mpr fun d hd => ?_⟩
            · have hn : n < 2 ^ 1900 := by
                have : n.log2 < 1900 := hb
                exact Nat.lt_of_lt_of_le Nat.lt_log2_self (Nat.pow_le_pow_right (by decide) this)
              have h10 : n < 10 ^ 600 := Nat.lt_of_lt_of_le hn (by decide +kernel)
              exact Nat.le_trans (TL.numL_len (by decide) h10) (by decide)
            · have := TL.numL_digits n d hd
              exact decide_eq_true (by omega)
          · rw [if_neg c] at p
            exact p.elim
        | _ => exact p.elim
theorem blt_id (hc : X.calm = true) (hu : X.A.units + 65 < cLine) {f : BF} {t : String} (h : bfId f = some t) : CallR X (.builtin t) (semC X.K (bltR f)) := by
  intro pins s σ H xs us Q I r hh
  obtain ⟨R, ds, sm, rs, p⟩ := hh
  cases f <;> first | (cases h; done) | skip
  all_goals (have h' := Option.some.inj h; subst h')
  · -- len
    cases rs with
    | nil => exact p.elim
    | cons h1 t1 =>
      rename_i d ds
      cases t1 with
      | cons _ _ => cases d <;> exact p.elim
      | nil =>
        cases d with
        | tup zs =>
          obtain ⟨a, vs, rfl, hs, rr⟩ := h1.tup_inv
          exact call_len pins s σ H _ us Q I r ⟨_, zs.length, rfl, .inr ⟨vs, Same.seqT sm hs, rr.length.symm⟩, p.here sm (.int _)⟩
        | lst zs =>
          obtain ⟨a, vs, rfl, hs, rr⟩ := h1.lst_inv sm
          exact call_len pins s σ H _ us Q I r ⟨_, zs.length, rfl, .inl ⟨vs, hs, rr.length.symm⟩, p.here sm (.int _)⟩
        | str t =>
          obtain ⟨ev, g⟩ := h1.str_inv
          subst ev
          exact call_len pins s σ H _ us Q I r ⟨_, t.length, rfl, ⟨by rw [len_S, ← SZ_line]; exact g.1, (len_S t).symm⟩, p.here sm (.int _)⟩
        | _ => exact p.elim
  · -- max
    cases rs with
    | nil => exact p.elim
    | cons h1 t1 =>
      rename_i d ds
      cases t1 with
      | nil => cases d <;> exact p.elim
      | cons h2 t2 =>
        rename_i d2 ds2
        cases d with
        | int i =>
          cases d2 with
          | int j =>
            cases t2 with
            | nil =>
              cases h1.int_inv
              cases h2.int_inv
              exact call_max2 hc pins s σ H _ us Q I r ⟨i, j, rfl, p.here sm (.int _)⟩
            | cons _ _ => exact p.elim
          | _ => exact p.elim
        | _ => exact p.elim
  · -- min
    cases rs with
    | nil => exact p.elim
    | cons h1 t1 =>
      rename_i d ds
      cases t1 with
      | nil => cases d <;> exact p.elim
      | cons h2 t2 =>
        rename_i d2 ds2
        cases d with
        | int i =>
          cases d2 with
          | int j =>
            cases t2 with
            | nil =>
              cases h1.int_inv
              cases h2.int_inv
              exact call_min2 hc pins s σ H _ us Q I r ⟨i, j, rfl, p.here sm (.int _)⟩
            | cons _ _ => exact p.elim
          | _ => exact p.elim
        | _ => exact p.elim
  · -- sum
    cases rs with
    | nil => exact p.elim
    | cons h1 t1 =>
      rename_i d ds
      cases t1 with
      | cons _ _ => cases d <;> exact p.elim
      | nil =>
        cases d with
        | lst zs =>
          obtain ⟨a, vs, rfl, hs, rr⟩ := h1.lst_inv sm
          simp only [bltR] at p
          cases e : intsD zs with
          | none => rw [e] at p; exact p.elim
          | some ns =>
            rw [e] at p
            have ev := ints_ok e rr
            subst ev
            exact cr_sum hc pins s σ H _ us Q I r ⟨a, ns, rfl, hs, p.here sm (.int _)⟩
        | _ => exact p.elim
  · -- all
    cases rs with
    | nil => exact p.elim
    | cons h1 t1 =>
      rename_i d ds
      cases t1 with
      | cons _ _ => cases d <;> exact p.elim
      | nil =>
        cases d with
        | lst zs =>
          obtain ⟨a, vs, rfl, hs, rr⟩ := h1.lst_inv sm
          simp only [bltR] at p
          cases e : boolsD zs with
          | none => rw [e] at p; exact p.elim
          | some ns =>
            rw [e] at p
            have ev := bools_ok e rr
            subst ev
            exact cr_all hc pins s σ H _ us Q I r ⟨a, ns, rfl, hs, p.here sm (.bl _)⟩
        | _ => exact p.elim
  · -- max
    cases rs with
    | nil => exact p.elim
    | cons h1 t1 =>
      rename_i d ds
      cases t1 with
      | cons _ _ => cases d <;> exact p.elim
      | nil =>
        cases d with
        | lst zs =>
          obtain ⟨a, vs, rfl, hs, rr⟩ := h1.lst_inv sm
          simp only [bltR] at p
          cases e : intsD zs with
          | none => rw [e] at p; exact p.elim
          | some ns =>
            rw [e] at p
            simp only [ofOpt, Res.bind_ok] at p
            have ev := ints_ok e rr
            subst ev
            cases em : ns.max? with
            | none => rw [em] at p; exact p.elim
            | some k =>
              rw [em] at p
              obtain ⟨k1, k2⟩ := List.max?_eq_some_iff.mp em
              refine cr_max hc pins s σ H _ us Q I r ⟨a, ns, rfl, hs, List.length_pos_of_mem k1, fun m hm hy => ?_⟩
              have e2 : m = k := by
                have q1 := hy k k1
                have q2 := k2 m hm
                omega
              subst e2
              exact p.here sm (.int _)
        | _ => exact p.elim
  · -- min
    cases rs with
    | nil => exact p.elim
    | cons h1 t1 =>
      rename_i d ds
      cases t1 with
      | cons _ _ => cases d <;> exact p.elim
      | nil =>
        cases d with
        | lst zs =>
          obtain ⟨a, vs, rfl, hs, rr⟩ := h1.lst_inv sm
          simp only [bltR, min1R] at p
          cases e : intsD zs with
          | none =>
            rw [e] at p
            unfold minR at p
            cases zs with
            | nil => exact p.elim
            | cons z zs =>
              simp only at p
              split at p
              · rename_i c
                exact cr_minD hc hu I r sm hs rr c.1 c.2 fun v rv => p _ _ _ (Ext.refl sm) rv
              · exact p.elim
          | some ns =>
            rw [e] at p
            simp only [ofOpt, Res.bind_ok] at p
            have ev := ints_ok e rr
            subst ev
            cases em : ns.min? with
            | none => rw [em] at p; exact p.elim
            | some k =>
              rw [em] at p
              obtain ⟨k1, k2⟩ := List.min?_eq_some_iff.mp em
              refine cr_min hc pins s σ H _ us Q I r ⟨a, ns, rfl, hs, List.length_pos_of_mem k1, fun m hm hy => ?_⟩
              have e2 : m = k := by
                have q1 := hy k k1
                have q2 := k2 m hm
                omega
              subst e2
              exact p.here sm (.int _)
        | _ => exact p.elim
  · -- sorted
    cases rs with
    | nil => exact p.elim
    | cons h1 t1 =>
      rename_i d ds
      cases t1 with
      | cons _ _ => cases d <;> exact p.elim
      | nil =>
        cases d with
        | lst zs =>
          obtain ⟨a, vs, rfl, hs, rr⟩ := h1.lst_inv sm
          rcases sorted_sem sm hs rr p with q | q
          · exact cr_sortedI pins s σ H _ us Q I r q
          · exact cr_sortedPO pins s σ H _ us Q I r q
        | tup zs =>
          obtain ⟨a, vs, rfl, hb, rr⟩ := h1.tup_inv'
          exact cr_sortedPT pins s σ H _ us Q I r (sorted_semT sm (sm _ _ hb) rr p)
        | _ => exact p.elim
theorem blt_core {f : BF} {cs : CL} {t : TA} {fl : Bool}
    (h : ∀ R0 H0 R H σ ρ Q, SR X.K M R0 H0 R H σ ρ → PostE XR R H (RepFs X.K false []) (evs Φ cs ρ) Q (fun cls dx H' => W cls dx σ H') → t σ H Q)
    {R0 H0 R H : Hp} {σ : L2.St} {ρ : Rho} {Q : VK} (s : SR X.K M R0 H0 R H σ ρ) (p : PostE XR R H (RepF X.K fl) (ev Φ (.blt f cs) ρ) Q (fun cls dx H' => W cls dx σ H')) :
    tCB (semC X.K (bltR f)) t σ H Q := by
  simp only [ev] at p
  exact h R0 H0 R H σ ρ _ s (p.first fun xs vs R1 H1 e1 r1 p1 => ⟨R1, xs, e1.sub, r1.shals, post0_of (bltR_n f xs) p1⟩)
theorem boot_str : bootBuiltins "str" = some (.type "str") := by decide +kernel
theorem boot_ty1 : bootBuiltins "tuple" = some (.type "tuple") ∧ bootBuiltins "list" = some (.type "list") ∧ bootBuiltins "int" = some (.type "int") := ⟨by decide +kernel, by decide +kernel, by decide +kernel⟩
theorem boot_id1 : bootBuiltins "len" = some (.builtin "len") ∧ bootBuiltins "max" = some (.builtin "max") ∧ bootBuiltins "min" = some (.builtin "min") ∧ bootBuiltins "sum" = some (.builtin "sum") ∧ bootBuiltins "all" = some (.builtin "all") :=
  ⟨by decide +kernel, by decide +kernel, by decide +kernel, by decide +kernel, by decide +kernel⟩
/-- what a name of a built-in function stands for -/
theorem bf_boot {x : Str} {n : Nat} {f : BF} (h : bfOf x n = some f) : x ∈ bltNames ∧ ((∃ t, bfTy f = some t ∧ bootBuiltins x = some (.type t)) ∨ ∃ t, bfId f = some t ∧ bootBuiltins x = some (.builtin t)) := by
  obtain ⟨b1, b2, b3⟩ := boot_ty1
  obtain ⟨c1, c2, c3, c4, c5⟩ := boot_id1
  unfold bfOf at h
  by_cases n1 : n = 1
  · rw [if_pos n1] at h
    by_cases e : x = ("len" : Str)
    · rw [if_pos e] at h; subst e; cases h; exact ⟨by simp [bltNames], .inr ⟨_, rfl, c1⟩⟩
    rw [if_neg e] at h
    by_cases e : x = ("tuple" : Str)
    · rw [if_pos e] at h; subst e; cases h; exact ⟨by simp [bltNames], .inl ⟨_, rfl, b1⟩⟩
    rw [if_neg e] at h
    by_cases e : x = ("list" : Str)
    · rw [if_pos e] at h; subst e; cases h; exact ⟨by simp [bltNames], .inl ⟨_, rfl, b2⟩⟩
    rw [if_neg e] at h
    by_cases e : x = ("int" : Str)
    · rw [if_pos e] at h; subst e; cases h; exact ⟨by simp [bltNames], .inl ⟨_, rfl, b3⟩⟩
    rw [if_neg e] at h
    by_cases e : x = ("sum" : Str)
    · rw [if_pos e] at h; subst e; cases h; exact ⟨by simp [bltNames], .inr ⟨_, rfl, c4⟩⟩
    rw [if_neg e] at h
    by_cases e : x = ("all" : Str)
    · rw [if_pos e] at h; subst e; cases h; exact ⟨by simp [bltNames], .inr ⟨_, rfl, c5⟩⟩
    rw [if_neg e] at h
    by_cases e : x = ("max" : Str)
    · rw [if_pos e] at h; subst e; cases h; exact ⟨by simp [bltNames], .inr ⟨_, rfl, c2⟩⟩
    rw [if_neg e] at h
    by_cases e : x = ("min" : Str)
    · rw [if_pos e] at h; subst e; cases h; exact ⟨by simp [bltNames], .inr ⟨_, rfl, c3⟩⟩
    rw [if_neg e] at h
    by_cases e : x = ("sorted" : Str)
    · rw [if_pos e] at h; subst e; cases h; exact ⟨by simp [bltNames], .inr ⟨_, rfl, by decide +kernel⟩⟩
    rw [if_neg e] at h
    by_cases e : x = ("str" : Str)
    · rw [if_pos e] at h; subst e; cases h; exact ⟨by simp [bltNames], .inl ⟨_, rfl, boot_str⟩⟩
    rw [if_neg e] at h
    cases h
  · rw [if_neg n1] at h
    by_cases n2 : n = 2
    · rw [if_pos n2] at h
      by_cases e : x = ("max" : Str)
      · rw [if_pos e] at h; subst e; cases h; exact ⟨by simp [bltNames], .inr ⟨_, rfl, c2⟩⟩
      rw [if_neg e] at h
      by_cases e : x = ("min" : Str)
      · rw [if_pos e] at h; subst e; cases h; exact ⟨by simp [bltNames], .inr ⟨_, rfl, c3⟩⟩
      rw [if_neg e] at h
      cases h
    · rw [if_neg n2] at h
      cases h
theorem se_blt (S : Site T Φ XR N sc fnB X W) {x : Str} {n : Nat} {f : BF} {e : Expr} {es : List Expr} {cs : CL} {p pos : Pos} {fl : Bool} (hf : bfOf x n = some f) (hg : isG sc x = true) (h : SL Φ XR M X W false [] (e :: es) cs)
    (he : starEach (e :: es) X.env = (false, eval e X.env) :: starEach es X.env) (hpl : (backTo pos (starEach es X.env)).any (·.1) = false) : SE Φ XR M X W fl (.Call (.Name x p) (e :: es) [] pos) (.blt f cs) := by
  obtain ⟨t, pt, h⟩ := h
  obtain ⟨g1, g2, g3⟩ := glob_ok S hg
  obtain ⟨hm, ⟨ty, h1, h2⟩ | ⟨ty, h1, h2⟩⟩ := bf_boot hf
  · exact ⟨_, pe_callTy (blt_ty S.calm h1) g1 (S.blt x hm) h2 pt g3 g2 he hpl, fun R0 H0 R H σ ρ Q s p => blt_core h s p⟩
  · exact ⟨_, pe_callB (blt_id S.calm S.room h1) g1 (S.blt x hm) h2 pt g3 g2 he hpl, fun R0 H0 R H σ ρ Q s p => blt_core h s p⟩
/-- list(x), nobody else holds it -/
theorem sn_list (S : Site T Φ XR N sc fnB X W) {x : Str} {n : Nat} {e : Expr} {es : List Expr} {cs : CL} {p pos : Pos} (hf : bfOf x n = some .list) (hg : isG sc x = true) (h : SL Φ XR M X W false [] (e :: es) cs)
    (he : starEach (e :: es) X.env = (false, eval e X.env) :: starEach es X.env) (hpl : (backTo pos (starEach es X.env)).any (·.1) = false) : SN Φ XR M X W (.Call (.Name x p) (e :: es) [] pos) (.blt .list cs) := by
  obtain ⟨t, pt, h⟩ := h
  obtain ⟨g1, g2, g3⟩ := glob_ok S hg
  obtain ⟨hm, ⟨ty, h1, h2⟩ | ⟨ty, h1, h2⟩⟩ := bf_boot hf
  · cases h1
    refine ⟨_, pe_callTy (CallR.or call_list_of (call_list_text S.calm)) g1 (S.blt x hm) h2 pt g3 g2 he hpl, fun R0 H0 R H σ ρ Q s p => ?_⟩
    simp only [ev] at p
    refine h R0 H0 R H σ ρ _ s ?_
    generalize evs Φ cs ρ = r at p ⊢
    cases r with
    | ok xs =>
      intro vs R1 H1 e1 r1
      simp only [Res.bind_ok] at p
      cases r1 with
      | nil => exact p.elim
      | cons h1 t1 =>
        rename_i d ds
        cases t1 with
        | cons _ _ => cases d <;> exact p.elim
        | nil =>
          cases d with
          | tup zs =>
            obtain ⟨a, vs, rfl, hs, rr⟩ := h1.shal.tup_inv
            exact .inl ⟨a, vs, rfl, .inr (Same.seqT e1.sub hs), fun q hq => p _ _ _ (e1.trans (Ext.new_ e1.sub hq)) (RepN.lst (e1.hh.free hq) (e1.sub.free hq) upd_same rr)⟩
          | lst zs =>
            obtain ⟨a, vs, rfl, hs, rr⟩ := h1.shal.lst_inv e1.sub
            exact .inl ⟨a, vs, rfl, .inl hs, fun q hq => p _ _ _ (e1.trans (Ext.new_ e1.sub hq)) (RepN.lst (e1.hh.free hq) (e1.sub.free hq) upd_same rr)⟩
          | str z =>
            obtain ⟨rfl, g⟩ := h1.shal.str_inv
            exact .inr ⟨_, rfl, by rw [← SZ_line]; simpa using g.1, fun q hq => p _ _ _ (e1.trans (Ext.new_ e1.sub hq)) (RepN.lst (e1.hh.free hq) (e1.sub.free hq) upd_same (Reps.sgn g))⟩
          | _ => exact p.elim
    | exc c ps => exact p
    | stuck => exact p
  · cases h1
/-! ### isinstance -/
def tyS : Ty → String
  | .str => "str"
  | .int => "int"
  | .bool => "bool"
  | .tuple => "tuple"
  | .list => "list"
theorem ty_boot {x : Str} {t : Ty} (h : tyOf x = some t) : x ∈ bltNames ∧ bootBuiltins x = some (.type (tyS t)) := by
  unfold tyOf at h
  by_cases e : x = ("str" : Str)
  · rw [if_pos e] at h; subst e; cases h; exact ⟨by simp [bltNames], by decide +kernel⟩
  rw [if_neg e] at h
  by_cases e : x = ("int" : Str)
  · rw [if_pos e] at h; subst e; cases h; exact ⟨by simp [bltNames], by decide +kernel⟩
  rw [if_neg e] at h
  by_cases e : x = ("bool" : Str)
  · rw [if_pos e] at h; subst e; cases h; exact ⟨by simp [bltNames], by decide +kernel⟩
  rw [if_neg e] at h
  by_cases e : x = ("tuple" : Str)
  · rw [if_pos e] at h; subst e; cases h; exact ⟨by simp [bltNames], by decide +kernel⟩
  rw [if_neg e] at h
  by_cases e : x = ("list" : Str)
  · rw [if_pos e] at h; subst e; cases h; exact ⟨by simp [bltNames], by decide +kernel⟩
  rw [if_neg e] at h
  cases h
theorem kit_all : (∀ t : Ty, kitB "NoneType" (tyS t) = some (isTy .non t)) ∧ (∀ t : Ty, kitB "bool" (tyS t) = some (isTy (.bl true) t)) ∧ (∀ t : Ty, kitB "int" (tyS t) = some (isTy (.int 0) t)) ∧
    (∀ t : Ty, kitB "str" (tyS t) = some (isTy (.str []) t)) ∧ (∀ t : Ty, kitB "tuple" (tyS t) = some (isTy (.tup []) t)) ∧ (∀ t : Ty, kitB "list" (tyS t) = some (isTy (.lst []) t)) := by
  refine ⟨fun t => ?_, fun t => ?_, fun t => ?_, fun t => ?_, fun t => ?_, fun t => ?_⟩ <;> cases t <;> decide +kernel
theorem kit_dic : ∀ t : Ty, kitB "dict" (tyS t) = some false := by intro t; cases t <;> decide +kernel
theorem tyx_L {K : PySem.W.Frag} {H : Hp} {a : Addr} {vs : List V} (h : SqL K H a vs) : TyX K H (.ref a) (.type "list") := by
  rcases h with (h | ⟨o, h⟩) | ⟨o, its, n, hk, hc, _⟩
  · exact .base (.lst h)
  · exact .base (.frz h)
  · exact .kList hk hc
theorem tyx_T {K : PySem.W.Frag} {H : Hp} {a : Addr} {vs : List V} (h : SqT K H a vs) : TyX K H (.ref a) (.type "tuple") := by
  rcases h with (h | ⟨o, h⟩) | ⟨o, its, n, hk, hc, _⟩
  · exact .base (.tup h)
  · exact .fTuple h
  · exact .kTuple hk hc
theorem tyx {K : PySem.W.Frag} {R H : Hp} {v : V} {d : D} (s : Same R H) (hr : Rep K R v d) (t : Ty) : ∃ u, TyX K H v (.type u) ∧ kitB u (tyS t) = some (isTy d t) := by
  have h : Shal K R H v d := hr.shal
  obtain ⟨k1, k2, k3, k4, k5, k6⟩ := kit_all
  cases d with
  | non => cases h.non_inv; exact ⟨_, .base .non, k1 t⟩
  | bl b => cases h.bl_inv; exact ⟨_, .base (.bl b), (k2 t).trans (by cases t <;> rfl)⟩
  | int b => cases h.int_inv; exact ⟨_, .base (.int b), (k3 t).trans (by cases t <;> rfl)⟩
  | str b => obtain ⟨e, _⟩ := h.str_inv; subst e; exact ⟨_, .base (.str _), (k4 t).trans (by cases t <;> rfl)⟩
  | tup ds => obtain ⟨a, vs, rfl, hs, _⟩ := h.tup_inv; exact ⟨_, tyx_T (Same.seqT s hs), (k5 t).trans (by cases t <;> rfl)⟩
  | lst ds => obtain ⟨a, vs, rfl, hs, _⟩ := h.lst_inv s; exact ⟨_, tyx_L hs, (k6 t).trans (by cases t <;> rfl)⟩
  | dic kvs => obtain ⟨a, tv, rfl, ha, _⟩ := h.dic_inv s; exact ⟨_, .base (.dT ha), (kit_dic t).trans (by cases t <;> rfl)⟩
  | dik kvs => cases hr
  | obj c fs => cases hr
theorem boot_isi : bootBuiltins "isinstance" = some (.builtin "isinstance") := by decide +kernel
theorem se_isi (S : Site T Φ XR N sc fnB X W) {a : Expr} {ca : CE} {x : Str} {t : Ty} {p p2 pos : Pos} {fl : Bool} (ht : tyOf x = some t) (hgi : isG sc "isinstance" = true) (hgt : isG sc x = true) (ha : SE Φ XR M X W true a ca)
    (hs : starEach [a, .Name x p2] X.env = (false, eval a X.env) :: starEach [.Name x p2] X.env) : SE Φ XR M X W fl (.Call (.Name "isinstance" p) [a, .Name x p2] [] pos) (.isi ca t) := by
  obtain ⟨ta, pa, ha⟩ := ha
  obtain ⟨g1, g2, g3⟩ := glob_ok S hgi
  obtain ⟨k1, k2, k3⟩ := glob_ok S hgt
  obtain ⟨hm, hb⟩ := ty_boot ht
  have pn : PE X (.Name x p2) (tC (.ty (tyS t))) := pe_bltn k1 (S.blt x hm) hb rfl k3 k2
  refine ⟨_, pe_callB call_isi g1 (S.blt _ (by simp [bltNames])) boot_isi (pa_cons pa (pa_cons pn pa_nil) hs) g3 g2 hs rfl, fun R0 H0 R H σ ρ Q s p => ?_⟩
  simp only [ev] at p
  refine ha R0 H0 R H σ ρ _ s (p.first fun y vy R1 H1 e1 r1 p1 => ?_)
  obtain ⟨u, ty, kt⟩ := tyx e1.sub r1 t
  exact ⟨vy, _, _, _, _, rfl, .ty _, ty, kit_ty kt, PostE.here e1.sub p1 (RepF.of (.bl _) fl)⟩
/-! ### a text joined -/
theorem joinL_TL (a : List Nat) : ∀ l : List (List Nat), TL.joinL (TL.tl ⟨a.toArray⟩) l = joinL a l
  | [] => rfl
  | [p] => rfl
  | p :: q :: r => by
    have ih := joinL_TL a (q :: r)
    simp only [TL.joinL, joinL]
    rw [ih]
    simp [TL.tl]
theorem join_L (a : List Nat) : ∀ ss : List (List Nat), (Txt.join ⟨a.toArray⟩ (ss.map fun s => (⟨s.toArray⟩ : Str))).cps.toList = joinL a ss := by
  intro ss
  rw [TL.join_eq]
  show TL.tl _ = _
  rw [TL.tl_join]
  have e : (ss.map fun s => (⟨s.toArray⟩ : Str)).map TL.tl = ss := by
    rw [List.map_map]
    have : (TL.tl ∘ fun s : List Nat => (⟨s.toArray⟩ : Str)) = id := by funext s; simp [TL.tl]
    rw [this, List.map_id]
  rw [e]
  exact joinL_TL a ss
theorem joinL_good {a : List Nat} (ga : ∀ c ∈ a, c < 0x110000) : ∀ {ss : List (List Nat)}, (∀ s ∈ ss, GoodS s) → ∀ c ∈ joinL a ss, c < 0x110000
  | [], _, c, h => by cases h
  | [p], g, c, h => (g p (by simp)).mem h
  | p :: q :: r, g, c, h => by
    simp only [joinL, List.mem_append] at h
    rcases h with (h | h) | h
    · exact (g p (by simp)).mem h
    · exact ga c h
    · exact joinL_good ga (ss := q :: r) (fun s hs => g s (List.mem_cons_of_mem _ hs)) c h
theorem joinL_len {a : List Nat} : ∀ ss : List (List Nat), (joinL a ss).length ≤ (ss.map (·.length)).sum + ss.length * a.length
  | [] => by simp [joinL]
  | [p] => by simp [joinL]
  | p :: q :: r => by
    have ih := joinL_len (a := a) (q :: r)
    simp only [joinL, List.length_append, List.map_cons, List.sum_cons, List.length_cons, Nat.add_mul] at ih ⊢
    omega
theorem sum_S (ss : List (List Nat)) : ((ss.map fun s => (⟨s.toArray⟩ : Str)).map (·.length)).sum = (ss.map (·.length)).sum := by
  rw [List.map_map]
  congr 1
theorem se_join {o a : Expr} {co ca : CE} {ap pos : Pos} {fl : Bool} (hp : plainO o = true) (hl : (ap.endLine == pos.line) = true) (ho : SE Φ XR M X W false o co) (ha : SE Φ XR M X W false a ca)
    (hs : starEach [a] X.env = [(false, eval a X.env)]) : SE Φ XR M X W fl (.Call (.Attribute o "join" ap) [a] [] pos) (.sm1 .join co ca) := by
  obtain ⟨to, po, ho⟩ := ho
  obtain ⟨ta, pa, ha⟩ := ha
  have hb : attributeBase o "join" X.env (eval o X.env) = eval o X.env := by cases o <;> first | rfl | (cases hp; done)
  refine ⟨_, pe_join po pa hs hb hl, fun R0 H0 R H σ ρ Q s p => ?_⟩
  simp only [ev] at p
  refine ho R0 H0 R H σ ρ _ s (p.first fun x vx R1 H1 e1 r1 p1 => ?_)
  cases x with
  | str t =>
    obtain ⟨ev, g⟩ := r1.shal.str_inv
    subst ev
    refine ⟨⟨_, rfl⟩, ?_⟩
    refine ha R0 H0 R1 H1 σ ρ _ (s.later e1) (PostE.first p1 fun y vy R2 H2 e2 r2 p2 => ?_)
    have fin : ∀ {zs : List D} {vs : List V}, Reps X.K R2 vs zs → PostE XR R2 H2 (RepF X.K fl) (joinR t zs) Q (fun cls dx H' => W cls dx σ H') →
        ∃ ss : List (List Nat), vs = (ss.map fun s => (⟨s.toArray⟩ : Str)).map V.str ∧ ((ss.map fun s => (⟨s.toArray⟩ : Str)).map (·.length)).sum + (ss.map fun s => (⟨s.toArray⟩ : Str)).length * (⟨t.toArray⟩ : Str).length ≤ 16777216 ∧
          Q (.str (Txt.join ⟨t.toArray⟩ (ss.map fun s => (⟨s.toArray⟩ : Str)))) H2 := fun {zs vs} rr p => by
      unfold joinR at p
      cases e : strsD zs with
      | none => rw [e] at p; exact p.elim
      | some ss =>
        rw [e] at p
        simp only [ofOpt, Res.bind_ok] at p
        obtain ⟨hz, p⟩ := p.iff
        obtain ⟨e1, g1⟩ := strs_ok e rr
        refine ⟨ss, e1, by rw [sum_S, len_S, List.length_map]; exact hz, PostE.here e2.sub p (RepF.of (.str (join_L t ss) ⟨Nat.le_trans (joinL_len ss) hz, ?_⟩) fl)⟩
        exact List.all_eq_true.mpr fun c hc => decide_eq_true (joinL_good (fun c hc => g.mem hc) g1 c hc)
    cases y with
    | lst zs =>
      obtain ⟨b, vs, rfl, hsq, rr⟩ := r2.shal.lst_inv e2.sub
      obtain ⟨ss, e3, hz, q⟩ := fin rr p2
      subst e3
      exact ⟨_, b, _, rfl, rfl, .inl hsq, hz, q⟩
    | tup zs =>
      obtain ⟨b, vs, rfl, hsq, rr⟩ := r2.shal.tup_inv
      obtain ⟨ss, e3, hz, q⟩ := fin rr p2
      subst e3
      exact ⟨_, b, _, rfl, rfl, .inr (Same.seqT e2.sub hsq), hz, q⟩
    | _ => exact p2.elim
  | _ => exact p1.elim
/-! ### a list some times over; x[::-1]; sorted(set(x)); how often a sign stands -/
theorem Reps.rep {K : PySem.W.Frag} {R : Hp} {vs : List V} {ds : List D} (r : Reps K R vs ds) : ∀ n : Nat, Reps K R (List.replicate n vs).flatten (List.replicate n ds).flatten
  | 0 => .nil
  | n + 1 => by
    rw [List.replicate_succ, List.replicate_succ, List.flatten_cons, List.flatten_cons]
    exact r.append (Reps.rep r n)
theorem PostE.if_ {α β : Type} {XR : XRel} {R H : Hp} {rep : Hp → Hp → β → α → Prop} {Q : β → Hp → Prop} {E : XK} {c : Prop} [Decidable c] {r : Res α} (p : PostE XR R H rep (if c then r else .stuck) Q E) : c ∧ PostE XR R H rep r Q E := by
  by_cases h : c
  · rw [if_pos h] at p
    exact ⟨h, p⟩
  · rw [if_neg h] at p
    exact p.elim
theorem sn_rep {es : List Expr} {cs : CL} {b : Expr} {cb : CE} {p pos : Pos} (h : SL Φ XR M X W true [] es cs) (hb : SE Φ XR M X W false b cb) : SN Φ XR M X W (.BinOp (.List es p) .Mult b pos) (.rep cs cb) := by
  obtain ⟨t, pt, h⟩ := h
  obtain ⟨tb, pb, hb⟩ := hb
  refine ⟨_, pe_op op_rep (pe_lst pt) pb, fun R0 H0 R H σ ρ Q s p => ?_⟩
  simp only [ev] at p
  refine h R0 H0 R H σ ρ _ s ?_
  generalize evs Φ cs ρ = r at p ⊢
  cases r with
  | ok xs =>
    simp only [Res.bind_ok] at p
    intro vxs R1 H1 e1 r1
    obtain ⟨hx, p⟩ := p.if_
    refine ⟨by rw [r1.length, ← SZ_line]; exact hx, fun q hq => ?_⟩
    have e2 : Ext R H R1 (upd H1 q (.lst vxs)) := e1.trans (Ext.new_ e1.sub hq)
    refine hb R0 H0 R1 _ σ ρ _ (s.later e2) ?_
    generalize ev Φ cb ρ = z at p ⊢
    cases z with
    | ok y =>
      simp only [Res.bind_ok] at p
      intro vy R2 H2 e3 r2
      unfold repR at p
      split at p
      · rename_i n
        obtain ⟨hc, p⟩ := p.iff
        cases r2.shal.int_inv
        refine ⟨q, n, vxs, rfl, rfl, e3.hh.at upd_same, by omega, by omega, by rw [r1.length, ← SZ_line]; exact hc.2.2, fun q2 hq2 => ?_⟩
        have e4 := e2.trans e3
        exact p _ _ _ (e4.trans (Ext.new_ e4.sub hq2)) (RepN.lst (e4.hh.free hq2) (e4.sub.free hq2) upd_same ((r1.full.mono e3.rr).rep _))
      · exact p.elim
    | exc c ps => exact PostE.later (rep := RepN X.K H) p e2
    | stuck => exact p
  | exc c ps => exact p
  | stuck => exact p
theorem revR_n (x : D) (c ps) : revR x ≠ .exc c ps := by cases x <;> (intro h; cases h)
theorem se_rev {a : Expr} {ca : CE} {k : Nat} {p1 p2 p3 pos : Pos} {fl : Bool} (ha : SE Φ XR M X W false a ca) :
    SE Φ XR M X W fl (.Subscript a (.Slice none none (some (.UnaryOp .USub (.Constant (.int 1) k p1) p2)) p3) pos) (.rev ca) := by
  obtain ⟨ta, pa, ha⟩ := ha
  refine ⟨_, pe_revA pa, fun R0 H0 R H σ ρ Q s p => ?_⟩
  simp only [ev] at p
  refine ha R0 H0 R H σ ρ _ s (p.first fun x vx R1 H1 e1 r1 p1 => ?_)
  have p1 := post0_of (revR_n x) p1
  cases x with
  | lst ds =>
    obtain ⟨a, vs, rfl, hl, r⟩ := r1.shal.lst_inv e1.sub
    exact .inl ⟨a, vs, rfl, hl, fun q hq => p1 _ _ _ (Ext.laid e1.sub hq) (.lst (SqL.of upd_same) (r.reverse.mono (same_upd (e1.sub.free hq))))⟩
  | tup ds =>
    obtain ⟨a, vs, rfl, hl, r⟩ := r1.shal.tup_inv
    exact .inr (.inl ⟨a, vs, rfl, Same.seqT e1.sub hl, fun q hq => p1 _ _ _ (Ext.laid e1.sub hq) (.tup upd_same (r.reverse.mono (same_upd (e1.sub.free hq))))⟩)
  | str t =>
    obtain ⟨ev, g⟩ := r1.shal.str_inv
    subst ev
    refine .inr (.inr ⟨_, rfl, by rw [len_S, ← SZ_line]; exact g.1, p1.here e1.sub (.str (s := t.reverse) (by simp) (g.sub (by simp) fun c hc => List.mem_reverse.mp hc))⟩)
  | _ => exact p1.elim
theorem boot_set_ : bootBuiltins "set" = some (.type "set") ∧ bootBuiltins "sorted" = some (.builtin "sorted") := ⟨by decide +kernel, by decide +kernel⟩
/-- set(x), a list or a tuple -/
theorem cr_setAI (hc : X.calm = true) : CallR X (.type "set") (fun vs H Q => ∃ (a : Addr) (ns : List Int), vs = [V.ref a] ∧ (SqT X.K H a (ns.map V.int) ∨ SqL X.K H a (ns.map V.int)) ∧ ns.length < 64 ∧
    ∀ p c, c ≤ ns.length → H p = none → Q (.ref p) (upd H p (SetO X.w p (fun j => decide (j ∈ ns)) c))) := by
  intro pins s σ H vs us Q I r h
  obtain ⟨a, ns, e, h1 | h1, h⟩ := h
  · exact cr_setTI hc pins s σ H vs us Q I r ⟨a, ns, e, h1, h⟩
  · exact cr_setLI hc pins s σ H vs us Q I r ⟨a, ns, e, h1, h⟩
theorem sn_sset (S : Site T Φ XR N sc fnB X W) {e : Expr} {c : CE} {p q pos pos2 : Pos} (hg : isG sc "sorted" = true) (hg2 : isG sc "set" = true) (he : SE Φ XR M X W false e c)
    (hs : starEach [e] X.env = (false, eval e X.env) :: starEach [] X.env) (hs2 : starEach [.Call (.Name "set" q) [e] [] pos2] X.env = (false, eval (.Call (.Name "set" q) [e] [] pos2) X.env) :: starEach [] X.env) :
    SN Φ XR M X W (.Call (.Name "sorted" p) [.Call (.Name "set" q) [e] [] pos2] [] pos) (.sset c) := by
  obtain ⟨t, pe, he⟩ := he
  obtain ⟨g1, g2, g3⟩ := glob_ok S hg
  obtain ⟨k1, k2, k3⟩ := glob_ok S hg2
  have ps := pe_callTy (p := q) (pos := pos2) (cr_setAI S.calm) k1 (S.blt _ (by simp [bltNames])) boot_set_.1 (pa_cons pe pa_nil hs) k3 k2 hs rfl
  refine ⟨_, pe_callB (cr_sortedSet S.calm) g1 (S.blt _ (by simp [bltNames])) boot_set_.2 (pa_cons ps pa_nil hs2) g3 g2 hs2 rfl, fun R0 H0 R H σ ρ Q s p => ?_⟩
  simp only [ev] at p
  refine he R0 H0 R H σ ρ _ s ?_
  generalize ev Φ c ρ = r at p ⊢
  cases r with
  | ok x =>
    intro vx R1 H1 e1 r1
    simp only [Res.bind_ok] at p
    have go : ∀ {a : Addr} {vs : List V} {zs : List D}, (SqT X.K H1 a vs ∨ SqL X.K H1 a vs) → Reps X.K R1 vs zs → vx = V.ref a → PostE XR R H (RepN X.K H) ((ofOpt (intsD zs)).bind fun ns => if ns.length < 64 then .ok (.lst ((srtI ns).map .int)) else .stuck) Q (fun cls dx H' => W cls dx σ H') →
        ∃ (a : Addr) (ns : List Int), [vx] = [V.ref a] ∧ (SqT X.K H1 a (ns.map V.int) ∨ SqL X.K H1 a (ns.map V.int)) ∧ ns.length < 64 ∧ ∀ p c, c ≤ ns.length → H1 p = none → rSortedSet X.w [.ref p] (upd H1 p (SetO X.w p (fun j => decide (j ∈ ns)) c)) Q := by
      intro a vs zs hs rr ea p
      cases e : intsD zs with
      | none => rw [e] at p; exact p.elim
      | some ns =>
        rw [e] at p
        simp only [ofOpt, Res.bind_ok] at p
        obtain ⟨hz, p⟩ := p.iff
        have ev := ints_ok e rr
        subst ev
        refine ⟨a, ns, by rw [ea], hs, hz, fun q1 k hk hq1 => ⟨q1, _, k, rfl, upd_same, by omega, fun ms q2 hm1 hm2 hm3 hq2 => ?_⟩⟩
        have em : ms = srtI ns := sorted_uniq hm1 (srtI_sorted ns) fun k => by rw [hm2, srtI_mem]; simp
        subst em
        have e2 := e1.trans (Ext.new_ (o := SetO X.w q1 (fun j => decide (j ∈ ns)) k) e1.sub hq1)
        refine p _ _ _ (e2.trans (Ext.new_ e2.sub hq2)) (RepN.lst (e2.hh.free hq2) (e2.sub.free hq2) upd_same (Reps.of_ints _))
    cases x with
    | tup zs =>
      obtain ⟨a, vs, rfl, hs, rr⟩ := r1.shal.tup_inv
      exact go (.inl (Same.seqT e1.sub hs)) rr rfl p
    | lst zs =>
      obtain ⟨a, vs, rfl, hs, rr⟩ := r1.shal.lst_inv e1.sub
      exact go (.inr hs) rr rfl p
    | _ => exact p.elim
  | exc c ps => exact p
  | stuck => exact p
theorem se_count {o a : Expr} {co ca : CE} {ap pos : Pos} {fl : Bool} (hp : plainO o = true) (hl : (ap.endLine == pos.line) = true) (ho : SE Φ XR M X W false o co) (ha : SE Φ XR M X W false a ca)
    (hs : starEach [a] X.env = [(false, eval a X.env)]) : SE Φ XR M X W fl (.Call (.Attribute o "count" ap) [a] [] pos) (.sm1 .count co ca) := by
  obtain ⟨to, po, ho⟩ := ho
  obtain ⟨ta, pa, ha⟩ := ha
  have hb : attributeBase o "count" X.env (eval o X.env) = eval o X.env := by cases o <;> first | rfl | (cases hp; done)
  refine ⟨_, pe_m1 PySem.F.slot_str_count PySem.F.type_str_count mt_count po pa hs hb hl, fun R0 H0 R H σ ρ Q s p => ?_⟩
  simp only [ev] at p
  refine ho R0 H0 R H σ ρ _ s (p.first fun x vx R1 H1 e1 r1 p1 => ?_)
  cases x with
  | str t =>
    obtain ⟨ev, g⟩ := r1.shal.str_inv
    subst ev
    refine ⟨⟨_, rfl⟩, ?_⟩
    refine ha R0 H0 R1 H1 σ ρ _ (s.later e1) (PostE.first p1 fun y vy R2 H2 e2 r2 p2 => ?_)
    have hc : ∃ c', y = .str [c'] := by
      cases y with
      | str l =>
        rcases l with _ | ⟨c', _ | ⟨d, r⟩⟩
        · exact p2.elim
        · exact ⟨c', rfl⟩
        · exact p2.elim
      | _ => exact p2.elim
    obtain ⟨c', rfl⟩ := hc
    obtain ⟨ev2, _⟩ := r2.shal.str_inv
    subst ev2
    refine ⟨_, _, rfl, rfl, ?_⟩
    have e5 := count_S t c'
    show Q (.int (Txt.count ⟨t.toArray⟩ ⟨#[c']⟩)) H2
    rw [e5]
    exact PostE.here e2.sub p2 (RepF.of (.int _) fl)
  | _ => exact p1.elim
end
end Ps
end
section
set_option maxHeartbeats 4000000
/-! PsText: split, partition, index, upper. -/
namespace Ps
open PySem PySem.Spec PyProof.Rows L2
variable [Tbs]
theorem pre1 (c x : Nat) (r : List Nat) : TL.pre [c] (x :: r) = decide (x = c) := by
  unfold TL.pre
  rw [Bool.eq_iff_iff]
  simp
theorem splC_spl (c : Nat) : ∀ (l acc : List Nat), TL.spl [c] 0 acc l = splC c acc l
  | [], acc => rfl
  | x :: r, acc => by
    unfold splC
    by_cases e : x = c
    · rw [TL.spl_hit (by rw [pre1, decide_eq_true e]), if_pos e]
      exact congrArg _ (splC_spl c r [])
    · rw [TL.spl_miss (by rw [pre1, decide_eq_false e]), if_neg e]
      exact splC_spl c r _
theorem parC_par (c : Nat) : ∀ (l acc : List Nat), TL.par [c] acc l = parC c acc l
  | [], acc => rfl
  | x :: r, acc => by
    unfold parC
    by_cases e : x = c
    · rw [TL.par_hit (by rw [pre1, decide_eq_true e]), if_pos e]
      rfl
    · rw [TL.par_miss (by rw [pre1, decide_eq_false e]), if_neg e]
      exact parC_par c r _
theorem splC_mem {c : Nat} : ∀ (l acc p : List Nat), p ∈ splC c acc l → (∀ x ∈ p, x ∈ acc ∨ x ∈ l) ∧ p.length ≤ acc.length + l.length
  | [], acc, p, h => by
    rw [List.mem_singleton.mp h]
    exact ⟨fun x hx => .inl hx, by simp⟩
  | y :: r, acc, p, h => by
    unfold splC at h
    by_cases e : y = c
    · rw [if_pos e] at h
      rcases List.mem_cons.mp h with rfl | h
      · exact ⟨fun x hx => .inl hx, by simp⟩
      · obtain ⟨h1, h2⟩ := splC_mem r [] p h
        refine ⟨fun x hx => .inr ?_, by simp only [List.length_nil, List.length_cons] at h2 ⊢; omega⟩
        rcases h1 x hx with z | z
        · cases z
        · exact List.mem_cons_of_mem _ z
    · rw [if_neg e] at h
      obtain ⟨h1, h2⟩ := splC_mem r (acc ++ [y]) p h
      refine ⟨fun x hx => ?_, by simp only [List.length_append, List.length_cons, List.length_nil] at h2 ⊢; omega⟩
      rcases h1 x hx with z | z
      · rcases List.mem_append.mp z with z | z
        · exact .inl z
        · rw [List.mem_singleton.mp z]; exact .inr List.mem_cons_self
      · exact .inr (List.mem_cons_of_mem _ z)
theorem parC_app {c : Nat} : ∀ (l acc a b : List Nat), parC c acc l = some (a, b) → acc ++ l = a ++ c :: b
  | [], acc, a, b, h => by cases h
  | y :: r, acc, a, b, h => by
    unfold parC at h
    by_cases e : y = c
    · rw [if_pos e] at h
      cases h
      rw [e]
    · rw [if_neg e] at h
      rw [← parC_app r (acc ++ [y]) a b h, List.append_assoc]
      rfl
theorem reps_strs {K : PySem.W.Frag} {R : Hp} : ∀ {l : List (List Nat)}, (∀ s ∈ l, GoodS s) → Reps K R ((l.map fun s => (⟨s.toArray⟩ : Str)).map V.str) (l.map D.str)
  | [], _ => .nil
  | s :: l, h => .cons (Rep.S (h s List.mem_cons_self)) (reps_strs fun x hx => h x (List.mem_cons_of_mem _ hx))
theorem kind1 {x : Str} {c : Nat} (h : c < 256) : ¬ Builtin.Str.strKind x < Builtin.Str.strKind (⟨[c].toArray⟩ : Str) := TL.kind_ok (by simp [h])
theorem ne0 (c : Nat) : ((⟨[c].toArray⟩ : Str).length == 0) = false := rfl
section
variable {T : Tab} {Φ : FEnv} {XR : XRel} {N : List Str} {sc : Scope} {fnB : Str → Bool} {M : Ow} {X : Cx} {W : WX}
theorem se_split {o a : Expr} {co ca : CE} {ap pos : Pos} {fl : Bool} (hp : plainO o = true) (hl : (ap.endLine == pos.line) = true) (ho : SE Φ XR M X W false o co) (ha : SE Φ XR M X W false a ca)
    (hs : starEach [a] X.env = [(false, eval a X.env)]) : SE Φ XR M X W fl (.Call (.Attribute o "split" ap) [a] [] pos) (.sm1 .split co ca) := by
  obtain ⟨to, po, ho⟩ := ho
  obtain ⟨ta, pa, ha⟩ := ha
  have hb : attributeBase o "split" X.env (eval o X.env) = eval o X.env := by cases o <;> first | rfl | (cases hp; done)
  refine ⟨_, pe_split po pa hs hb hl, fun R0 H0 R H σ ρ Q s p => ?_⟩
  simp only [ev] at p
  refine ho R0 H0 R H σ ρ _ s (p.first fun x vx R1 H1 e1 r1 p1 => ?_)
  cases x with
  | str t =>
    obtain ⟨ev, g⟩ := r1.shal.str_inv
    subst ev
    refine ⟨⟨_, rfl⟩, ?_⟩
    refine ha R0 H0 R1 H1 σ ρ _ (s.later e1) (PostE.first p1 fun y vy R2 H2 e2 r2 p2 => ?_)
    have hc : ∃ c', y = .str [c'] := by
      cases y with
      | str l =>
        rcases l with _ | ⟨c', _ | ⟨d, r⟩⟩
        · exact p2.elim
        · exact ⟨c', rfl⟩
        · exact p2.elim
      | _ => exact p2.elim
    obtain ⟨c', rfl⟩ := hc
    obtain ⟨ev2, _⟩ := r2.shal.str_inv
    subst ev2
    have p2 : PostE XR R2 H2 (RepF X.K fl) (if c' < 256 ∧ t.length + 2 ≤ SZ then .ok (.lst ((splC c' [] t).map .str)) else .stuck) Q _ := p2
    obtain ⟨⟨hk, hz⟩, p2⟩ := p2.iff
    have e5 : Txt.split ⟨t.toArray⟩ ⟨[c'].toArray⟩ = (splC c' [] t).map fun s => (⟨s.toArray⟩ : Str) := by
      refine TL.map_tl_inj ?_
      rw [TL.split_spl _ _ (by simp [TL.tl]) (kind1 hk)]
      have : TL.tl (⟨[c'].toArray⟩ : Str) = [c'] := rfl
      rw [this, show TL.tl (⟨t.toArray⟩ : Str) = t from rfl, splC_spl]
      rw [List.map_map]
      have : (TL.tl ∘ fun s : List Nat => (⟨s.toArray⟩ : Str)) = id := funext fun s => rfl
      rw [this, List.map_id]
    refine ⟨_, _, rfl, rfl, ne0 c', by rw [len_S, ← SZ_line]; exact hz, fun q hq => ?_⟩
    rw [e5]
    refine p2 _ _ _ (Ext.laid e2.sub hq) (RepF.of (.lst (SqL.of upd_same) (reps_strs fun s hs => ?_)) fl)
    obtain ⟨m1, m2⟩ := splC_mem t [] s hs
    exact g.sub (by simpa using m2) fun x hx => (m1 x hx).elim (fun z => by cases z) id
  | _ => exact p1.elim
theorem par_S {t : List Nat} {c : Nat} : Txt.partition ⟨t.toArray⟩ ⟨[c].toArray⟩ = (match parC c [] t with | some (a, b) => (⟨a.toArray⟩, ⟨[c].toArray⟩, ⟨b.toArray⟩) | none => (⟨t.toArray⟩, Str.empty, Str.empty)) := by
  rw [TL.partition_par _ _ (by simp [TL.tl])]
  have : TL.tl (⟨[c].toArray⟩ : Str) = [c] := rfl
  rw [this, show TL.tl (⟨t.toArray⟩ : Str) = t from rfl, parC_par]
  cases parC c [] t <;> rfl
theorem se_part {o a : Expr} {co ca : CE} {ap pos : Pos} {fl : Bool} (hp : plainO o = true) (hl : (ap.endLine == pos.line) = true) (ho : SE Φ XR M X W false o co) (ha : SE Φ XR M X W false a ca)
    (hs : starEach [a] X.env = [(false, eval a X.env)]) : SE Φ XR M X W fl (.Call (.Attribute o "partition" ap) [a] [] pos) (.sm1 .part co ca) := by
  obtain ⟨to, po, ho⟩ := ho
  obtain ⟨ta, pa, ha⟩ := ha
  have hb : attributeBase o "partition" X.env (eval o X.env) = eval o X.env := by cases o <;> first | rfl | (cases hp; done)
  refine ⟨_, pe_partition po pa hs hb hl, fun R0 H0 R H σ ρ Q s p => ?_⟩
  simp only [ev] at p
  refine ho R0 H0 R H σ ρ _ s (p.first fun x vx R1 H1 e1 r1 p1 => ?_)
  cases x with
  | str t =>
    obtain ⟨ev, g⟩ := r1.shal.str_inv
    subst ev
    refine ⟨⟨_, rfl⟩, ?_⟩
    refine ha R0 H0 R1 H1 σ ρ _ (s.later e1) (PostE.first p1 fun y vy R2 H2 e2 r2 p2 => ?_)
    have hc : ∃ c', y = .str [c'] := by
      cases y with
      | str l =>
        rcases l with _ | ⟨c', _ | ⟨d, r⟩⟩
        · exact p2.elim
        · exact ⟨c', rfl⟩
        · exact p2.elim
      | _ => exact p2.elim
    obtain ⟨c', rfl⟩ := hc
    obtain ⟨ev2, _⟩ := r2.shal.str_inv
    subst ev2
    have p2 : PostE XR R2 H2 (RepF X.K fl) (if c' < 256 ∧ t.length ≤ SZ then .ok (match parC c' [] t with | some (a, b) => .tup [.str a, .str [c'], .str b] | none => .tup [.str t, .str [], .str []]) else .stuck) Q _ := p2
    obtain ⟨⟨hk, hz⟩, p2⟩ := p2.iff
    refine ⟨_, _, rfl, rfl, ne0 c', by rw [len_S, ← SZ_line]; exact hz, fun q hq => ?_⟩
    rw [par_S]
    cases hpar : parC c' [] t with
    | none =>
      rw [hpar] at p2
      refine p2 _ _ _ (Ext.laid e2.sub hq) (RepF.of (.tup upd_same (.cons (Rep.S g) (.cons ?_ (.cons ?_ .nil)))) fl)
      · exact .str rfl ⟨Nat.zero_le _, rfl⟩
      · exact .str rfl ⟨Nat.zero_le _, rfl⟩
    | some ab =>
      obtain ⟨u, w⟩ := ab
      rw [hpar] at p2
      have e := parC_app t [] u w hpar
      rw [List.nil_append] at e
      refine p2 _ _ _ (Ext.laid e2.sub hq) (RepF.of (.tup upd_same (.cons (Rep.S (g.sub ?_ fun x hx => ?_)) (.cons (Rep.S (g.sub ?_ fun x hx => ?_)) (.cons (Rep.S (g.sub ?_ fun x hx => ?_)) .nil)))) fl)
      · rw [e]; simp
      · rw [e]; exact List.mem_append_left _ hx
      · rw [e]; simp; omega
      · rw [e, List.mem_singleton.mp hx]; simp
      · rw [e]; simp; omega
      · rw [e]; exact List.mem_append_right _ (List.mem_cons_of_mem _ hx)
  | _ => exact p1.elim
theorem index_S {t a b : List Nat} {c : Nat} (h : parC c [] t = some (a, b)) : Txt.index0 ⟨t.toArray⟩ ⟨[c].toArray⟩ = some a.length := by
  have e := par_S (t := t) (c := c)
  rw [h] at e
  have ap := parC_app t [] a b h
  rw [List.nil_append] at ap
  unfold Txt.partition at e
  unfold Txt.index0
  cases q : Builtin.Str.occurrences ⟨t.toArray⟩ ⟨[c].toArray⟩ 0 (⟨t.toArray⟩ : Str).length 1 with
  | nil =>
    rw [q] at e
    simp only [Prod.mk.injEq] at e
    have := congrArg TL.tl e.2.1
    cases this
  | cons i r =>
    rw [q] at e
    simp only [Prod.mk.injEq] at e
    have h1 := congrArg TL.tl e.1
    rw [TL.tl_strSub, show TL.tl (⟨t.toArray⟩ : Str) = t from rfl, show TL.tl (⟨a.toArray⟩ : Str) = a from rfl] at h1
    have h2 : a.length = min i t.length := by rw [← h1]; simp
    have h3 : t.length = a.length + (b.length + 1) := by rw [ap]; simp
    show some i = some a.length
    congr 1
    omega
theorem se_index (S : Site T Φ XR N sc fnB X W) {o a : Expr} {co ca : CE} {ap pos : Pos} {fl : Bool} (hp : plainO o = true) (hl : (ap.endLine == pos.line) = true) (ho : SE Φ XR M X W false o co) (ha : SE Φ XR M X W false a ca)
    (hs : starEach [a] X.env = [(false, eval a X.env)]) : SE Φ XR M X W fl (.Call (.Attribute o "index" ap) [a] [] pos) (.sm1 .index co ca) := by
  obtain ⟨to, po, ho⟩ := ho
  obtain ⟨ta, pa, ha⟩ := ha
  have hb : attributeBase o "index" X.env (eval o X.env) = eval o X.env := by cases o <;> first | rfl | (cases hp; done)
  refine ⟨_, pe_bmS PySem.F.plainAttrs_str PySem.F.slot_str_index PySem.F.type_str_index (mt_indexX S.calm S.takes) po (pa_cons pa pa_nil hs) hb (hfew := by rw [hs]; rfl) (hline := hl) (hs := hs), fun R0 H0 R H σ ρ Q s p => ?_⟩
  simp only [ev] at p
  refine ho R0 H0 R H σ ρ _ s (p.first fun x vx R1 H1 e1 r1 p1 => ?_)
  cases x with
  | str t =>
    obtain ⟨ev, g⟩ := r1.shal.str_inv
    subst ev
    refine ⟨rfl, ?_⟩
    refine ha R0 H0 R1 H1 σ ρ _ (s.later e1) (PostE.first p1 fun y vy R2 H2 e2 r2 p2 => ?_)
    have hc : ∃ c', y = .str [c'] := by
      cases y with
      | str l =>
        rcases l with _ | ⟨c', _ | ⟨d, r⟩⟩
        · exact p2.elim
        · exact ⟨c', rfl⟩
        · exact p2.elim
      | _ => exact p2.elim
    obtain ⟨c', rfl⟩ := hc
    obtain ⟨ev2, _⟩ := r2.shal.str_inv
    subst ev2
    have p2 : PostE XR R2 H2 (RepF X.K fl) (if c' < 256 then (match parC c' [] t with | some (a, _) => .ok (.int (a.length : Nat)) | none => .stuck) else .stuck) Q (fun cls dx H' => W cls dx σ H') := p2
    by_cases hk : c' < 256
    · rw [if_pos hk] at p2
      cases hpar : parC c' [] t with
      | none => rw [hpar] at p2; exact p2.elim
      | some ab =>
        obtain ⟨u, w⟩ := ab
        rw [hpar] at p2
        have ei := index_S hpar
        refine ⟨_, _, rfl, rfl, fun k hk => ?_, fun hn => ?_⟩
        · rw [ei] at hk
          cases hk
          exact PostE.here e2.sub p2 (RepF.of (.int _) fl)
        · rw [ei] at hn
          cases hn
    · rw [if_neg hk] at p2
      exact p2.elim
  | _ => exact p1.elim
theorem up_128 : ∀ c, c < 128 → Unicode.upperOf c = [upC c] := by decide +kernel
theorem upper_S {t : List Nat} (h : ∀ c ∈ t, c < 128) : Txt.upper ⟨t.toArray⟩ = ⟨(t.map upC).toArray⟩ := by
  unfold Txt.upper placed
  congr 1
  have key : ∀ (l : List Nat), (∀ c ∈ l, c < 128) → (l.map fun c => (Unicode.upperOf c).toArray) = l.map fun c => #[upC c] := fun l hl => List.map_congr_left fun c hc => by rw [up_128 c (hl c hc)]
  apply Array.toList_inj.mp
  have e1 : ((t.toArray.mapIdx fun _ c => (Unicode.upperOf c).toArray)).toList = t.map fun c => #[upC c] := by
    rw [Array.toList_mapIdx, ← key t h]
    refine List.ext_getElem? fun i => ?_
    simp
  rw [Array.toList_flatten, e1]
  have fl : ∀ l : List Nat, (((l.map fun c => #[upC c]).map Array.toList).flatten) = l.map upC := fun l => by
    induction l with
    | nil => rfl
    | cons a l ih => simp only [List.map_cons, List.flatten_cons, ih]; rfl
  exact fl t
theorem se_upper {o : Expr} {co : CE} {ap pos : Pos} {fl : Bool} (hp : plainO o = true) (hl : (ap.endLine == pos.line) = true) (ho : SE Φ XR M X W false o co) : SE Φ XR M X W fl (.Call (.Attribute o "upper" ap) [] [] pos) (.sm1 .upper co (.cst .non)) := by
  obtain ⟨to, po, ho⟩ := ho
  have hb : attributeBase o "upper" X.env (eval o X.env) = eval o X.env := by cases o <;> first | rfl | (cases hp; done)
  refine ⟨_, pe_upper po hb hl, fun R0 H0 R H σ ρ Q s p => ?_⟩
  simp only [ev] at p
  refine ho R0 H0 R H σ ρ _ s (p.first fun x vx R1 H1 e1 r1 p1 => ?_)
  cases x with
  | str t =>
    obtain ⟨ev, g⟩ := r1.shal.str_inv
    subst ev
    have p1 : PostE XR R1 H1 (RepF X.K fl) (if t.length ≤ 5000000 ∧ (t.all fun c => decide (c < 128)) = true then .ok (.str (t.map upC)) else .stuck) Q _ := p1
    obtain ⟨⟨h1, h2⟩, p1⟩ := p1.iff
    have h2 : ∀ c ∈ t, c < 128 := fun c hc => of_decide_eq_true (List.all_eq_true.mp h2 c hc)
    refine ⟨⟨_, rfl⟩, _, rfl, rfl, by rw [len_S]; omega, ?_⟩
    rw [upper_S h2]
    refine PostE.here e1.sub p1 (RepF.of (Rep.S ⟨by rw [List.length_map]; exact g.1, List.all_eq_true.mpr fun c hc => ?_⟩) fl)
    obtain ⟨d, hd, rfl⟩ := List.mem_map.mp hc
    have := h2 d hd
    refine decide_eq_true ?_
    unfold upC
    split <;> omega
  | _ => exact p1.elim
end
end Ps
end
section
set_option maxHeartbeats 4000000
/-! PsIter: what is walked. -/
namespace PySem
open Sem (wp)
open AutoSeq1 (wpAny_loadPart')
/-- enumerate(v) of whatever begins -/
theorem psEnumNew {v : Value} {o : Obj} {G : Heap → Prop} (B : Begins v o G) :
    Meets (Builtin.«enumerate.__new__» ⟨[.type "enumerate", v], []⟩) (fun _ R s => G s.heap ∧
      R (.ok (.ret (.ref (s.heap.push o).objs.size))) { s with heap := (s.heap.push o).push { cls := .type "enumerate", data := .fields #[.none, .bool false, .ref s.heap.objs.size, rawInt 0, .none, .none] } }) :=
  .of_wp fun prog w A R s h => by
    obtain ⟨hp, gs, dr, tks, ost⟩ := s
    obtain ⟨hg, h⟩ := h
    have hsub := sub_enumerate
    have itv : ∀ {A' : Around} {E : Value → Shared → Prop} {Q : Value → Shared → Prop}, Q (.ref hp.objs.size) ⟨hp.push o, gs, dr, tks, ost⟩ → wpAny (model prog w) A' (pyIter v) Q E ⟨hp, gs, dr, tks, ost⟩ :=
      fun q => B.iter prog w _ _ ⟨hp, gs, dr, tks, ost⟩ _ hg q
    wp_walk using itv
    refine wpAny_stack_any fun below => wpAny_pure ?_
    split
    · rename_i cl _ _ _ _ _
      cases (cl == Value.type "enumerate") <;> (wp_walk using itv; exact ⟨_, rfl, h⟩)
    · wp_walk using itv
      exact ⟨_, rfl, h⟩
theorem psEnumCall {prog : Program} {w : World} {A : Around} {E : Value → Shared → Prop} {s : Shared} {v : Value} {o : Obj} {G : Heap → Prop} {Q : Value → Shared → Prop} (B : Begins v o G) (hg : G s.heap)
    (h : ∀ h', IsEnum h' (s.heap.objs.size + 1) s.heap.objs.size 0 .none → h'.get? s.heap.objs.size = some o → (∀ b u, s.heap.get? b = some u → h'.get? b = some u) → Q (.ref (s.heap.objs.size + 1)) { s with heap := h' }) :
    wpAny (model prog w) A (call (.type "enumerate") [v]) Q E s := by
  refine callType_new F.called_enumerate (by decide) (F.typeCall_enumerate_1 _) (F.newCall_enumerate_1 _) (fun obj => F.args_object_init_2 obj _) F.entry_enumerate_new (psEnumNew B) ⟨hg, ?_⟩
  have sz : (s.heap.push o).objs.size = s.heap.objs.size + 1 := Heap.size_push ..
  show _ ∧ _
  rw [sz]
  have hen : IsEnum ((s.heap.push o).push { cls := .type "enumerate", data := .fields #[.none, .bool false, .ref s.heap.objs.size, rawInt 0, .none, .none] }) (s.heap.objs.size + 1) s.heap.objs.size 0 .none := by
    have z := Heap.get?_push_size (s.heap.push o) (o := { cls := .type "enumerate", data := .fields #[.none, .bool false, .ref s.heap.objs.size, rawInt 0, .none, .none] }) rfl
    rw [sz] at z
    exact z
  exact ⟨⟨_, hen, rfl⟩, h _ hen (Heap.get?_push_of_some _ (Heap.get?_push_size _ B.free)) fun b u x => Heap.get?_push_of_some _ (Heap.get?_push_of_some _ x)⟩
end PySem
namespace Ps
open PySem PySem.Spec PyProof.Rows L2
variable [Tbs]
/-! ### a source that is drawn from, told by the abstract heap -/
structure Sour (P : Program) (w : World) (K : PySem.W.Frag) (it : Addr) (st : Nat → Heap → Prop) (GG : Hp → Prop) (xs : List V) : Prop where
  obj : ∀ i h, st i h → ∃ o, h.get? it = some o ∧ (∀ v, o.data ≠ .cell v) ∧ o.cls ≠ .type "enumerate"
  keep : ∀ i h h', st i h → (∀ o, h.get? it = some o → h'.get? it = some o) → st i h'
  draw : ∀ (X : Cx), X.prog = P → X.w = w → X.K = K → ∀ (pins : List (Addr × Obj)) (σ : L2.St) (H : Hp) (s : Shared) (i : Nat), Inv X pins σ H s → X.A.handled = none → GG H → st i s.heap →
    ∃ (fp : List Addr) (Pv : Nat → Value → Prop) (cont : Heap → Prop), Draws P w X.A.in1 it fp xs.length Pv (fun j h => st j h ∧ cont h) ∧ cont s.heap ∧
      (∀ e, (∃ o, s.heap.get? e = some o ∧ o.cls = .type "enumerate") → e ∉ fp) ∧ ∀ j v, Pv j v → ∃ x, xs[j]? = some x ∧ RelV x v
/-- pairs of a number and an item -/
def ItE (GG : Hp → Prop) (xs : List V) : It :=
  ⟨fun i H => GG H ∧ i < xs.length, fun i H v H' => ∃ T x, v = .ref T ∧ H T = none ∧ H' = upd H T (.tup [.int (i : Nat), x]) ∧ xs[i]? = some x, fun i H => GG H ∧ i = xs.length⟩
theorem walk_E {GG : Hp → Prop} {xs : List V} : Walk (ItE GG xs) xs.length GG (YPair (fun i => some (.int (i : Nat))) (fun i => xs[i]?)) :=
  ⟨fun i H hi g => ⟨g, hi⟩, fun H g => ⟨g, rfl⟩, fun i H v H' _ _ ⟨T, x, h1, h2, h3, h4⟩ => ⟨T, .int (i : Nat), x, h1, h2, h3, rfl, h4⟩⟩
theorem turn_E {P : Program} {w : World} {K : PySem.W.Frag} {elts : List Expr} {kk : Nat} {tpos : Pos} {e it : Addr} {st : Nat → Heap → Prop} {GG : Hp → Prop} {xs : List V} (So : Sour P w K it st GG xs) :
    Turn P w K (.Tuple elts kk tpos) (ItE GG xs) [e, it] e (fun i h => (∃ old, IsEnum h e it ((i : Nat) : Int) old) ∧ st i h ∧ e ≠ it) where
  mem := by simp
  obj := fun i h q b hb => by
    obtain ⟨⟨old, he⟩, hs, _⟩ := q
    have hb' : b = e ∨ b = it := by simpa using hb
    rcases hb' with z | z
    · subst z
      exact ⟨_, he, fun v q => nomatch q⟩
    · subst z
      obtain ⟨o, h1, h2, _⟩ := So.obj i h hs
      exact ⟨o, h1, h2⟩
  keep := fun i h h' q k => by
    obtain ⟨⟨old, he⟩, hs, hne⟩ := q
    exact ⟨⟨old, k e (by simp) _ he⟩, So.keep i h h' hs fun o z => k it (by simp) o z, hne⟩
  item := by
    intro X hP hw hK hc i pins s σ H E I hf q hg
    obtain ⟨⟨old, he⟩, hs, hne⟩ := q
    obtain ⟨gg, hi⟩ := hg
    obtain ⟨fp, Pv, cont, D, hcn, hef, hPv⟩ := So.draw X hP hw hK pins σ H s i I (I.ok.hd hc) gg hs
    subst hP hw hK
    have lte : e < s.heap.objs.size := Heap.lt_size he
    have lti : it < s.heap.objs.size := by
      obtain ⟨o, h1, _⟩ := So.obj i _ hs
      exact Heap.lt_size h1
    refine wpAny_pyNext_enum_itemD D he ⟨hs, hcn⟩ hi hne (hef e ⟨_, he, rfl⟩) fun u h' tk hp ho hs' hT hsz hk => ?_
    obtain ⟨x, hx, ru⟩ := hPv i u hp
    refine ⟨_, rfl, wpAny_letOwnedTupleGo_enum (s := { s with heap := h', toks := tk + 1 }) ho fun h'' he' sb => ?_⟩
    have hT2 : h''.get? s.heap.objs.size = some { cls := .type "tuple", data := .seq #[.int i tk, u] } := (sb.2 _ (Nat.ne_of_gt lte)).trans hT
    have fresh : ObjOk X.prog X.w (upd H s.heap.objs.size (.tup [.int (i : Nat), x])) h'' s.heap.objs.size (.tup [.int (i : Nat), x]) :=
      ⟨by show 2 ≤ sizeLine; decide, [.int i tk, u], .cons ⟨_, rfl⟩ (.cons ru .nil), ⟨_, hT2, rfl, _, rfl⟩⟩
    have I1 : Inv X pins σ (upd H s.heap.objs.size (.tup [.int (i : Nat), x])) { s with heap := h'', toks := tk + 1 } :=
      I.turnedNew (ch := [e, it]) (fun b ob hb z => (sb.2 b (fun y => hb (by simp [y]))).trans (hk b ob (fun y => hb (by simp [y])) (fun y => hb (by simp [y])) z)) hf (Nat.le_refl _) fresh
    refine ⟨.ref s.heap.objs.size, _, I1, rfl, ⟨_, x, rfl, I.hok.fresh (Nat.le_refl _), rfl, hx⟩, ⟨⟨u, ?_⟩, So.keep _ _ _ hs'.1 fun o z => (sb.2 it (Ne.symm hne)).trans z, hne⟩, fun b hb => ?_⟩
    · have e1 : ((i + 1 : Nat) : Int) = (i : Int) + 1 := by omega
      rw [e1]
      exact he'
    · have hlt : b < s.heap.objs.size := by
        have hb' : b = e ∨ b = it := by simpa using hb
        rcases hb' with z | z
        · subst z; exact lte
        · subst z; exact lti
      rw [upd_ne (Nat.ne_of_lt hlt)]
      exact (hf b hb).1
  done := by
    intro X hP hw hK hc i pins s σ H E I hf q hg
    obtain ⟨⟨old, he⟩, hs, hne⟩ := q
    obtain ⟨gg, hi⟩ := hg
    subst hi
    obtain ⟨fp, Pv, cont, D, hcn, hef, hPv⟩ := So.draw X hP hw hK pins σ H s _ I (I.ok.hd hc) gg hs
    subst hP hw hK
    obtain ⟨f0, f1, f2, f3, f4, f5⟩ := hf it (by simp)
    exact wpAny_pyNext_enum_endD D he ⟨hs, hcn⟩ fun h' eb => ⟨rfl, I.turned (t' := s.toks) (fun b o hb z => eb b o hb z) f0 f1 f3 f4 f5⟩
  self := fun A i s Q E q h => by
    obtain ⟨⟨_, he⟩, _⟩ := q
    exact wpAny_pyIter_enum he h
section
variable {P : Program} {w : World} {K : PySem.W.Frag} {it : Addr} {xs : List V}
theorem isList_ne {h : Heap} {l it : Addr} {items : Array Value} {i : Nat} (hl : h.IsList l items) (hi : h.IsListIter it l i) : l ≠ it := by
  rintro rfl
  obtain ⟨o, e, c, _⟩ := hl
  obtain ⟨o', e', c', _⟩ := hi
  rw [e] at e'
  cases e'
  rw [c] at c'
  injection c' with z
  exact absurd z (by decide)
theorem isTup_ne {h : Heap} {l it : Addr} {items : Array Value} {i : Nat} (hl : h.IsTuple l items) (hi : h.IsTupleIter it l i) : l ≠ it := by
  rintro rfl
  obtain ⟨o, e, c, _⟩ := hl
  obtain ⟨o', e', c', _⟩ := hi
  rw [e] at e'
  cases e'
  rw [c] at c'
  injection c' with z
  exact absurd z (by decide)
theorem cls_ne {h : Heap} {a e : Addr} {o o' : Obj} {n : String} (h1 : h.get? a = some o) (c1 : o.cls = .type n) (h2 : h.get? e = some o') (c2 : o'.cls = .type "enumerate") (d : n ≠ "enumerate") : e ≠ a := by
  rintro rfl
  rw [h1] at h2
  cases h2
  rw [c1] at c2
  injection c2 with c2
  exact d c2
theorem sour_list (a : Addr) : Sour P w K it (fun i h => h.IsListIter it a i) (fun H => SqL K H a xs) xs where
  obj := fun i h q => by
    obtain ⟨o, e, c, d⟩ := q
    exact ⟨o, e, fun v z => (by rw [d] at z; cases z), (by rw [c]; intro z; injection z with z; exact absurd z (by decide))⟩
  keep := fun i h h' q k => q.at fun o z => k o z
  draw := fun X hP hw hK pins σ H s i I hh gg q => by
    subst hP hw hK
    obtain ⟨its, rv, p, _⟩ := I.list gg
    have hl := p.isList
    refine ⟨[it, a], fun j v => its.toArray[j]? = some v, fun h => h.IsList a its.toArray, ?_, hl, fun e he => ?_, ?_⟩
    · have D := Draws.list (prog := X.prog) (w := X.w) (A := X.A.in1) hh it a (isList_ne hl q) its.toArray
      rw [List.size_toArray, ← rv.length] at D
      exact D
    · obtain ⟨oe, h1, h2⟩ := he
      obtain ⟨oi, i1, i2, _⟩ := q
      obtain ⟨ol, l1, l2, _⟩ := hl
      simp only [List.mem_cons, List.not_mem_nil, or_false, not_or]
      exact ⟨cls_ne i1 i2 h1 h2 (by decide), cls_ne l1 l2 h1 h2 (by decide)⟩
    · intro j v hv
      have hv : its.toArray[j]? = some v := hv
      have hj : j < xs.length := by
        rw [rv.length]
        obtain ⟨h1, _⟩ := Array.getElem?_eq_some_iff.mp hv
        simpa using h1
      obtain ⟨u, hu, ru⟩ := rv.get (i := j) (x := xs[j]) (by simp [hj])
      have e : u = v := by
        have z : its[j]? = some v := by simpa using hv
        rw [hu] at z
        exact Option.some.inj z
      subst e
      exact ⟨xs[j], by simp [hj], ru⟩
theorem sour_tup (a : Addr) : Sour P w K it (fun i h => h.IsTupleIter it a i) (fun H => SqT K H a xs) xs where
  obj := fun i h q => by
    obtain ⟨o, e, c, d⟩ := q
    exact ⟨o, e, fun v z => (by rw [d] at z; cases z), (by rw [c]; intro z; injection z with z; exact absurd z (by decide))⟩
  keep := fun i h h' q k => q.at fun o z => k o z
  draw := fun X hP hw hK pins σ H s i I hh gg q => by
    subst hP hw hK
    obtain ⟨its, rv, p, _⟩ := I.tuple gg
    have hl : s.heap.IsTuple a its.toArray := p
    refine ⟨[it, a], fun j v => its.toArray[j]? = some v, fun h => h.IsTuple a its.toArray, ?_, hl, fun e he => ?_, ?_⟩
    · have D := Draws.tuple (prog := X.prog) (w := X.w) (A := X.A.in1) hh it a (isTup_ne hl q) its.toArray
      rw [List.size_toArray, ← rv.length] at D
      exact D
    · obtain ⟨oe, h1, h2⟩ := he
      obtain ⟨oi, i1, i2, _⟩ := q
      obtain ⟨ol, l1, l2, _⟩ := hl
      simp only [List.mem_cons, List.not_mem_nil, or_false, not_or]
      exact ⟨cls_ne i1 i2 h1 h2 (by decide), cls_ne l1 l2 h1 h2 (by decide)⟩
    · intro j v hv
      have hv : its.toArray[j]? = some v := hv
      have hj : j < xs.length := by
        rw [rv.length]
        obtain ⟨h1, _⟩ := Array.getElem?_eq_some_iff.mp hv
        simpa using h1
      obtain ⟨u, hu, ru⟩ := rv.get (i := j) (x := xs[j]) (by simp [hj])
      have e : u = v := by
        have z : its[j]? = some v := by simpa using hv
        rw [hu] at z
        exact Option.some.inj z
      subst e
      exact ⟨xs[j], by simp [hj], ru⟩
theorem iterTy_ne (x : Str) : strIterType x ≠ "enumerate" := by
  unfold strIterType
  split <;> decide
theorem sour_str (x : Str) (t : Tok) : Sour P w K it (fun i h => h.IsStrIter it (strIterType x) x t i) (fun _ => True) (x.cps.toList.map fun c => V.str ⟨#[c]⟩) where
  obj := fun i h q => by
    obtain ⟨o, e, c, d⟩ := q
    refine ⟨o, e, fun v z => (by rw [d] at z; cases z), ?_⟩
    rw [c]
    intro z
    injection z with z
    exact iterTy_ne x z
  keep := fun i h h' q k => by
    obtain ⟨o, e, c, d⟩ := q
    exact ⟨o, k o e, c, d⟩
  draw := fun X hP hw hK pins σ H s i I hh gg q => by
    subst hP hw hK
    refine ⟨[it], fun j v => ∃ c u, x.cps[j]? = some c ∧ v = .str ⟨#[c]⟩ u, fun _ => True, ?_, trivial, fun e he => ?_, ?_⟩
    · have D := Draws.text (prog := X.prog) (w := X.w) (A := X.A.in1) hh it x t
      have e1 : x.cps.size = (x.cps.toList.map fun c => V.str ⟨#[c]⟩).length := by simp
      rw [e1] at D
      exact ⟨fun i h z => D.live i h z.1, fun i h h' z k => ⟨D.frame i h h' z.1 k, trivial⟩, fun i s Q E hi z hQ => D.item i s Q E hi z.1 fun v h' tk p z' sb => hQ v h' tk p ⟨z', trivial⟩ sb, fun s Q E z hE => D.done s Q E z.1 hE⟩
    · obtain ⟨oe, h1, h2⟩ := he
      obtain ⟨oi, i1, i2, _⟩ := q
      simp only [List.mem_cons, List.not_mem_nil, or_false]
      exact cls_ne i1 i2 h1 h2 (iterTy_ne x)
    · rintro j v ⟨c, u, hc, rfl⟩
      exact ⟨.str ⟨#[c]⟩, by simp [hc], ⟨_, rfl⟩⟩
end
section
variable {Φ : FEnv} {XR : XRel} {M : Ow} {X : Cx} {W : WX} {T : Tab} {N : List Str} {sc : Scope} {fnB : Str → Bool}
/-! ### a sequence, walked -/
/-- any sequence -/
def iAny (K : PySem.W.Frag) (tl : TE) : TI := fun σ H R => tl σ H fun x H1 => (∃ a xs, x = .ref a ∧ SqL K H1 a xs ∧ R (Itl K a) H1) ∨ (∃ a xs, x = .ref a ∧ SqT K H1 a xs ∧ R (Itt K a) H1) ∨ ∃ z, x = .str z ∧ R (Its z) H1
theorem pi_any {tg l : Expr} {tl : TE} (hl : PE X l tl) : PI X tg l (iAny X.K tl) := by
  refine ⟨fun pins s σ H R I h => ?_⟩
  refine thn (hl.run pins s σ H _ I h) fun v s1 q0 => ?_
  obtain ⟨x, H1, I1, r1, q1⟩ := q0
  rcases q1 with ⟨a, xs, e, hq, q⟩ | ⟨a, xs, e, hq, q⟩ | ⟨z, e, q⟩
  · subst e
    cases r1
    obtain ⟨its, _, p, _⟩ := I1.list hq
    exact wpAny_pyIter_list p.isList (pi_one (tk := s1.toks) I1 _ (turn_list a _) ⟨_, Heap.get?_push_size _ rfl, rfl, rfl⟩ q)
  · subst e
    cases r1
    obtain ⟨its, _, p, _⟩ := I1.tuple hq
    exact wpAny_pyIter_tuple (show s1.heap.IsTuple a its.toArray from p) (pi_one (tk := s1.toks) I1 _ (turn_tuple a _) ⟨_, Heap.get?_push_size _ rfl, rfl, rfl⟩ q)
  · subst e
    obtain ⟨t, e'⟩ := r1
    subst e'
    cases ascii : z.cps.all (· < 128)
    · exact wpAny_pyIter_wide ascii (pi_one (tk := s1.toks) I1 _ (turn_str _ z t _ (.inr rfl)) ⟨_, Heap.get?_push_size _ rfl, rfl, rfl⟩ q)
    · exact wpAny_pyIter_ascii ascii (pi_one (tk := s1.toks) I1 _ (turn_str _ z t _ (.inl rfl)) ⟨_, Heap.get?_push_size _ rfl, rfl, rfl⟩ q)
theorem same_base {K : PySem.W.Frag} {fl : Bool} {H0 R H : Hp} {v : V} {ds : List D} (s : Same R H) (s0 : SameN H0 H) (h : RepB K fl H0 R H v (.lst ds)) : ∃ a vs, v = .ref a ∧ (∀ H'', SameN (if fl then R else H) H'' → SameN H0 H'' → SqL K H'' a vs) ∧ SqL K H a vs ∧ Reps K R vs ds := by
  rcases h with h | ⟨hf, h⟩
  · cases fl with
    | true =>
      have h' : Rep K R v (.lst ds) := h
      cases h' with
      | lst hs r => exact ⟨_, _, rfl, fun H'' e _ => SameN.seq (show SameN R H'' from e) hs, s.seq hs, r⟩
    | false =>
      obtain ⟨a, vs, e, hs, r⟩ := Shal.lst_inv s h
      exact ⟨a, vs, e, fun H'' e _ => SameN.seq e hs, hs, r⟩
  · subst hf
    rcases h with h | ⟨a, vs, es, h1, h2, h3, h4⟩ | ⟨a, tv, kvs, h1, h2, h3, h4⟩ | ⟨a, fp, h1, h2⟩
    · cases h with
      | lst hs r => exact ⟨_, _, rfl, fun H'' e _ => SameN.seq (show SameN R H'' from e) hs, s.seq hs, r⟩
    · cases h2
      exact ⟨a, vs, h1, fun H'' _ e => SameN.seq e h3, SameN.seq s0 h3, h4⟩
    · cases h2
    · cases h2 with
      | lst hs r => exact ⟨_, _, h1, fun H'' _ e => SameN.seq e (SqL.of hs), SameN.seq s0 (SqL.of hs), r⟩
theorem same_baseT {K : PySem.W.Frag} {fl : Bool} {H0 R H : Hp} {v : V} {ds : List D} (s : Same R H) (h : RepB K fl H0 R H v (.tup ds)) : ∃ a vs, v = .ref a ∧ (∀ H'', SameN (if fl then R else H) H'' → SameN H0 H'' → SqT K H'' a vs) ∧ SqT K H a vs ∧ Reps K R vs ds := by
  have go : ∃ a vs, v = .ref a ∧ SqT K R a vs ∧ Reps K R vs ds := by
    rcases h with h | ⟨_, h⟩
    · exact Shal.tup_inv h.shal
    · exact Shal.tup_inv h
  obtain ⟨a, vs, e, hs, r⟩ := go
  refine ⟨a, vs, e, fun H'' q _ => ?_, Same.seqT s hs, r⟩
  cases fl with
  | true => exact SameN.seqT q hs
  | false => exact SameN.seqT ((SameN.of s).trans q) hs
theorem RepB.str_inv {K : PySem.W.Frag} {fl : Bool} {H0 R H : Hp} {v : V} {t : List Nat} (h : RepB K fl H0 R H v (.str t)) : v = .str ⟨t.toArray⟩ ∧ GoodS t := by
  rcases h with h | ⟨_, h⟩
  · exact h.shal.str_inv
  · exact Shal.str_inv h
theorem RepB.later {K : PySem.W.Frag} {fl : Bool} {H0 R H R1 H1 : Hp} {v : V} {d : D} (h : RepB K fl H0 R H v d) (e : Ext R H R1 H1) : RepB K fl H0 R1 H1 v d := by
  rcases h with h | ⟨hf, h⟩
  · exact .inl (h.later e)
  · exact .inr ⟨hf, h.mono e.rr (SameN.refl _)⟩
/-- a list that is lent -/
theorem sb_lent (S : Site T Φ XR N sc fnB X W) {x : Str} {i : Nat} {pos : Pos} (h : slotOf sc N x = some i) (hm : i ∈ M.s) : SB Φ XR M X W true (.Name x pos) (.var i) := by
  obtain ⟨h1, h2, h3, h4⟩ := slot_ok S h
  refine ⟨_, pe_var h1 h2 h3 h4, fun R0 H0 R H σ ρ Q s p => ?_⟩
  have p : PostE XR R H (RepB X.K true H0) (getv ρ i) Q _ := p
  unfold getv at p
  split at p
  · rename_i d e
    obtain ⟨v, e1, _, _, r⟩ := s.val i d e
    exact ⟨v, e1, p.here s.sub (.inr ⟨rfl, r hm⟩)⟩
  · exact p.elim
theorem si_seq {tg e : Expr} {c : CE} {fl : Bool} (h : SB Φ XR M X W fl e c) : SI Φ XR M X W fl tg e (.seq c) := by
  obtain ⟨t, pe, h⟩ := h
  refine ⟨_, pi_any pe, fun R0 H0 R H σ ρ Q s p => ?_⟩
  simp only [evi] at p
  refine h R0 H0 R H σ ρ _ s (p.first fun x vx R1 H1 e1 r1 p1 => ?_)
  have stay : ∀ {vs : List V} {ds : List D}, Reps X.K R1 vs ds → ∀ i d, ds[i]? = some d → ∀ R2 H2 x H3, Same R1 R2 → Same R2 H2 → YAt vs i H2 x H3 → ∃ R3, Ext R2 H2 R3 H3 ∧ Rep X.K R3 x d := fun {vs ds} rr i d hd R2 H2 x H3 sa sb y => by
    obtain ⟨ee, hx⟩ := y
    subst ee
    obtain ⟨v, hv, rv⟩ := rr.get hd
    rw [hv] at hx
    cases hx
    exact ⟨R2, Ext.refl sb, rv.mono sa⟩
  cases x with
  | lst ds =>
    obtain ⟨a, vs, e, hG, hS, rr⟩ := same_base e1.sub (s.ext.hh.trans e1.hh) r1
    refine .inl ⟨a, vs, e, hS, PostE.here e1.sub p1 ⟨_, _, ?_, hG, stay rr⟩⟩
    rw [← rr.length]
    exact walk_list
  | tup ds =>
    obtain ⟨a, vs, e, hG, hS, rr⟩ := same_baseT e1.sub r1
    refine .inr (.inl ⟨a, vs, e, hS, PostE.here e1.sub p1 ⟨_, _, ?_, hG, stay rr⟩⟩)
    rw [← rr.length]
    exact walk_tup
  | str t =>
    obtain ⟨ev, g⟩ := r1.str_inv
    refine .inr (.inr ⟨_, ev, PostE.here e1.sub p1 ⟨fun _ => True, fun i H v H' => H' = H ∧ ∃ c, (⟨t.toArray⟩ : Str).cps[i]? = some c ∧ v = .str ⟨#[c]⟩, ?_, fun _ _ _ => trivial, ?_⟩⟩)
    · have e2 : (t.map fun c => D.str [c]).length = (⟨t.toArray⟩ : Str).cps.size := by simp
      rw [e2]
      exact walk_str
    · intro i d hd R2 H2 x H3 sa sb y
      obtain ⟨ee, c, hc, hx⟩ := y
      subst ee hx
      have hc' : t[i]? = some c := by simpa using hc
      rw [List.getElem?_map, hc'] at hd
      cases hd
      exact ⟨R2, Ext.refl sb, Rep.S1 (g.mem (List.mem_of_getElem? hc'))⟩
  | _ => exact p1.elim
/-! ### range -/
theorem rng_core {fl : Bool} {H0 R1 H1 : Hp} {i j : Int} {Q : It → Hp → Prop} {E : XK} (s : Same R1 H1) (p : PostE XR R1 H1 (RepI X.K fl H0) (rngR i j) Q E) :
    (-(2 ^ 62) ≤ i ∧ i < 2 ^ 62 ∧ -(2 ^ 62) ≤ j ∧ j < 2 ^ 62) ∧ Q (Itr i (j - i).toNat) H1 := by
  unfold rngR at p
  obtain ⟨hz, p⟩ := p.iff
  refine ⟨hz, PostE.here s p ⟨fun _ => True, YFn fun k => .int (i + k), ?_, fun _ _ _ => trivial, ?_⟩⟩
  · rw [List.length_map, List.length_range]
    exact walk_range
  · intro k d hd R2 H2 x H3 sa sb y
    obtain ⟨ee, hx⟩ := y
    subst ee hx
    rw [List.getElem?_map] at hd
    cases hr : (List.range (j - i).toNat)[k]? with
    | none => rw [hr] at hd; cases hd
    | some m =>
      rw [hr] at hd
      cases hd
      obtain ⟨h1, h2⟩ := List.getElem?_eq_some_iff.mp hr
      rw [List.getElem_range] at h2
      subst h2
      exact ⟨R2, Ext.refl sb, .int _⟩
theorem rng_core2 {fl : Bool} {H0 R1 H1 : Hp} {i j : Int} {Q : It → Hp → Prop} {E : XK} (s : Same R1 H1) (p : PostE XR R1 H1 (RepI X.K fl H0) (rngR2 i j) Q E) : Q (Itr i (j - i).toNat) H1 := by
  unfold rngR2 at p
  obtain ⟨hz, p⟩ := p.iff
  refine PostE.here s p ⟨fun _ => True, YFn fun k => .int (i + k), ?_, fun _ _ _ => trivial, ?_⟩
  · rw [List.length_map, List.length_range]
    exact walk_range
  · intro k d hd R2 H2 x H3 sa sb y
    obtain ⟨ee, hx⟩ := y
    subst ee hx
    rw [List.getElem?_map] at hd
    cases hr : (List.range (j - i).toNat)[k]? with
    | none => rw [hr] at hd; cases hd
    | some m =>
      rw [hr] at hd
      cases hd
      obtain ⟨h1, h2⟩ := List.getElem?_eq_some_iff.mp hr
      rw [List.getElem_range] at h2
      subst h2
      exact ⟨R2, Ext.refl sb, .int _⟩
theorem si_rng1 (S : Site T Φ XR N sc fnB X W) {tg a : Expr} {ca : CE} {p pos : Pos} {fl : Bool} (hg : isG sc "range" = true) (ha : SE Φ XR M X W false a ca) (hs : starEach [a] X.env = [(false, eval a X.env)]) :
    SI Φ XR M X W fl tg (.Call (.Name "range" p) [a] [] pos) (.rng1 ca) := by
  obtain ⟨ta, pa, ha⟩ := ha
  obtain ⟨g1, _, _⟩ := glob_ok S hg
  refine ⟨_, pi_range1 g1 (S.blt _ (by simp [bltNames])) (pa_cons pa pa_nil hs) hs, fun R0 H0 R H σ ρ Q s p => ?_⟩
  simp only [evi] at p
  refine ha R0 H0 R H σ ρ _ s (p.first fun x vx R1 H1 e1 r1 p1 => ?_)
  cases x with
  | int j =>
    cases r1.shal.int_inv
    obtain ⟨hz, q⟩ := rng_core e1.sub p1
    rw [Int.sub_zero] at q
    exact ⟨j, rfl, hz.2.2.1, hz.2.2.2, q⟩
  | _ => exact p1.elim
theorem si_rng2 (S : Site T Φ XR N sc fnB X W) {tg a b : Expr} {ca cb : CE} {p pos : Pos} {fl : Bool} (hg : isG sc "range" = true) (ha : SE Φ XR M X W false a ca) (hb : SE Φ XR M X W false b cb)
    (hs : starEach [a, b] X.env = [(false, eval a X.env), (false, eval b X.env)]) (hs2 : starEach [b] X.env = [(false, eval b X.env)]) : SI Φ XR M X W fl tg (.Call (.Name "range" p) [a, b] [] pos) (.rng2 ca cb) := by
  obtain ⟨ta, pa, ha⟩ := ha
  obtain ⟨tb, pb, hb⟩ := hb
  obtain ⟨g1, _, _⟩ := glob_ok S hg
  have hs3 : starEach [a, b] X.env = (false, eval a X.env) :: starEach [b] X.env := by rw [hs, hs2]
  refine ⟨_, pi_range2A g1 (S.blt _ (by simp [bltNames])) (pa_cons pa (pa_cons pb pa_nil hs2) hs3) hs hs2, fun R0 H0 R H σ ρ Q s p => ?_⟩
  simp only [evi] at p
  refine ha R0 H0 R H σ ρ _ s (p.first fun x vx R1 H1 e1 r1 p1 => ?_)
  refine hb R0 H0 R1 H1 σ ρ _ (s.later e1) (PostE.first p1 fun y vy R2 H2 e2 r2 p2 => ?_)
  cases x with
  | int i =>
    cases y with
    | int j =>
      cases r1.shal.int_inv
      cases r2.shal.int_inv
      exact ⟨i, j, rfl, rng_core2 e2.sub p2⟩
    | _ => exact p2.elim
  | _ => exact p2.elim
theorem rng_core3 {fl : Bool} {H0 R1 H1 : Hp} {i j : Int} {Q : It → Hp → Prop} {E : XK} (s : Same R1 H1) (p : PostE XR R1 H1 (RepI X.K fl H0) (rngR3 i j) Q E) :
    (-(2 ^ 62) ≤ i ∧ i < 2 ^ 62 ∧ -(2 ^ 62) ≤ j ∧ j < 2 ^ 62) ∧ Q (Itc i (-1) (i - j).toNat) H1 := by
  unfold rngR3 at p
  obtain ⟨hz, p⟩ := p.iff
  refine ⟨hz, PostE.here s p ⟨fun _ => True, YFn fun k => .int (i + (k : Nat) * (-1)), ?_, fun _ _ _ => trivial, ?_⟩⟩
  · rw [List.length_map, List.length_range]
    exact walk_rangeC
  · intro k d hd R2 H2 x H3 sa sb y
    obtain ⟨ee, hx⟩ := y
    subst ee hx
    rw [List.getElem?_map] at hd
    cases hr : (List.range (i - j).toNat)[k]? with
    | none => rw [hr] at hd; cases hd
    | some m =>
      rw [hr] at hd
      cases hd
      obtain ⟨h1, h2⟩ := List.getElem?_eq_some_iff.mp hr
      rw [List.getElem_range] at h2
      subst h2
      have e : i + ((k : Nat) : Int) * (-1) = i - (k : Int) := by omega
      show ∃ R2', Ext R2 H3 R2' H3 ∧ Rep X.K R2' (.int (i + ((k : Nat) : Int) * (-1))) (.int (i - (k : Int)))
      rw [e]
      exact ⟨R2, Ext.refl sb, .int _⟩
theorem si_rng3 (S : Site T Φ XR N sc fnB X W) {tg a b : Expr} {ca cb : CE} {k : Nat} {p p1 p2 pos : Pos} {fl : Bool} (hg : isG sc "range" = true) (ha : SE Φ XR M X W false a ca) (hb : SE Φ XR M X W false b cb)
    (hs : starEach [a, b, .UnaryOp .USub (.Constant (.int 1) k p1) p2] X.env = (false, eval a X.env) :: starEach [b, .UnaryOp .USub (.Constant (.int 1) k p1) p2] X.env)
    (hs2 : starEach [b, .UnaryOp .USub (.Constant (.int 1) k p1) p2] X.env = (false, eval b X.env) :: starEach [.UnaryOp .USub (.Constant (.int 1) k p1) p2] X.env) :
    SI Φ XR M X W fl tg (.Call (.Name "range" p) [a, b, .UnaryOp .USub (.Constant (.int 1) k p1) p2] [] pos) (.rng3 ca cb) := by
  obtain ⟨ta, pa, ha⟩ := ha
  obtain ⟨tb, pb, hb⟩ := hb
  obtain ⟨g1, _, _⟩ := glob_ok S hg
  refine ⟨_, pi_range3 g1 (S.blt _ (by simp [bltNames])) (pa_cons pa (pa_cons pb (pa_cons (pe_un un_neg pe_int) pa_nil rfl) hs2) hs) hs (by rw [hs2]; rfl), fun R0 H0 R H σ ρ Q s p => ?_⟩
  simp only [evi] at p
  refine ha R0 H0 R H σ ρ _ s (p.first fun x vx R1 H1 e1 r1 p1 => ?_)
  refine hb R0 H0 R1 H1 σ ρ _ (s.later e1) (PostE.first p1 fun y vy R2 H2 e2 r2 p2 => ?_)
  cases x with
  | int i =>
    cases y with
    | int j =>
      cases r1.shal.int_inv
      cases r2.shal.int_inv
      obtain ⟨hz, q⟩ := rng_core3 e2.sub p2
      exact ⟨1, rfl, i, j, -1, _, rfl, RgC.neg hz.1 hz.2.1 hz.2.2.1 hz.2.2.2, q⟩
    | _ => exact p2.elim
  | _ => exact p2.elim
/-! ### a number asked of a range -/
theorem cr_range1 : CallR X (.type "range") (fun vs H Q => ∃ j, vs = [V.int j] ∧ ∀ p, H p = none → Q (.ref p) (upd H p (.rng 0 j))) := by
  intro pins s σ H vs us Q I r h
  obtain ⟨j, rfl, q⟩ := h
  obtain ⟨u, rfl, ru⟩ := vals1 r
  obtain ⟨t, rfl⟩ := ru
  refine PySem.call_range_1 ⟨.ref s.heap.objs.size, upd H s.heap.objs.size (.rng 0 j), I.laid (t' := s.toks + 1 + 1) (fun b o e => Heap.get?_push_of_some _ e) (Nat.le_refl _) ?_, rfl, q _ (I.hok.fresh (Nat.le_refl _))⟩
  exact ⟨s.toks, t, s.toks + 1, Heap.get?_push_size _ rfl⟩
theorem op_notIn_rng : OpR X (compareOp .NotIn) (fun x y H Q => ∃ i a lo hi, x = V.int i ∧ y = V.ref a ∧ H a = some (.rng lo hi) ∧ Q (.bl (!decide (lo ≤ i ∧ i < hi))) H) := by
  intro pins s σ H x y v u Q I rx ry h
  obtain ⟨i, a, lo, hi, rfl, rfl, ha, q⟩ := h
  obtain ⟨k, rfl⟩ := rx
  obtain rfl : u = Value.ref a := ry
  obtain ⟨t1, t2, t3, ho⟩ := I.hok a _ ha
  show wpAny _ _ (do return Value.bool (!(← contains (Value.ref a) (Value.int i k)))) _ _ s
  refine wpAny_bind (wpAny_contains_slot (T := "range") ⟨_, ho, rfl⟩ F.slot_range_contains (call_meets F.slot_range_contains ⟨_, ho, rfl⟩ F.entry_range_contains (F.args_range_contains_2 _ _) (q_contains a lo hi i t1 t2 t3 k)
    ⟨ho, wpAny_truthy_bool (wpAny_pure ⟨.bl _, H, I, rfl, ?_⟩)⟩))
  rw [place1]
  exact q
theorem op_inr (k : Bool) : OpR X (compareOp (if k then .NotIn else .In)) (fun x y H Q => ∃ i a lo hi, x = V.int i ∧ y = V.ref a ∧ H a = some (.rng lo hi) ∧ Q (.bl (k != decide (lo ≤ i ∧ i < hi))) H) := by
  intro pins s σ H x y v u Q I rx ry h
  obtain ⟨i, a, lo, hi, rfl, rfl, ha, q⟩ := h
  cases k
  · exact op_in_rng pins s σ H _ _ v u Q I rx ry ⟨i, a, lo, hi, rfl, rfl, ha, by simpa using q⟩
  · exact op_notIn_rng pins s σ H _ _ v u Q I rx ry ⟨i, a, lo, hi, rfl, rfl, ha, by simpa using q⟩
theorem boot_range : bootBuiltins "range" = some (.type "range") := by decide +kernel
theorem inrR_n (k : Bool) (x y z : D) (c ps) : inrR k x y z ≠ .exc c ps := by
  intro h
  unfold inrR at h
  split at h <;> cases h
theorem inrR_ok {k : Bool} {x y z d : D} (h : inrR k x y z = .ok d) : ∃ i l u, x = .int i ∧ y = .int l ∧ z = .int u ∧ d = .bl (k != decide (l ≤ i ∧ i < u)) := by
  unfold inrR at h
  split at h
  · injection h with h
    exact ⟨_, _, _, rfl, rfl, rfl, h.symm⟩
  · cases h
/-- the reading of i in range(..), by the ends -/
theorem inr_core {α : Type} {k : Bool} {a : Expr} {ca cl ch : CE} {ta : TE} {t : TA} {mk : D → D → List V} {r : List V → Hp → VK → Prop}
    (ha : ∀ R0 H0 R H σ ρ Q, SR X.K M R0 H0 R H σ ρ → PostE XR R H (RepF X.K false) (ev Φ ca ρ) Q (fun cls dx H' => W cls dx σ H') → ta σ H Q)
    (ht : ∀ R0 H0 R H σ ρ Q, SR X.K M R0 H0 R H σ ρ → PostE XR R H (fun R1 H1 b l => ∃ y z vy vz, l = (y, z) ∧ Shal X.K R1 H1 vy y ∧ Shal X.K R1 H1 vz z ∧ ∀ lo hi, y = .int lo → z = .int hi → ∀ Q', (∀ p, H1 p = none → Q' (.ref p) (upd H1 p (.rng lo hi))) → r b H1 Q')
      ((ev Φ cl ρ).bind fun y => (ev Φ ch ρ).bind fun z => .ok (y, z)) Q (fun cls dx H' => W cls dx σ H') → t σ H Q)
    {R0 H0 R H : Hp} {σ : L2.St} {ρ : Rho} {Q : Bool → Hp → Prop} {Qv : VK} (hQ : ∀ b H', Q b H' → Qv (.bl b) H') (s : SR X.K M R0 H0 R H σ ρ)
    (p : PostE XR R H (fun _ _ b d => d = .bl b) (ev Φ (.inr k ca cl ch) ρ) Q (fun cls dx H' => W cls dx σ H')) :
    tOp (fun x y H Q => ∃ i a lo hi, x = V.int i ∧ y = V.ref a ∧ H a = some (.rng lo hi) ∧ Q (.bl (k != decide (lo ≤ i ∧ i < hi))) H) ta (tCB r t) σ H Qv := by
  simp only [ev] at p
  refine ha R0 H0 R H σ ρ _ s (p.first fun x vx R1 H1 e1 r1 p1 => ?_)
  have p1' : PostE XR R1 H1 (fun _ _ b d => d = .bl b) (((ev Φ cl ρ).bind fun y => (ev Φ ch ρ).bind fun z => .ok (y, z)).bind fun q => inrR k x q.1 q.2) Q (fun cls dx H' => W cls dx σ H') := by
    cases hc : ev Φ cl ρ with
    | ok y =>
      rw [hc] at p1
      simp only [Res.bind_ok] at p1 ⊢
      cases hd : ev Φ ch ρ with
      | ok z => rw [hd] at p1; exact p1
      | exc c ps => rw [hd] at p1; exact p1
      | stuck => rw [hd] at p1; exact p1
    | exc c ps => rw [hc] at p1; exact p1
    | stuck => rw [hc] at p1; exact p1
  refine ht R0 H0 R1 H1 σ ρ _ (s.later e1) (p1'.first fun q b R2 H2 e2 r2 p2 => ?_)
  obtain ⟨y, z, vy, vz, rfl, hy, hz, hr⟩ := r2
  simp only at p2
  cases hi : inrR k x y z with
  | exc c ps => exact absurd hi (inrR_n k x y z c ps)
  | stuck => rw [hi] at p2; exact p2.elim
  | ok d =>
    obtain ⟨i, l, u, rfl, rfl, rfl, rfl⟩ := inrR_ok hi
    cases r1.shal.int_inv
    refine hr l u rfl rfl _ fun pp hp => ⟨i, pp, l, u, rfl, rfl, upd_same, hQ _ _ ?_⟩
    rw [hi] at p2
    exact p2 _ R2 _ (Ext.new_ e2.sub hp) rfl
/-! ### enumerate, zip -/
def iEnu (K : PySem.W.Frag) (ta : TA) : TI := fun σ H R => ta σ H fun vs H1 => (∃ a xs, vs = [.ref a] ∧ SqL K H1 a xs ∧ R (ItE (fun H => SqL K H a xs) xs) H1) ∨ (∃ a xs, vs = [.ref a] ∧ SqT K H1 a xs ∧ R (ItE (fun H => SqT K H a xs) xs) H1) ∨
  ∃ z, vs = [.str z] ∧ R (ItE (fun _ => True) (z.cps.toList.map fun c => V.str ⟨#[c]⟩)) H1
theorem pi_enu {e : Expr} {ta : TA} {p pos tpos : Pos} {elts : List Expr} {kk : Nat} (hg : Gl X "enumerate") (hm : X.mg "enumerate" = none) (ha : PA X [e] ta) (hs : starEach [e] X.env = [(false, eval e X.env)]) :
    PI X (.Tuple elts kk tpos) (.Call (.Name "enumerate" p) [e] [] pos) (iEnu X.K ta) := by
  refine ⟨fun pins s σ H R I h => ?_⟩
  refine Call_ (ld_blt I hg hm boot_enumerate (PyProof.Rows.callWith_type1 (thn (ha.run pos pins s σ H _ I h) fun us s1 q0 => ?_) hs rfl))
  obtain ⟨vs, H1, I1, r1, q1⟩ := q0
  have fin : ∀ {st : Nat → Heap → Prop} {GG : Hp → Prop} {xs : List V} {o : Obj} {h' : Heap}, Sour X.prog X.w X.K s1.heap.objs.size st GG xs → IsEnum h' (s1.heap.objs.size + 1) s1.heap.objs.size 0 .none → st 0 h' → R (ItE GG xs) H1 → (∀ b u, s1.heap.get? b = some u → h'.get? b = some u) →
      PIE X pins σ (.Tuple elts kk tpos) R (.ref (s1.heap.objs.size + 1)) { s1 with heap := h' } := fun {st GG xs o h'} So he h0 q hk => by
    refine ⟨s1.heap.objs.size + 1, [s1.heap.objs.size + 1, s1.heap.objs.size], _, _, H1, rfl, I1.kept (t' := s1.toks) hk, turn_E So, ⟨⟨.none, he⟩, h0, Nat.succ_ne_self _⟩, fun b hb => ?_, q⟩
    have hle : s1.heap.objs.size ≤ b := by
      have hb' : b = s1.heap.objs.size + 1 ∨ b = s1.heap.objs.size := by simpa using hb
      rcases hb' with z | z
      · subst z; exact Nat.le_add_right _ _
      · subst z; exact Nat.le_refl _
    exact I1.fpOk hle (I1.hok.fresh hle)
  rcases q1 with ⟨a, xs, e, hq, q⟩ | ⟨a, xs, e, hq, q⟩ | ⟨z, e, q⟩
  · subst e
    have eu := Vals.ref1 r1
    subst eu
    obtain ⟨its, _, pl, _⟩ := I1.list hq
    exact psEnumCall (begins_list a its.toArray) pl.isList fun h' he ho hk => wpAny_pyIter_enum he (fin (o := default) (sour_list a) he ⟨_, ho, rfl, rfl⟩ q hk)
  · subst e
    have eu := Vals.ref1 r1
    subst eu
    obtain ⟨its, _, pl, _⟩ := I1.tuple hq
    exact psEnumCall (begins_tuple a its.toArray) (show s1.heap.IsTuple a its.toArray from pl) fun h' he ho hk => wpAny_pyIter_enum he (fin (o := default) (sour_tup a) he ⟨_, ho, rfl, rfl⟩ q hk)
  · subst e
    obtain ⟨u, eu, t, rfl⟩ := vals1 r1
    subst eu
    exact psEnumCall (begins_text z t) trivial fun h' he ho hk => wpAny_pyIter_enum he (fin (o := default) (sour_str z t) he ⟨_, ho, rfl, rfl⟩ q hk)
theorem pair_rep {K : PySem.W.Frag} {R1 R2 H2 H3 : Hp} {i : Nat} {x : V} {fa fb : Nat → Option V} {da db : D} (sa : Same R1 R2) (sb : Same R2 H2) (ya : ∀ v, fa i = some v → Rep K R1 v da) (yb : ∀ v, fb i = some v → Rep K R1 v db) (y : YPair fa fb i H2 x H3) :
    ∃ R3, Ext R2 H2 R3 H3 ∧ Rep K R3 x (.tup [da, db]) := by
  obtain ⟨T, a, b, h1, h2, h3, h4, h5⟩ := y
  subst h1 h3
  have m : Same R1 (upd R2 T (.tup [a, b])) := sa.trans (same_upd (sb.free h2))
  exact ⟨upd R2 T (.tup [a, b]), Ext.laid sb h2, .tup upd_same (.cons ((ya a h4).mono m) (.cons ((yb b h5).mono m) .nil))⟩
theorem zipIdx_get {xs : List D} {i : Nat} {d : D} (h : (xs.zipIdx.map fun p => D.tup [.int (p.2 : Int), p.1])[i]? = some d) : ∃ x, xs[i]? = some x ∧ d = .tup [.int (i : Nat), x] := by
  rw [List.getElem?_map, List.getElem?_zipIdx] at h
  cases e : xs[i]? with
  | none => rw [e] at h; cases h
  | some x =>
    rw [e] at h
    refine ⟨x, rfl, ?_⟩
    simpa using h.symm
theorem si_enu (S : Site T Φ XR N sc fnB X W) {a : Expr} {ca : CE} {p pos tpos : Pos} {elts : List Expr} {kk : Nat} {fl : Bool} (hg : isG sc "enumerate" = true) (ha : SB Φ XR M X W fl a ca) (hs : starEach [a] X.env = [(false, eval a X.env)]) :
    SI Φ XR M X W fl (.Tuple elts kk tpos) (.Call (.Name "enumerate" p) [a] [] pos) (.enu ca) := by
  obtain ⟨ta, pa, ha⟩ := ha
  obtain ⟨g1, _, _⟩ := glob_ok S hg
  refine ⟨_, pi_enu g1 (S.blt _ (by simp [bltNames])) (pa_cons pa pa_nil hs) hs, fun R0 H0 R H σ ρ Q s p => ?_⟩
  simp only [evi] at p
  refine ha R0 H0 R H σ ρ _ s (p.first fun x vx R1 H1 e1 r1 p1 => ?_)
  have gen : ∀ {GG : Hp → Prop} {vs : List V} {ds : List D}, (∀ H'', SameN (if fl then R1 else H1) H'' → SameN H0 H'' → GG H'') → Reps X.K R1 vs ds → PostE XR R1 H1 (RepI X.K fl H0) (.ok (ds.zipIdx.map fun p => .tup [.int (p.2 : Int), p.1])) Q (fun cls dx H' => W cls dx σ H') → Q (ItE GG vs) H1 := fun {GG vs ds} hG rr p => by
    refine PostE.here e1.sub p ⟨GG, YPair (fun i => some (.int (i : Nat))) (fun i => vs[i]?), ?_, hG, ?_⟩
    · have e2 : (ds.zipIdx.map fun p => D.tup [.int (p.2 : Int), p.1]).length = vs.length := by rw [List.length_map, List.length_zipIdx, rr.length]
      rw [e2]
      exact walk_E
    · intro i d hd R2 H2 x H3 sa sb y
      obtain ⟨z, hz, e3⟩ := zipIdx_get hd
      subst e3
      refine pair_rep sa sb (fun v hv => ?_) (fun v hv => ?_) y
      · cases hv
        exact .int _
      · obtain ⟨v', h1, h2⟩ := rr.get hz
        rw [h1] at hv
        cases hv
        exact h2
  cases x with
  | lst ds =>
    obtain ⟨a, vs, e, hG, hS, rr⟩ := same_base e1.sub (s.ext.hh.trans e1.hh) r1
    exact .inl ⟨a, vs, by rw [e], hS, gen hG rr p1⟩
  | tup ds =>
    obtain ⟨a, vs, e, hG, hS, rr⟩ := same_baseT e1.sub r1
    exact .inr (.inl ⟨a, vs, by rw [e], hS, gen hG rr p1⟩)
  | str t =>
    obtain ⟨ev, g⟩ := r1.str_inv
    refine .inr (.inr ⟨_, by rw [ev], gen (fun _ _ _ => trivial) (vs := (⟨t.toArray⟩ : Str).cps.toList.map fun c => V.str ⟨#[c]⟩) (ds := t.map fun c => .str [c]) ?_ p1⟩)
    have go : ∀ l : List Nat, (∀ c ∈ l, c ∈ t) → Reps X.K R1 (l.map fun c => V.str ⟨#[c]⟩) (l.map fun c => D.str [c]) := by
      intro l
      induction l with
      | nil => exact fun _ => .nil
      | cons c r ih => exact fun h => .cons (Rep.S1 (g.mem (h c (by simp)))) (ih fun d hd => h d (List.mem_cons_of_mem _ hd))
    exact go t fun _ h => h
  | _ => exact p1.elim
end
end Ps
end
section
set_option maxHeartbeats 4000000
/-! PsZip: zip of two, of three, lists and tuples as they come. -/
namespace PySem
open Sem (wp)
open AutoSeq1 (wpAny_loadPart')
abbrev zqT (xs : Array Value) : Obj := { cls := .type "tuple", data := .seq xs }
abbrev zqZ (TI TO : Addr) : Obj := { cls := .type "zip", data := .fields #[.none, .bool false, .bool false, .ref TI, .ref TO] }
abbrev zq2 (h : Heap) (o1 o2 : Obj) : Heap := (h.push o1).push o2
abbrev zq3 (h : Heap) (o1 o2 : Obj) : Heap := (zq2 h o1 o2).push (zqT #[.ref h.objs.size, .ref (h.push o1).objs.size])
abbrev zq4 (h : Heap) (o1 o2 : Obj) : Heap := (zq3 h o1 o2).push (zqT #[.none, .none])
theorem psZipNew2 {v1 v2 : Value} {o1 o2 : Obj} {G1 G2 : Heap → Prop} (B1 : Begins v1 o1 G1) (B2 : Begins v2 o2 G2) :
    Meets (Builtin.«zip.__new__» ⟨[.type "zip", v1, v2], []⟩) (fun _ R s => G1 s.heap ∧ G2 s.heap ∧
      R (.ok (.ret (.ref (zq4 s.heap o1 o2).objs.size))) { s with heap := (zq4 s.heap o1 o2).push (zqZ (zq2 s.heap o1 o2).objs.size (zq3 s.heap o1 o2).objs.size) }) :=
  .of_wp fun prog w A R s h => by
    obtain ⟨hp, gs, dr, tks, ost⟩ := s
    obtain ⟨g1, g2, h⟩ := h
    have hsub := sub_zip
    have it1 : ∀ {A' : Around} {E : Value → Shared → Prop} {Q : Value → Shared → Prop}, Q (.ref hp.objs.size) ⟨hp.push o1, gs, dr, tks, ost⟩ → wpAny (model prog w) A' (pyIter v1) Q E ⟨hp, gs, dr, tks, ost⟩ :=
      fun q => B1.iter prog w _ _ ⟨hp, gs, dr, tks, ost⟩ _ g1 q
    have it2 : ∀ {A' : Around} {E : Value → Shared → Prop} {Q : Value → Shared → Prop}, Q (.ref (hp.push o1).objs.size) ⟨(hp.push o1).push o2, gs, dr, tks, ost⟩ → wpAny (model prog w) A' (pyIter v2) Q E ⟨hp.push o1, gs, dr, tks, ost⟩ :=
      fun q => B2.iter prog w _ _ ⟨hp.push o1, gs, dr, tks, ost⟩ _ (B2.keeps _ _ g2 fun b o e => Heap.get?_push_of_some _ e) q
    wp_walk using it1, it2
    exact ⟨_, rfl, h⟩
abbrev zr3 (h : Heap) (o1 o2 o3 : Obj) : Heap := ((h.push o1).push o2).push o3
abbrev zr4 (h : Heap) (o1 o2 o3 : Obj) : Heap := (zr3 h o1 o2 o3).push (zqT #[.ref h.objs.size, .ref (h.push o1).objs.size, .ref ((h.push o1).push o2).objs.size])
abbrev zr5 (h : Heap) (o1 o2 o3 : Obj) : Heap := (zr4 h o1 o2 o3).push (zqT #[.none, .none, .none])
theorem psZipNew3 {v1 v2 v3 : Value} {o1 o2 o3 : Obj} {G1 G2 G3 : Heap → Prop} (B1 : Begins v1 o1 G1) (B2 : Begins v2 o2 G2) (B3 : Begins v3 o3 G3) :
    Meets (Builtin.«zip.__new__» ⟨[.type "zip", v1, v2, v3], []⟩) (fun _ R s => G1 s.heap ∧ G2 s.heap ∧ G3 s.heap ∧
      R (.ok (.ret (.ref (zr5 s.heap o1 o2 o3).objs.size))) { s with heap := (zr5 s.heap o1 o2 o3).push (zqZ (zr3 s.heap o1 o2 o3).objs.size (zr4 s.heap o1 o2 o3).objs.size) }) :=
  .of_wp fun prog w A R s h => by
    obtain ⟨hp, gs, dr, tks, ost⟩ := s
    obtain ⟨g1, g2, g3, h⟩ := h
    have hsub := sub_zip
    have it1 : ∀ {A' : Around} {E : Value → Shared → Prop} {Q : Value → Shared → Prop}, Q (.ref hp.objs.size) ⟨hp.push o1, gs, dr, tks, ost⟩ → wpAny (model prog w) A' (pyIter v1) Q E ⟨hp, gs, dr, tks, ost⟩ :=
      fun q => B1.iter prog w _ _ ⟨hp, gs, dr, tks, ost⟩ _ g1 q
    have it2 : ∀ {A' : Around} {E : Value → Shared → Prop} {Q : Value → Shared → Prop}, Q (.ref (hp.push o1).objs.size) ⟨(hp.push o1).push o2, gs, dr, tks, ost⟩ → wpAny (model prog w) A' (pyIter v2) Q E ⟨hp.push o1, gs, dr, tks, ost⟩ :=
      fun q => B2.iter prog w _ _ ⟨hp.push o1, gs, dr, tks, ost⟩ _ (B2.keeps _ _ g2 fun b o e => Heap.get?_push_of_some _ e) q
    have it3 : ∀ {A' : Around} {E : Value → Shared → Prop} {Q : Value → Shared → Prop}, Q (.ref ((hp.push o1).push o2).objs.size) ⟨((hp.push o1).push o2).push o3, gs, dr, tks, ost⟩ → wpAny (model prog w) A' (pyIter v3) Q E ⟨(hp.push o1).push o2, gs, dr, tks, ost⟩ :=
      fun q => B3.iter prog w _ _ ⟨(hp.push o1).push o2, gs, dr, tks, ost⟩ _ (B3.keeps _ _ g3 fun b o e => Heap.get?_push_of_some _ (Heap.get?_push_of_some _ e)) q
    wp_walk using it1, it2, it3
    exact ⟨_, rfl, h⟩
theorem adrN {a b : Nat} (h : ¬ (a : Nat) = b) : ¬ @Eq Addr a b := h
theorem zq_sep2 (I a b : Nat) (h1 : a < I) (h2 : b < I) : ZipSep2 (I + 4) (I + 2) (I + 3) I (I + 1) [I, a] [I + 1, b] := by
  constructor <;> (try simp only [List.mem_cons, List.not_mem_nil, or_false, not_or]) <;> first | (refine adrN ?_; omega) | (refine ⟨adrN ?_, adrN ?_⟩ <;> omega) | exact .inl trivial
theorem zq_sep3 (I a b c : Nat) (h1 : a < I) (h2 : b < I) (h3 : c < I) : ZipSep3 (I + 5) (I + 3) (I + 4) I (I + 1) (I + 2) [I, a] [I + 1, b] [I + 2, c] := by
  constructor <;> (try simp only [List.mem_cons, List.not_mem_nil, or_false, not_or]) <;> first | (refine adrN ?_; omega) | (refine ⟨adrN ?_, adrN ?_⟩ <;> omega) | exact .inl trivial
section
variable {prog : Program} {w : World} {A : Around} {E : Value → Shared → Prop} {s : Shared} {v1 v2 v3 : Value} {o1 o2 o3 : Obj} {G1 G2 G3 : Heap → Prop} {Q : Value → Shared → Prop}
theorem typeCall_zip_3 (a b c : Value) : checkTypeCall "zip" ⟨[a, b, c], []⟩ = pure () := by kernel_rfl
theorem newCall_zip_3 (a b c : Value) : checkBuiltinCall "zip.__new__" ⟨[.type "zip", a, b, c], []⟩ = pure () := by kernel_rfl
theorem args_object_init_4 (a b c d : Value) : argsOk "object.__init__" ⟨[a, b, c, d], []⟩ := by
  unfold argsOk; rw [signature?_of (id := "object.__init__") (n := ['_', '_', 't', 'i', 'n', 'i', '_', '_']) (o := ['t', 'c', 'e', 'j', 'b', 'o']) (by kernel_rfl) F.owner_object]; kernel_rfl
theorem psZip2 (B1 : Begins v1 o1 G1) (B2 : Begins v2 o2 G2) (g1 : G1 s.heap) (g2 : G2 s.heap)
    (h : ∀ h', IsZip h' (s.heap.objs.size + 4) (s.heap.objs.size + 2) (s.heap.objs.size + 3) .none → IsTupOf2 h' (s.heap.objs.size + 2) (.ref s.heap.objs.size) (.ref (s.heap.objs.size + 1)) →
      IsTupOf2 h' (s.heap.objs.size + 3) .none .none → h'.get? s.heap.objs.size = some o1 → h'.get? (s.heap.objs.size + 1) = some o2 → (∀ c o, s.heap.get? c = some o → h'.get? c = some o) → Q (.ref (s.heap.objs.size + 4)) { s with heap := h' }) :
    wpAny (model prog w) A (call (.type "zip") [v1, v2]) Q E s := by
  refine callType_new F.called_zip (by decide) (F.typeCall_zip_2 _ _) (F.newCall_zip_2 _ _) (fun obj => F.args_object_init_3 obj _ _) F.entry_zip_new (psZipNew2 B1 B2) ⟨g1, g2, ?_⟩
  have p1 : (s.heap.push o1).objs.size = s.heap.objs.size + 1 := Heap.size_push ..
  have p2 : (zq2 s.heap o1 o2).objs.size = s.heap.objs.size + 2 := by rw [Heap.size_push, p1]
  have p3 : (zq3 s.heap o1 o2).objs.size = s.heap.objs.size + 3 := by rw [Heap.size_push, p2]
  have p4 : (zq4 s.heap o1 o2).objs.size = s.heap.objs.size + 4 := by rw [Heap.size_push, p3]
  have up : ∀ (h : Heap) (o : Obj) {c : Addr} {u : Obj}, h.get? c = some u → (h.push o).get? c = some u := fun h o c u e => Heap.get?_push_of_some _ e
  have q5 := Heap.get?_push_size (zq4 s.heap o1 o2) (o := zqZ (zq2 s.heap o1 o2).objs.size (zq3 s.heap o1 o2).objs.size) rfl
  have q4 := up (zq4 s.heap o1 o2) (zqZ (zq2 s.heap o1 o2).objs.size (zq3 s.heap o1 o2).objs.size) (Heap.get?_push_size (zq3 s.heap o1 o2) (o := zqT #[.none, .none]) rfl)
  have q3 := up (zq4 s.heap o1 o2) (zqZ (zq2 s.heap o1 o2).objs.size (zq3 s.heap o1 o2).objs.size) (up (zq3 s.heap o1 o2) (zqT #[.none, .none]) (Heap.get?_push_size (zq2 s.heap o1 o2) (o := zqT #[.ref s.heap.objs.size, .ref (s.heap.push o1).objs.size]) rfl))
  have all : ∀ {c : Addr} {u : Obj}, (zq2 s.heap o1 o2).get? c = some u → ((zq4 s.heap o1 o2).push (zqZ (zq2 s.heap o1 o2).objs.size (zq3 s.heap o1 o2).objs.size)).get? c = some u := fun e => up _ _ (up _ _ (up _ _ e))
  have q2 := all (Heap.get?_push_size (s.heap.push o1) (o := o2) B2.free)
  have q1 := all (up _ o2 (Heap.get?_push_size s.heap (o := o1) B1.free))
  show _ ∧ _
  simp only [p1, p2, p3, p4] at q5 q4 q3 q2 q1 all ⊢
  exact ⟨⟨_, q5, rfl⟩, h _ q5 q3 q4 q1 q2 fun c o e => all (up _ _ (up _ _ e))⟩
theorem psZip3 (B1 : Begins v1 o1 G1) (B2 : Begins v2 o2 G2) (B3 : Begins v3 o3 G3) (g1 : G1 s.heap) (g2 : G2 s.heap) (g3 : G3 s.heap)
    (h : ∀ h', IsZip h' (s.heap.objs.size + 5) (s.heap.objs.size + 3) (s.heap.objs.size + 4) .none → IsTupOf3 h' (s.heap.objs.size + 3) (.ref s.heap.objs.size) (.ref (s.heap.objs.size + 1)) (.ref (s.heap.objs.size + 2)) →
      IsTupOf3 h' (s.heap.objs.size + 4) .none .none .none → h'.get? s.heap.objs.size = some o1 → h'.get? (s.heap.objs.size + 1) = some o2 → h'.get? (s.heap.objs.size + 2) = some o3 → (∀ c o, s.heap.get? c = some o → h'.get? c = some o) → Q (.ref (s.heap.objs.size + 5)) { s with heap := h' }) :
    wpAny (model prog w) A (call (.type "zip") [v1, v2, v3]) Q E s := by
  refine callType_new F.called_zip (by decide) (typeCall_zip_3 _ _ _) (newCall_zip_3 _ _ _) (fun obj => args_object_init_4 obj _ _ _) F.entry_zip_new (psZipNew3 B1 B2 B3) ⟨g1, g2, g3, ?_⟩
  have p1 : (s.heap.push o1).objs.size = s.heap.objs.size + 1 := Heap.size_push ..
  have p2 : ((s.heap.push o1).push o2).objs.size = s.heap.objs.size + 2 := by rw [Heap.size_push, p1]
  have p3 : (zr3 s.heap o1 o2 o3).objs.size = s.heap.objs.size + 3 := by rw [Heap.size_push, p2]
  have p4 : (zr4 s.heap o1 o2 o3).objs.size = s.heap.objs.size + 4 := by rw [Heap.size_push, p3]
  have p5 : (zr5 s.heap o1 o2 o3).objs.size = s.heap.objs.size + 5 := by rw [Heap.size_push, p4]
  have up : ∀ (h : Heap) (o : Obj) {c : Addr} {u : Obj}, h.get? c = some u → (h.push o).get? c = some u := fun h o c u e => Heap.get?_push_of_some _ e
  have q5 := Heap.get?_push_size (zr5 s.heap o1 o2 o3) (o := zqZ (zr3 s.heap o1 o2 o3).objs.size (zr4 s.heap o1 o2 o3).objs.size) rfl
  have q4 := up (zr5 s.heap o1 o2 o3) (zqZ (zr3 s.heap o1 o2 o3).objs.size (zr4 s.heap o1 o2 o3).objs.size) (Heap.get?_push_size (zr4 s.heap o1 o2 o3) (o := zqT #[.none, .none, .none]) rfl)
  have q3 := up (zr5 s.heap o1 o2 o3) (zqZ (zr3 s.heap o1 o2 o3).objs.size (zr4 s.heap o1 o2 o3).objs.size) (up (zr4 s.heap o1 o2 o3) (zqT #[.none, .none, .none]) (Heap.get?_push_size (zr3 s.heap o1 o2 o3) (o := zqT #[.ref s.heap.objs.size, .ref (s.heap.push o1).objs.size, .ref ((s.heap.push o1).push o2).objs.size]) rfl))
  have all : ∀ {c : Addr} {u : Obj}, (zr3 s.heap o1 o2 o3).get? c = some u → ((zr5 s.heap o1 o2 o3).push (zqZ (zr3 s.heap o1 o2 o3).objs.size (zr4 s.heap o1 o2 o3).objs.size)).get? c = some u := fun e => up _ _ (up _ _ (up _ _ e))
  have q2 := all (Heap.get?_push_size ((s.heap.push o1).push o2) (o := o3) B3.free)
  have q1 := all (up _ o3 (Heap.get?_push_size (s.heap.push o1) (o := o2) B2.free))
  have q0 := all (up _ o3 (up _ o2 (Heap.get?_push_size s.heap (o := o1) B1.free)))
  show _ ∧ _
  simp only [p1, p2, p3, p4, p5] at q5 q4 q3 q2 q1 q0 all ⊢
  exact ⟨⟨_, q5, rfl⟩, h _ q5 q3 q4 q0 q1 q2 fun c o e => all (up _ _ (up _ _ (up _ _ e)))⟩
end
end PySem
namespace Ps
open PySem PySem.Spec PyProof.Rows L2
variable [Tbs]
/-! ### a list or a tuple, as it comes -/
def StK : Bool → Addr → Addr → Nat → Heap → Prop
  | true => fun it a i h => h.IsListIter it a i
  | false => fun it a i h => h.IsTupleIter it a i
def BsK : Bool → Addr → Array Value → Heap → Prop
  | true => fun a its h => h.IsList a its
  | false => fun a its h => h.IsTuple a its
def SqK (K : PySem.W.Frag) : Bool → Hp → Addr → List V → Prop
  | true => SqL K
  | false => SqT K
def oIt : Bool → Addr → Obj
  | true => fun a => { cls := .type "list_iterator", data := .fields #[.ref a, .int 0 0] }
  | false => fun a => { cls := .type "tuple_iterator", data := .fields #[.ref a, .int 0 0] }
theorem begK (k : Bool) (a : Addr) (its : Array Value) : Begins (.ref a) (oIt k a) (BsK k a its) := by
  cases k
  · exact begins_tuple a its
  · exact begins_list a its
theorem stK_new {k : Bool} {it a : Addr} {h : Heap} (e : h.get? it = some (oIt k a)) : StK k it a 0 h := by
  cases k
  · exact ⟨_, e, rfl, rfl⟩
  · exact ⟨_, e, rfl, rfl⟩
theorem stK_obj {k : Bool} {it a : Addr} {i : Nat} {h : Heap} (q : StK k it a i h) : ∃ o, h.get? it = some o ∧ ∀ v, o.data ≠ .cell v := by
  cases k
  · obtain ⟨o, e, c, d⟩ := q
    exact ⟨o, e, fun v z => by rw [d] at z; cases z⟩
  · obtain ⟨o, e, c, d⟩ := q
    exact ⟨o, e, fun v z => by rw [d] at z; cases z⟩
theorem stK_at {k : Bool} {it a : Addr} {i : Nat} {h h' : Heap} (q : StK k it a i h) (f : ∀ o, h.get? it = some o → h'.get? it = some o) : StK k it a i h' := by
  cases k
  · exact Heap.IsTupleIter.at q f
  · exact Heap.IsListIter.at q f
section
variable {X : Cx} {pins : List (Addr × Obj)} {σ : L2.St} {H : Hp} {s : Shared}
theorem sqK_get {k : Bool} {a : Addr} {xs : List V} (I : Inv X pins σ H s) (q : SqK X.K k H a xs) : ∃ its : List Value, BsK k a its.toArray s.heap ∧ Vals xs its ∧ a < s.heap.objs.size := by
  cases k
  · obtain ⟨its, rv, p, _⟩ := I.tuple q
    obtain ⟨o, e, _⟩ := id p
    exact ⟨its, p, rv, Heap.lt_size e⟩
  · obtain ⟨its, rv, p, _⟩ := I.list q
    exact ⟨its, p.isList, rv, p.lt⟩
theorem drawK {k : Bool} {it a : Addr} {xs : List V} {i : Nat} (I : Inv X pins σ H s) (hh : X.A.handled = none) (q : SqK X.K k H a xs) (st : StK k it a i s.heap) :
    ∃ (its : List Value) (Pv : Nat → Value → Prop), Draws X.prog X.w X.A.in1 it [it, a] xs.length Pv (fun j h => StK k it a j h ∧ BsK k a its.toArray h) ∧ BsK k a its.toArray s.heap ∧ ∀ j v, Pv j v → ∃ x, xs[j]? = some x ∧ RelV x v := by
  obtain ⟨its, b, rv, _⟩ := sqK_get I q
  refine ⟨its, fun j v => its.toArray[j]? = some v, ?_, b, fun j v hv => ?_⟩
  · cases k
    · have D := Draws.tuple (prog := X.prog) (w := X.w) (A := X.A.in1) hh it a (isTup_ne b st) its.toArray
      rw [List.size_toArray, ← rv.length] at D
      exact D
    · have D := Draws.list (prog := X.prog) (w := X.w) (A := X.A.in1) hh it a (isList_ne b st) its.toArray
      rw [List.size_toArray, ← rv.length] at D
      exact D
  · have hv : its.toArray[j]? = some v := hv
    have hj : j < xs.length := by
      rw [rv.length]
      obtain ⟨h1, _⟩ := Array.getElem?_eq_some_iff.mp hv
      simpa using h1
    obtain ⟨u, hu, ru⟩ := rv.get (i := j) (x := xs[j]) (by simp [hj])
    have e : u = v := by
      have z : its[j]? = some v := by simpa using hv
      rw [hu] at z
      exact Option.some.inj z
    subst e
    exact ⟨xs[j], by simp [hj], ru⟩
end
/-! ### two -/
def ItZ2 (GG : Hp → Prop) (xs ys : List V) : It :=
  ⟨fun i H => GG H ∧ i < xs.length ∧ i < ys.length, fun i H v H' => ∃ T x y, v = .ref T ∧ H T = none ∧ H' = upd H T (.tup [x, y]) ∧ xs[i]? = some x ∧ ys[i]? = some y, fun i H => GG H ∧ i = min xs.length ys.length⟩
theorem walk_Z2 {GG : Hp → Prop} {xs ys : List V} : Walk (ItZ2 GG xs ys) (min xs.length ys.length) GG (YPair (fun i => xs[i]?) (fun i => ys[i]?)) :=
  ⟨fun i H hi g => ⟨g, by omega, by omega⟩, fun H g => ⟨g, rfl⟩, fun i H v H' _ _ ⟨T, x, y, h1, h2, h3, h4, h5⟩ => ⟨T, x, y, h1, h2, h3, h4, h5⟩⟩
theorem mem5 {c z a b d e : Addr} (h : c ∈ [z, a, b, d, e]) : c = z ∨ c = a ∨ c = b ∨ c = d ∨ c = e := by simpa using h
theorem mem6 {c z a b d e f : Addr} (h : c ∈ [z, a, b, d, e, f]) : c = z ∨ c = a ∨ c = b ∨ c = d ∨ c = e ∨ c = f := by simpa using h
theorem turn_Z2 {P : Program} {w : World} {K : PySem.W.Frag} {elts : List Expr} {kk : Nat} {tpos : Pos} {k1 k2 : Bool} {z TI TO i1 i2 a b : Addr} {xs ys : List V} (S : ZipSep2 z TI TO i1 i2 [i1, a] [i2, b]) :
    Turn P w K (.Tuple elts kk tpos) (ItZ2 (fun H => SqK K k1 H a xs ∧ SqK K k2 H b ys) xs ys) [z, TI, TO, i1, i2] z (fun i h => IsZip h z TI TO .none ∧ IsTupOf2 h TI (.ref i1) (.ref i2) ∧ (∃ x y, IsTupOf2 h TO x y) ∧ StK k1 i1 a i h ∧ StK k2 i2 b i h) where
  mem := by simp
  obj := fun i h q c hc => by
    obtain ⟨hz, hTI, ⟨x, y, hTO⟩, s1, s2⟩ := q
    rcases mem5 hc with e | e | e | e | e <;> rw [e]
    · exact ⟨_, hz, fun v q => nomatch q⟩
    · exact ⟨_, hTI, fun v q => nomatch q⟩
    · exact ⟨_, hTO, fun v q => nomatch q⟩
    · exact stK_obj s1
    · exact stK_obj s2
  keep := fun i h h' q f => by
    obtain ⟨hz, hTI, ⟨x, y, hTO⟩, s1, s2⟩ := q
    exact ⟨f z (by simp) _ hz, f TI (by simp) _ hTI, ⟨x, y, f TO (by simp) _ hTO⟩, stK_at s1 fun o e => f i1 (by simp) o e, stK_at s2 fun o e => f i2 (by simp) o e⟩
  item := by
    intro X hP hw hK hc i pins s σ H E I hf q hg
    subst hP hw hK
    obtain ⟨hz, hTI, ⟨x0, y0, hTO⟩, s1, s2⟩ := q
    obtain ⟨⟨q1, q2⟩, l1, l2⟩ := hg
    obtain ⟨_, Pa, D1, b1, p1⟩ := drawK I (I.ok.hd hc) q1 s1
    obtain ⟨_, Pb, D2, b2, p2⟩ := drawK I (I.ok.hd hc) q2 s2
    have zl : z < s.heap.objs.size := Heap.lt_size hz
    refine wpAny_pyNext_zipD2_item S D1 D2 hz hTI hTO ⟨s1, b1⟩ ⟨s2, b2⟩ l1 l2 fun u v h1 tk pu pv hz1 hTO1 t1 t2 hT hsz hk => ?_
    obtain ⟨x, hx, ru⟩ := p1 i u pu
    obtain ⟨y, hy, rv⟩ := p2 i v pv
    refine ⟨_, rfl, wpAny_letOwnedTupleGo_zip (s := { s with heap := h1, toks := tk }) hz1 fun h2 hz2 sb => ?_⟩
    have hT2 := (sb.2 _ (Nat.ne_of_gt zl)).trans hT
    have fresh : ObjOk X.prog X.w (upd H s.heap.objs.size (.tup [x, y])) h2 s.heap.objs.size (.tup [x, y]) := ⟨by show 2 ≤ sizeLine; decide, [u, v], .cons ru (.cons rv .nil), ⟨_, hT2, rfl, _, rfl⟩⟩
    have I1 : Inv X pins σ (upd H s.heap.objs.size (.tup [x, y])) { s with heap := h2, toks := tk } :=
      I.turnedNew (ch := [z, TI, TO, i1, i2]) (fun c ob hb e => (sb.2 c fun y => hb (by simp [y])).trans (hk c ob (fun y => hb (by simp [y])) (fun y => hb (by simp [y])) (fun y => hb (by simp [y])) (fun y => hb (by simp [y])) e)) hf (Nat.le_refl _) fresh
    refine ⟨.ref s.heap.objs.size, _, I1, rfl, ⟨_, x, y, rfl, I.hok.fresh (Nat.le_refl _), rfl, hx, hy⟩, ⟨hz2, ?_, ⟨u, v, (sb.2 _ S.TOz).trans hTO1⟩, stK_at t1.1 fun o e => (sb.2 _ (Ne.symm S.zi1)).trans e, stK_at t2.1 fun o e => (sb.2 _ (Ne.symm S.zi2)).trans e⟩, fun c hcm => ?_⟩
    · exact (sb.2 _ S.TIz).trans (hk _ _ S.TIz S.TITO S.TIi1 S.TIi2 hTI)
    · have lt : c < s.heap.objs.size := by
        rcases mem5 hcm with e | e | e | e | e <;> rw [e]
        · exact zl
        · exact Heap.lt_size hTI
        · exact Heap.lt_size hTO
        · obtain ⟨_, e1, _⟩ := stK_obj s1; exact Heap.lt_size e1
        · obtain ⟨_, e1, _⟩ := stK_obj s2; exact Heap.lt_size e1
      rw [upd_ne (Nat.ne_of_lt lt)]
      exact (hf c hcm).1
  done := by
    intro X hP hw hK hc i pins s σ H E I hf q hg
    subst hP hw hK
    obtain ⟨hz, hTI, ⟨x0, y0, hTO⟩, s1, s2⟩ := q
    obtain ⟨⟨q1, q2⟩, he⟩ := hg
    obtain ⟨_, Pa, D1, b1, p1⟩ := drawK I (I.ok.hd hc) q1 s1
    obtain ⟨_, Pb, D2, b2, p2⟩ := drawK I (I.ok.hd hc) q2 s2
    exact wpAny_pyNext_zipD2_end S D1 D2 hz hTI hTO ⟨s1, b1⟩ ⟨s2, b2⟩ (by omega) (by omega) (by omega) fun h1 tk hk => ⟨rfl, I.turnedL (t' := tk) (ch := [z, TI, TO, i1, i2]) (fun c o hb e =>
      hk c o (fun y => hb (by simp [y])) (fun y => hb (by simp [y])) (fun y => hb (by simp [y])) (fun y => hb (by simp [y])) e) hf⟩
  self := fun A i s Q E q h => wpAny_pyIter_zip q.1 h
/-! ### three -/
def YTrip (xs ys zs : Nat → Option V) : Nat → Hp → V → Hp → Prop := fun i H v H' => ∃ T x y z, v = .ref T ∧ H T = none ∧ H' = upd H T (.tup [x, y, z]) ∧ xs i = some x ∧ ys i = some y ∧ zs i = some z
def ItZ3 (GG : Hp → Prop) (xs ys zs : List V) : It :=
  ⟨fun i H => GG H ∧ i < xs.length ∧ i < ys.length ∧ i < zs.length, YTrip (fun i => xs[i]?) (fun i => ys[i]?) (fun i => zs[i]?), fun i H => GG H ∧ i = min (min xs.length ys.length) zs.length⟩
theorem walk_Z3 {GG : Hp → Prop} {xs ys zs : List V} : Walk (ItZ3 GG xs ys zs) (min (min xs.length ys.length) zs.length) GG (YTrip (fun i => xs[i]?) (fun i => ys[i]?) (fun i => zs[i]?)) :=
  ⟨fun i H hi g => ⟨g, by omega, by omega, by omega⟩, fun H g => ⟨g, rfl⟩, fun i H v H' _ _ y => y⟩
theorem turn_Z3 {P : Program} {w : World} {K : PySem.W.Frag} {elts : List Expr} {kk : Nat} {tpos : Pos} {k1 k2 k3 : Bool} {z TI TO i1 i2 i3 a b c0 : Addr} {xs ys zs : List V} (S : ZipSep3 z TI TO i1 i2 i3 [i1, a] [i2, b] [i3, c0]) :
    Turn P w K (.Tuple elts kk tpos) (ItZ3 (fun H => SqK K k1 H a xs ∧ SqK K k2 H b ys ∧ SqK K k3 H c0 zs) xs ys zs) [z, TI, TO, i1, i2, i3] z (fun i h => IsZip h z TI TO .none ∧ IsTupOf3 h TI (.ref i1) (.ref i2) (.ref i3) ∧ (∃ x y u, IsTupOf3 h TO x y u) ∧ StK k1 i1 a i h ∧ StK k2 i2 b i h ∧ StK k3 i3 c0 i h) where
  mem := by simp
  obj := fun i h q c hc => by
    obtain ⟨hz, hTI, ⟨x, y, u, hTO⟩, s1, s2, s3⟩ := q
    rcases mem6 hc with e | e | e | e | e | e <;> rw [e]
    · exact ⟨_, hz, fun v q => nomatch q⟩
    · exact ⟨_, hTI, fun v q => nomatch q⟩
    · exact ⟨_, hTO, fun v q => nomatch q⟩
    · exact stK_obj s1
    · exact stK_obj s2
    · exact stK_obj s3
  keep := fun i h h' q f => by
    obtain ⟨hz, hTI, ⟨x, y, u, hTO⟩, s1, s2, s3⟩ := q
    exact ⟨f z (by simp) _ hz, f TI (by simp) _ hTI, ⟨x, y, u, f TO (by simp) _ hTO⟩, stK_at s1 fun o e => f i1 (by simp) o e, stK_at s2 fun o e => f i2 (by simp) o e, stK_at s3 fun o e => f i3 (by simp) o e⟩
  item := by
    intro X hP hw hK hc i pins s σ H E I hf q hg
    subst hP hw hK
    obtain ⟨hz, hTI, ⟨x0, y0, u0, hTO⟩, s1, s2, s3⟩ := q
    obtain ⟨⟨q1, q2, q3⟩, l1, l2, l3⟩ := hg
    obtain ⟨_, Pa, D1, b1, p1⟩ := drawK I (I.ok.hd hc) q1 s1
    obtain ⟨_, Pb, D2, b2, p2⟩ := drawK I (I.ok.hd hc) q2 s2
    obtain ⟨_, Pc, D3, b3, p3⟩ := drawK I (I.ok.hd hc) q3 s3
    have zl : z < s.heap.objs.size := Heap.lt_size hz
    refine wpAny_pyNext_zipD3_item S D1 D2 D3 hz hTI hTO ⟨s1, b1⟩ ⟨s2, b2⟩ ⟨s3, b3⟩ l1 l2 l3 fun u v t h1 tk pu pv pt hz1 hTO1 t1 t2 t3 hT hsz hk => ?_
    obtain ⟨x, hx, ru⟩ := p1 i u pu
    obtain ⟨y, hy, rv⟩ := p2 i v pv
    obtain ⟨o3, ho3, rt⟩ := p3 i t pt
    refine ⟨_, rfl, wpAny_letOwnedTupleGo_zip (s := { s with heap := h1, toks := tk }) hz1 fun h2 hz2 sb => ?_⟩
    have hT2 := (sb.2 _ (Nat.ne_of_gt zl)).trans hT
    have fresh : ObjOk X.prog X.w (upd H s.heap.objs.size (.tup [x, y, o3])) h2 s.heap.objs.size (.tup [x, y, o3]) := ⟨by show 3 ≤ sizeLine; decide, [u, v, t], .cons ru (.cons rv (.cons rt .nil)), ⟨_, hT2, rfl, _, rfl⟩⟩
    have I1 : Inv X pins σ (upd H s.heap.objs.size (.tup [x, y, o3])) { s with heap := h2, toks := tk } :=
      I.turnedNew (ch := [z, TI, TO, i1, i2, i3]) (fun c ob hb e => (sb.2 c fun y => hb (by simp [y])).trans (hk c ob (fun y => hb (by simp [y])) (fun y => hb (by simp [y])) (fun y => hb (by simp [y])) (fun y => hb (by simp [y])) (fun y => hb (by simp [y])) e)) hf (Nat.le_refl _) fresh
    refine ⟨.ref s.heap.objs.size, _, I1, rfl, ⟨_, x, y, o3, rfl, I.hok.fresh (Nat.le_refl _), rfl, hx, hy, ho3⟩, ⟨hz2, ?_, ⟨u, v, t, (sb.2 _ S.TOz).trans hTO1⟩, stK_at t1.1 fun o e => (sb.2 _ (Ne.symm S.zi1)).trans e, stK_at t2.1 fun o e => (sb.2 _ (Ne.symm S.zi2)).trans e, stK_at t3.1 fun o e => (sb.2 _ (Ne.symm S.zi3)).trans e⟩, fun c hcm => ?_⟩
    · exact (sb.2 _ S.TIz).trans (hk _ _ S.TIz S.TITO S.TIi1 S.TIi2 S.TIi3 hTI)
    · have lt : c < s.heap.objs.size := by
        rcases mem6 hcm with e | e | e | e | e | e <;> rw [e]
        · exact zl
        · exact Heap.lt_size hTI
        · exact Heap.lt_size hTO
        · obtain ⟨_, e1, _⟩ := stK_obj s1; exact Heap.lt_size e1
        · obtain ⟨_, e1, _⟩ := stK_obj s2; exact Heap.lt_size e1
        · obtain ⟨_, e1, _⟩ := stK_obj s3; exact Heap.lt_size e1
      rw [upd_ne (Nat.ne_of_lt lt)]
      exact (hf c hcm).1
  done := by
    intro X hP hw hK hc i pins s σ H E I hf q hg
    subst hP hw hK
    obtain ⟨hz, hTI, ⟨x0, y0, u0, hTO⟩, s1, s2, s3⟩ := q
    obtain ⟨⟨q1, q2, q3⟩, he⟩ := hg
    obtain ⟨_, Pa, D1, b1, p1⟩ := drawK I (I.ok.hd hc) q1 s1
    obtain ⟨_, Pb, D2, b2, p2⟩ := drawK I (I.ok.hd hc) q2 s2
    obtain ⟨_, Pc, D3, b3, p3⟩ := drawK I (I.ok.hd hc) q3 s3
    exact wpAny_pyNext_zipD3_end S D1 D2 D3 hz hTI hTO ⟨s1, b1⟩ ⟨s2, b2⟩ ⟨s3, b3⟩ (by omega) (by omega) (by omega) (by omega) fun h1 tk hk => ⟨rfl, I.turnedL (t' := tk) (ch := [z, TI, TO, i1, i2, i3]) (fun c o hb e =>
      hk c o (fun y => hb (by simp [y])) (fun y => hb (by simp [y])) (fun y => hb (by simp [y])) (fun y => hb (by simp [y])) (fun y => hb (by simp [y])) e) hf⟩
  self := fun A i s Q E q h => wpAny_pyIter_zip q.1 h
/-! ### as they are asked for -/
def iZ2 (K : PySem.W.Frag) (ta : TA) : TI := fun σ H R => ta σ H fun vs H1 => ∃ (k1 k2 : Bool) (a b : Addr) (xs ys : List V), vs = [.ref a, .ref b] ∧ SqK K k1 H1 a xs ∧ SqK K k2 H1 b ys ∧ R (ItZ2 (fun H => SqK K k1 H a xs ∧ SqK K k2 H b ys) xs ys) H1
def iZ3 (K : PySem.W.Frag) (ta : TA) : TI := fun σ H R => ta σ H fun vs H1 => ∃ (k1 k2 k3 : Bool) (a b c : Addr) (xs ys zs : List V), vs = [.ref a, .ref b, .ref c] ∧ SqK K k1 H1 a xs ∧ SqK K k2 H1 b ys ∧ SqK K k3 H1 c zs ∧ R (ItZ3 (fun H => SqK K k1 H a xs ∧ SqK K k2 H b ys ∧ SqK K k3 H c zs) xs ys zs) H1
section
variable {X : Cx}
theorem pi_z2 {e e2 : Expr} {ta : TA} {p pos tpos : Pos} {elts : List Expr} {kk : Nat} (hg : Gl X "zip") (hm : X.mg "zip" = none) (ha : PA X [e, e2] ta)
    (hs : starEach [e, e2] X.env = (false, eval e X.env) :: starEach [e2] X.env) (hpl : (backTo pos (starEach [e2] X.env)).any (·.1) = false) :
    PI X (.Tuple elts kk tpos) (.Call (.Name "zip" p) [e, e2] [] pos) (iZ2 X.K ta) := by
  refine ⟨fun pins s σ H R I h => Call_ (ld_blt I hg hm PyProof.Rows.boot_zip (PyProof.Rows.callWith_type1 (thn (ha.run pos pins s σ H _ I h) fun us s1 ⟨vs, H1, I1, r1, q1⟩ => ?_) hs hpl))⟩
  obtain ⟨k1, k2, a, b, xs, ys, rfl, q1, q2, q⟩ := q1
  have er : us = [.ref a, .ref b] := by
    cases r1 with
    | cons r rr =>
      cases rr with
      | cons r' rr =>
        cases rr
        cases r
        cases r'
        rfl
  subst er
  obtain ⟨is1, b1, _, l1⟩ := sqK_get I1 q1
  obtain ⟨is2, b2, _, l2⟩ := sqK_get I1 q2
  refine psZip2 (begK k1 a is1.toArray) (begK k2 b is2.toArray) b1 b2 fun h1 hz hTI hTO o1 o2 hk => wpAny_pyIter_zip hz ?_
  have I2 : Inv X pins σ H1 { s1 with heap := h1 } := I1.kept (t' := s1.toks) hk
  refine ⟨s1.heap.objs.size + 4, [s1.heap.objs.size + 4, s1.heap.objs.size + 2, s1.heap.objs.size + 3, s1.heap.objs.size, s1.heap.objs.size + 1], _, _, H1, rfl, I2, turn_Z2 (zq_sep2 s1.heap.objs.size a b l1 l2), ⟨hz, hTI, ⟨_, _, hTO⟩, stK_new o1, stK_new o2⟩, fun c hcm => ?_, q⟩
  have le : s1.heap.objs.size ≤ c := by
    rcases mem5 hcm with e | e | e | e | e <;> rw [e] <;> first | exact Nat.le_refl _ | exact Nat.le_add_right _ _
  exact I1.fpOk le (I1.hok.fresh le)
theorem pi_z3 {e e2 e3 : Expr} {ta : TA} {p pos tpos : Pos} {elts : List Expr} {kk : Nat} (hg : Gl X "zip") (hm : X.mg "zip" = none) (ha : PA X [e, e2, e3] ta)
    (hs : starEach [e, e2, e3] X.env = (false, eval e X.env) :: starEach [e2, e3] X.env) (hpl : (backTo pos (starEach [e2, e3] X.env)).any (·.1) = false) :
    PI X (.Tuple elts kk tpos) (.Call (.Name "zip" p) [e, e2, e3] [] pos) (iZ3 X.K ta) := by
  refine ⟨fun pins s σ H R I h => Call_ (ld_blt I hg hm PyProof.Rows.boot_zip (PyProof.Rows.callWith_type1 (thn (ha.run pos pins s σ H _ I h) fun us s1 ⟨vs, H1, I1, r1, q1⟩ => ?_) hs hpl))⟩
  obtain ⟨k1, k2, k3, a, b, c, xs, ys, zs, rfl, q1, q2, q3, q⟩ := q1
  have er : us = [.ref a, .ref b, .ref c] := by
    cases r1 with
    | cons r rr =>
      cases rr with
      | cons r' rr =>
        cases rr with
        | cons r'' rr =>
          cases rr
          cases r
          cases r'
          cases r''
          rfl
  subst er
  obtain ⟨is1, b1, _, l1⟩ := sqK_get I1 q1
  obtain ⟨is2, b2, _, l2⟩ := sqK_get I1 q2
  obtain ⟨is3, b3, _, l3⟩ := sqK_get I1 q3
  refine psZip3 (begK k1 a is1.toArray) (begK k2 b is2.toArray) (begK k3 c is3.toArray) b1 b2 b3 fun h1 hz hTI hTO o1 o2 o3 hk => wpAny_pyIter_zip hz ?_
  have I2 : Inv X pins σ H1 { s1 with heap := h1 } := I1.kept (t' := s1.toks) hk
  refine ⟨s1.heap.objs.size + 5, [s1.heap.objs.size + 5, s1.heap.objs.size + 3, s1.heap.objs.size + 4, s1.heap.objs.size, s1.heap.objs.size + 1, s1.heap.objs.size + 2], _, _, H1, rfl, I2, turn_Z3 (zq_sep3 s1.heap.objs.size a b c l1 l2 l3), ⟨hz, hTI, ⟨_, _, _, hTO⟩, stK_new o1, stK_new o2, stK_new o3⟩, fun c hcm => ?_, q⟩
  have le : s1.heap.objs.size ≤ c := by
    rcases mem6 hcm with e | e | e | e | e | e <;> rw [e] <;> first | exact Nat.le_refl _ | exact Nat.le_add_right _ _
  exact I1.fpOk le (I1.hok.fresh le)
end
end Ps
end
section
set_option maxHeartbeats 4000000
/-! PsSE4: zip, comprehensions, all expressions. -/
namespace Ps
open PySem PySem.Spec PyProof.Rows L2
variable [Tbs]
section
variable {Φ : FEnv} {XR : XRel} {M : Ow} {X : Cx} {W : WX} {T : Tab} {N : List Str} {sc : Scope} {fnB : Str → Bool}
/-! ### zip -/
theorem zip_get {xs ys : List D} {i : Nat} {d : D} (h : (List.zipWith (fun p q => D.tup [p, q]) xs ys)[i]? = some d) : ∃ x y, xs[i]? = some x ∧ ys[i]? = some y ∧ d = .tup [x, y] := by
  rw [List.getElem?_zipWith] at h
  cases e : xs[i]? with
  | none => rw [e] at h; simp at h
  | some x =>
    cases e2 : ys[i]? with
    | none => rw [e, e2] at h; simp at h
    | some y =>
      rw [e, e2] at h
      exact ⟨x, y, rfl, rfl, by simpa using h.symm⟩
/-- what stands behind a list or a tuple -/
theorem same_sq {K : PySem.W.Frag} {fl : Bool} {H0 R H : Hp} {v : V} {d : D} {ds : List D} (e : sqD d = some ds) (s : Same R H) (s0 : SameN H0 H) (h : RepB K fl H0 R H v d) : ∃ k a vs, v = .ref a ∧ (∀ H'', SameN (if fl then R else H) H'' → SameN H0 H'' → SqK K k H'' a vs) ∧ SqK K k H a vs ∧ Reps K R vs ds := by
  cases d with
  | lst xs =>
    cases e
    obtain ⟨a, vs, ea, hG, hS, rr⟩ := same_base s s0 h
    exact ⟨true, a, vs, ea, hG, hS, rr⟩
  | tup xs =>
    cases e
    obtain ⟨a, vs, ea, hG, hS, rr⟩ := same_baseT s h
    exact ⟨false, a, vs, ea, hG, hS, rr⟩
  | _ => cases e
theorem zipR_sq {x y : D} : zipR x y = match sqD x, sqD y with
    | some xs, some ys => .ok (List.zipWith (fun p q => .tup [p, q]) xs ys)
    | _, _ => .stuck := by
  cases x <;> cases y <;> rfl
theorem SqK.later {K : PySem.W.Frag} {k : Bool} {H H' : Hp} {a : Addr} {vs : List V} (h : SqK K k H a vs) (s : SameN H H') : SqK K k H' a vs := by
  cases k
  · exact SameN.seqT s h
  · exact SameN.seq s h
theorem si_zip (S : Site T Φ XR N sc fnB X W) {a b : Expr} {ca cb : CE} {p pos tpos : Pos} {elts : List Expr} {kk : Nat} {fl : Bool} (hg : isG sc "zip" = true) (ha : SB Φ XR M X W fl a ca) (hb : SB Φ XR M X W fl b cb)
    (hs : starEach [a, b] X.env = (false, eval a X.env) :: starEach [b] X.env) (hs2 : starEach [b] X.env = (false, eval b X.env) :: starEach [] X.env) (hpl : (backTo pos (starEach [b] X.env)).any (·.1) = false) :
    SI Φ XR M X W fl (.Tuple elts kk tpos) (.Call (.Name "zip" p) [a, b] [] pos) (.zip ca cb) := by
  obtain ⟨ta, pa, ha⟩ := ha
  obtain ⟨tb, pb, hb⟩ := hb
  obtain ⟨g1, _, _⟩ := glob_ok S hg
  refine ⟨_, pi_z2 g1 (S.blt _ (by simp [bltNames])) (pa_cons pa (pa_cons pb pa_nil hs2) hs) hs hpl, fun R0 H0 R H σ ρ Q s p => ?_⟩
  simp only [evi] at p
  refine ha R0 H0 R H σ ρ _ s (p.first fun x vx R1 H1 e1 r1 p1 => ?_)
  refine hb R0 H0 R1 H1 σ ρ _ (s.later e1) (PostE.first p1 fun y vy R2 H2 e2 r2 p2 => ?_)
  have r1 := r1.later e2
  have s0 := ((s.later e1).later e2).ext.hh
  rw [zipR_sq] at p2
  cases ex : sqD x with
  | none => rw [ex] at p2; exact p2.elim
  | some ds =>
    rw [ex] at p2
    cases ey : sqD y with
    | none => rw [ey] at p2; exact p2.elim
    | some es =>
      rw [ey] at p2
      obtain ⟨k1, a, vs, ea, hG, hS, rr⟩ := same_sq ex e2.sub s0 r1
      obtain ⟨k2, b, ws, eb, hG2, hS2, rr2⟩ := same_sq ey e2.sub s0 r2
      refine ⟨k1, k2, a, b, vs, ws, by rw [ea, eb], hS, hS2, ?_⟩
      refine PostE.here e2.sub p2 ⟨fun H => SqK X.K k1 H a vs ∧ SqK X.K k2 H b ws, YPair (fun i => vs[i]?) (fun i => ws[i]?), ?_, fun H'' e e0 => ⟨hG H'' e e0, hG2 H'' e e0⟩, ?_⟩
      · have e3 : (List.zipWith (fun p q => D.tup [p, q]) ds es).length = min vs.length ws.length := by rw [List.length_zipWith, rr.length, rr2.length]
        rw [e3]
        exact walk_Z2
      · intro i d hd R3 H3 x H4 sa sb yy
        obtain ⟨u, v, h1, h2, e4⟩ := zip_get hd
        subst e4
        refine pair_rep sa sb (fun z hz => ?_) (fun z hz => ?_) yy
        · obtain ⟨z', q1, q2⟩ := rr.get h1
          rw [q1] at hz
          cases hz
          exact q2
        · obtain ⟨z', q1, q2⟩ := rr2.get h2
          rw [q1] at hz
          cases hz
          exact q2
theorem trip_rep {K : PySem.W.Frag} {R1 R2 H2 H3 : Hp} {i : Nat} {x : V} {fa fb fc : Nat → Option V} {da db dc : D} (sa : Same R1 R2) (sb : Same R2 H2) (ya : ∀ v, fa i = some v → Rep K R1 v da) (yb : ∀ v, fb i = some v → Rep K R1 v db) (yc : ∀ v, fc i = some v → Rep K R1 v dc) (y : YTrip fa fb fc i H2 x H3) :
    ∃ R3, Ext R2 H2 R3 H3 ∧ Rep K R3 x (.tup [da, db, dc]) := by
  obtain ⟨T, a, b, c, h1, h2, h3, h4, h5, h6⟩ := y
  subst h1 h3
  have m : Same R1 (upd R2 T (.tup [a, b, c])) := sa.trans (same_upd (sb.free h2))
  exact ⟨upd R2 T (.tup [a, b, c]), Ext.laid sb h2, .tup upd_same (.cons ((ya a h4).mono m) (.cons ((yb b h5).mono m) (.cons ((yc c h6).mono m) .nil)))⟩
theorem zip3_get : ∀ {xs ys zs : List D} {i : Nat} {d : D}, (zipW3 xs ys zs)[i]? = some d → ∃ x y z, xs[i]? = some x ∧ ys[i]? = some y ∧ zs[i]? = some z ∧ d = .tup [x, y, z]
  | [], _, _, _, _, h => by simp [zipW3] at h
  | _ :: _, [], _, _, _, h => by simp [zipW3] at h
  | _ :: _, _ :: _, [], _, _, h => by simp [zipW3] at h
  | x :: xs, y :: ys, z :: zs, 0, d, h => by
    simp only [zipW3, List.getElem?_cons_zero, Option.some.injEq] at h
    exact ⟨x, y, z, rfl, rfl, rfl, h.symm⟩
  | x :: xs, y :: ys, z :: zs, i + 1, d, h => by
    simp only [zipW3, List.getElem?_cons_succ] at h
    obtain ⟨a, b, c, h1, h2, h3, h4⟩ := zip3_get h
    exact ⟨a, b, c, by simpa using h1, by simpa using h2, by simpa using h3, h4⟩
theorem zip3_len : ∀ (xs ys zs : List D), (zipW3 xs ys zs).length = min (min xs.length ys.length) zs.length
  | [], _, _ => by simp [zipW3]
  | _ :: _, [], _ => by simp [zipW3]
  | _ :: _, _ :: _, [] => by simp [zipW3]
  | x :: xs, y :: ys, z :: zs => by
    simp only [zipW3, List.length_cons]
    rw [zip3_len xs ys zs]
    omega
theorem si_zip3 (S : Site T Φ XR N sc fnB X W) {a b c : Expr} {ca cb cc : CE} {p pos tpos : Pos} {elts : List Expr} {kk : Nat} {fl : Bool} (hg : isG sc "zip" = true) (ha : SB Φ XR M X W fl a ca) (hb : SB Φ XR M X W fl b cb) (hc : SB Φ XR M X W fl c cc)
    (hs : starEach [a, b, c] X.env = (false, eval a X.env) :: starEach [b, c] X.env) (hs2 : starEach [b, c] X.env = (false, eval b X.env) :: starEach [c] X.env) (hs3 : starEach [c] X.env = (false, eval c X.env) :: starEach [] X.env)
    (hpl : (backTo pos (starEach [b, c] X.env)).any (·.1) = false) :
    SI Φ XR M X W fl (.Tuple elts kk tpos) (.Call (.Name "zip" p) [a, b, c] [] pos) (.zip3 ca cb cc) := by
  obtain ⟨ta, pa, ha⟩ := ha
  obtain ⟨tb, pb, hb⟩ := hb
  obtain ⟨tc, pc, hc⟩ := hc
  obtain ⟨g1, _, _⟩ := glob_ok S hg
  refine ⟨_, pi_z3 g1 (S.blt _ (by simp [bltNames])) (pa_cons pa (pa_cons pb (pa_cons pc pa_nil hs3) hs2) hs) hs hpl, fun R0 H0 R H σ ρ Q s p => ?_⟩
  simp only [evi] at p
  refine ha R0 H0 R H σ ρ _ s (p.first fun x vx R1 H1 e1 r1 p1 => ?_)
  refine hb R0 H0 R1 H1 σ ρ _ (s.later e1) (PostE.first p1 fun y vy R2 H2 e2 r2 p2 => ?_)
  refine hc R0 H0 R2 H2 σ ρ _ ((s.later e1).later e2) (PostE.first p2 fun z vz R3 H3 e3 r3 p3 => ?_)
  have r1 := (r1.later e2).later e3
  have r2 := r2.later e3
  have s0 := (((s.later e1).later e2).later e3).ext.hh
  unfold zip3R at p3
  cases ex : sqD x with
  | none => rw [ex] at p3; exact p3.elim
  | some ds =>
    rw [ex] at p3
    cases ey : sqD y with
    | none => rw [ey] at p3; exact p3.elim
    | some es =>
      rw [ey] at p3
      cases ez : sqD z with
      | none => rw [ez] at p3; exact p3.elim
      | some fs =>
        rw [ez] at p3
        obtain ⟨k1, a, vs, ea, hG, hS, rr⟩ := same_sq ex e3.sub s0 r1
        obtain ⟨k2, b, ws, eb, hG2, hS2, rr2⟩ := same_sq ey e3.sub s0 r2
        obtain ⟨k3, c, us, ec, hG3, hS3, rr3⟩ := same_sq ez e3.sub s0 r3
        refine ⟨k1, k2, k3, a, b, c, vs, ws, us, by rw [ea, eb, ec], hS, hS2, hS3, ?_⟩
        refine PostE.here e3.sub p3 ⟨fun H => SqK X.K k1 H a vs ∧ SqK X.K k2 H b ws ∧ SqK X.K k3 H c us, YTrip (fun i => vs[i]?) (fun i => ws[i]?) (fun i => us[i]?), ?_, fun H'' e e0 => ⟨hG H'' e e0, hG2 H'' e e0, hG3 H'' e e0⟩, ?_⟩
        · have e4 : (zipW3 ds es fs).length = min (min vs.length ws.length) us.length := by rw [zip3_len, rr.length, rr2.length, rr3.length]
          rw [e4]
          exact walk_Z3
        · intro i d hd R4 H4 x H5 sa sb yy
          obtain ⟨u, v, w, h1, h2, h3, e5⟩ := zip3_get hd
          subst e5
          refine trip_rep sa sb (fun z hz => ?_) (fun z hz => ?_) (fun z hz => ?_) yy
          · obtain ⟨z', q1, q2⟩ := rr.get h1
            rw [q1] at hz
            cases hz
            exact q2
          · obtain ⟨z', q1, q2⟩ := rr2.get h2
            rw [q1] at hz
            cases hz
            exact q2
          · obtain ⟨z', q1, q2⟩ := rr3.get h3
            rw [q1] at hz
            cases hz
            exact q2
/-! ### a number asked of a range -/
theorem inr_post {k : Bool} {ca cl ch : CE} {fl : Bool} {R H : Hp} {ρ : Rho} {Q : VK} {E : XK} (p : PostE XR R H (RepF X.K fl) (ev Φ (.inr k ca cl ch) ρ) Q E) :
    PostE XR R H (fun _ _ b d => d = .bl b) (ev Φ (.inr k ca cl ch) ρ) (fun (b : Bool) H' => Q (.bl b) H') E := by
  generalize hr : ev Φ (.inr k ca cl ch) ρ = r at p
  cases r with
  | ok d =>
    intro b R' H' e h
    subst h
    exact p _ R' H' e (RepF.of (.bl b) fl)
  | exc c ps => exact p
  | stuck => exact p
theorem inr_postT {k : Bool} {ca cl ch : CE} {R H : Hp} {ρ : Rho} {Q : Bool → Hp → Prop} {E : XK} (p : PostE XR R H (fun _ _ b k => b = k) ((ev Φ (.inr k ca cl ch) ρ).bind truR) Q E) :
    PostE XR R H (fun _ _ b d => d = .bl b) (ev Φ (.inr k ca cl ch) ρ) Q E := by
  generalize hr : ev Φ (.inr k ca cl ch) ρ = r at p
  cases r with
  | ok d =>
    intro b R' H' e h
    subst h
    exact p b R' H' e rfl
  | exc c ps => exact p
  | stuck => exact p
theorem inr_arg1 {h : Expr} {ch : CE} {th : TE} (hh : ∀ R0 H0 R H σ ρ Q, SR X.K M R0 H0 R H σ ρ → PostE XR R H (RepF X.K false) (ev Φ ch ρ) Q (fun cls dx H' => W cls dx σ H') → th σ H Q) :
    ∀ R0 H0 R H σ ρ Q, SR X.K M R0 H0 R H σ ρ → PostE XR R H (fun R1 H1 b l => ∃ y z vy vz, l = (y, z) ∧ Shal X.K R1 H1 vy y ∧ Shal X.K R1 H1 vz z ∧ ∀ lo hi, y = .int lo → z = .int hi → ∀ Q' : VK, (∀ p, H1 p = none → Q' (.ref p) (upd H1 p (.rng lo hi))) →
      (fun (vs : List V) (H : Hp) (Q : VK) => ∃ j, vs = [V.int j] ∧ ∀ p, H p = none → Q (.ref p) (upd H p (.rng 0 j))) b H1 Q')
      ((ev Φ (.cst (.int 0)) ρ).bind fun y => (ev Φ ch ρ).bind fun z => .ok (y, z)) Q (fun cls dx H' => W cls dx σ H') → tCons th tNil σ H Q := by
  intro R0 H0 R H σ ρ Q s p
  simp only [ev, Res.bind_ok] at p
  refine hh R0 H0 R H σ ρ _ s (p.first fun z vz R1 H1 e1 r1 p1 => ?_)
  refine p1 _ R1 H1 (Ext.refl e1.sub) ⟨.int 0, z, .int 0, vz, rfl, .inl (.int 0), r1, fun lo hi h1 h2 Q' q => ?_⟩
  cases h1
  subst h2
  cases r1.shal.int_inv
  exact ⟨hi, rfl, q⟩
theorem inr_arg2 {l h : Expr} {cl ch : CE} {tl th : TE} (hl : ∀ R0 H0 R H σ ρ Q, SR X.K M R0 H0 R H σ ρ → PostE XR R H (RepF X.K false) (ev Φ cl ρ) Q (fun cls dx H' => W cls dx σ H') → tl σ H Q)
    (hh : ∀ R0 H0 R H σ ρ Q, SR X.K M R0 H0 R H σ ρ → PostE XR R H (RepF X.K false) (ev Φ ch ρ) Q (fun cls dx H' => W cls dx σ H') → th σ H Q) :
    ∀ R0 H0 R H σ ρ Q, SR X.K M R0 H0 R H σ ρ → PostE XR R H (fun R1 H1 b l => ∃ y z vy vz, l = (y, z) ∧ Shal X.K R1 H1 vy y ∧ Shal X.K R1 H1 vz z ∧ ∀ lo hi, y = .int lo → z = .int hi → ∀ Q' : VK, (∀ p, H1 p = none → Q' (.ref p) (upd H1 p (.rng lo hi))) →
      (fun (vs : List V) (H : Hp) (Q : VK) => ∃ i j, vs = [V.int i, V.int j] ∧ ∀ p, H p = none → Q (.ref p) (upd H p (.rng i j))) b H1 Q')
      ((ev Φ cl ρ).bind fun y => (ev Φ ch ρ).bind fun z => .ok (y, z)) Q (fun cls dx H' => W cls dx σ H') → tCons tl (tCons th tNil) σ H Q := by
  intro R0 H0 R H σ ρ Q s p
  refine hl R0 H0 R H σ ρ _ s (p.first fun y vy R1 H1 e1 r1 p1 => ?_)
  refine hh R0 H0 R1 H1 σ ρ _ (s.later e1) (p1.first fun z vz R2 H2 e2 r2 p2 => ?_)
  refine p2 _ R2 H2 (Ext.refl e2.sub) ⟨y, z, vy, vz, rfl, r1.shal.later e2, r2, fun lo hi h1 h2 Q' q => ?_⟩
  subst h1 h2
  cases r1.shal.int_inv
  cases r2.shal.int_inv
  exact ⟨lo, hi, rfl, q⟩
theorem se_inr1 (S : Site T Φ XR N sc fnB X W) {k : Bool} {a h : Expr} {ca ch : CE} {p q pos : Pos} {fl : Bool} (hg : isG sc "range" = true) (ha : SE Φ XR M X W false a ca) (hh : SE Φ XR M X W false h ch) (hs : starEach [h] X.env = (false, eval h X.env) :: starEach [] X.env) :
    SE Φ XR M X W fl (.Compare a [if k then .NotIn else .In] [.Call (.Name "range" p) [h] [] q] pos) (.inr k ca (.cst (.int 0)) ch) ∧ STt Φ XR M X W (.Compare a [if k then .NotIn else .In] [.Call (.Name "range" p) [h] [] q] pos) (.inr k ca (.cst (.int 0)) ch) := by
  obtain ⟨ta, pa, ha⟩ := ha
  obtain ⟨th, ph, hh⟩ := hh
  obtain ⟨g1, g2, g3⟩ := glob_ok S hg
  have pr := pe_callTy (p := p) (pos := q) cr_range1 g1 (S.blt _ (by simp [bltNames])) boot_range (pa_cons ph pa_nil hs) g3 g2 hs rfl
  have hm : behindInMarks (if k then CmpOp.NotIn else CmpOp.In) (.Call (.Name "range" p) [h] [] q) = false := by cases k <;> rfl
  exact ⟨⟨_, pe_cmpR (op_inr k) pa pr hm, fun R0 H0 R H σ ρ Q s pp => inr_core (α := Unit) (a := a) (mk := fun _ _ => []) ha (inr_arg1 (h := h) hh) (fun b H' z => z) s (inr_post pp)⟩,
    ⟨_, pt_cmpR (op_inr k) pa pr hm, fun R0 H0 R H σ ρ Q s pp => inr_core (α := Unit) (a := a) (mk := fun _ _ => []) ha (inr_arg1 (h := h) hh) (fun b H' z => ⟨b, rfl, z⟩) s (inr_postT pp)⟩⟩
theorem se_inr2 (S : Site T Φ XR N sc fnB X W) {k : Bool} {a l h : Expr} {ca cl ch : CE} {p q pos : Pos} {fl : Bool} (hg : isG sc "range" = true) (ha : SE Φ XR M X W false a ca) (hl : SE Φ XR M X W false l cl) (hh : SE Φ XR M X W false h ch)
    (hs2 : starEach [l, h] X.env = (false, eval l X.env) :: starEach [h] X.env) (hs : starEach [h] X.env = (false, eval h X.env) :: starEach [] X.env) :
    SE Φ XR M X W fl (.Compare a [if k then .NotIn else .In] [.Call (.Name "range" p) [l, h] [] q] pos) (.inr k ca cl ch) ∧ STt Φ XR M X W (.Compare a [if k then .NotIn else .In] [.Call (.Name "range" p) [l, h] [] q] pos) (.inr k ca cl ch) := by
  obtain ⟨ta, pa, ha⟩ := ha
  obtain ⟨tl, pl, hl⟩ := hl
  obtain ⟨th, ph, hh⟩ := hh
  obtain ⟨g1, g2, g3⟩ := glob_ok S hg
  have pr := pe_callTy (p := p) (pos := q) cr_range2 g1 (S.blt _ (by simp [bltNames])) boot_range (pa_cons pl (pa_cons ph pa_nil hs) hs2) g3 g2 hs2 (by rw [hs]; rfl)
  have hm : behindInMarks (if k then CmpOp.NotIn else CmpOp.In) (.Call (.Name "range" p) [l, h] [] q) = false := by cases k <;> rfl
  exact ⟨⟨_, pe_cmpR (op_inr k) pa pr hm, fun R0 H0 R H σ ρ Q s pp => inr_core (α := Unit) (a := a) (mk := fun _ _ => []) ha (inr_arg2 (l := l) (h := h) hl hh) (fun b H' z => z) s (inr_post pp)⟩,
    ⟨_, pt_cmpR (op_inr k) pa pr hm, fun R0 H0 R H σ ρ Q s pp => inr_core (α := Unit) (a := a) (mk := fun _ _ => []) ha (inr_arg2 (l := l) (h := h) hl hh) (fun b H' z => ⟨b, rfl, z⟩) s (inr_postT pp)⟩⟩
theorem rngOf_ok {b : Expr} {args : List Expr} (h : rngOf sc b = some args) : ∃ p q, b = .Call (.Name "range" p) args [] q ∧ isG sc "range" = true := by
  unfold rngOf at h
  split at h
  · rename_i g p args' q
    by_cases c : g = ("range" : Str) ∧ isG sc g = true ∧ (args'.length = 1 ∨ args'.length = 2)
    · rw [if_pos c] at h
      cases h
      obtain ⟨c1, c2, _⟩ := c
      subst c1
      exact ⟨p, q, rfl, c2⟩
    · rw [if_neg c] at h
      cases h
  · cases h
theorem inOf_ok {o : CmpOp} {k : Bool} (h : inOf o = some k) : o = if k then .NotIn else .In := by
  cases o <;> cases h <;> rfl
/-! ### targets -/
def gNs : List Nat → TGs
  | [] => gNil
  | i :: is => gCons (gName i) (gNs is)
def gTL (K : PySem.W.Frag) (n : Nat) (t : TGs) : TG := fun v σ H Q => gTup K n t v σ H Q ∨ gUnl K n t v σ H Q
theorem pg_or {X : Cx} {e : Expr} {t1 t2 : TG} (h1 : PG X e t1) (h2 : PG X e t2) : PG X e (fun v σ H Q => t1 v σ H Q ∨ t2 v σ H Q) :=
  ⟨fun pins s σ H v u Q I r hw => hw.elim (fun w => h1.run pins s σ H v u Q I r w) fun w => h2.run pins s σ H v u Q I r w⟩
def tgG (K : PySem.W.Frag) : Tg → TG
  | .nm i => gName i
  | .tp is => gTL K is.length (gNs is)
theorem loc_ok (S : Site T Φ XR N sc fnB X W) {x : Str} {i : Nat} (h : locOf sc fnB N M x = some i) : X.N[i]? = some x ∧ L2.Loc X.env.scope x ∧ (X.fn x = true ∨ X.env.scope.names.lookup x = some .local) ∧ i ∉ M := by
  unfold locOf at h
  rw [S.nE, S.scE, S.fnE]
  cases e : N.findIdx? fun y => decide (y = x) with
  | none => rw [e] at h; cases h
  | some j =>
    rw [e] at h
    simp only at h
    by_cases hm : M.contains j = true
    · rw [if_pos hm] at h; cases h
    · rw [if_neg hm] at h
      have hm' : j ∉ M := by simpa using hm
      unfold L2.Loc
      cases l : sc.names.lookup x with
      | none => rw [l] at h; cases h
      | some k =>
        rw [l] at h
        cases k with
        | «local» => cases h; exact ⟨find_at e, .inl rfl, .inr rfl, hm'⟩
        | cell =>
          simp only at h
          by_cases hf : fnB x = true
          · rw [if_pos hf] at h
            cases h
            exact ⟨find_at e, .inr rfl, .inl hf, hm'⟩
          · rw [if_neg hf] at h
            cases h
        | _ => cases h
theorem pgs_ok (S : Site T Φ XR N sc fnB X W) : ∀ {es : List Expr} {is : List Nat}, locsOf sc fnB N M es = some is → PGs X es (gNs is) ∧ (assignEach es X.env).length = is.length ∧ (assignEach es X.env).findIdx? (·.1) = none ∧ ∀ i ∈ is, i ∉ M
  | [], is, h => by
    cases h
    exact ⟨pgs_nil, rfl, rfl, fun i hi => by cases hi⟩
  | e :: es, is, h => by
    cases e with
    | Name x p =>
      simp only [locsOf] at h
      cases h1 : locOf sc fnB N M x with
      | none => rw [h1] at h; cases h
      | some i =>
        rw [h1] at h
        simp only [Option.bind_some] at h
        cases h2 : locsOf sc fnB N M es with
        | none => rw [h2] at h; cases h
        | some js =>
          rw [h2] at h
          cases h
          obtain ⟨q1, q2, q3, q4⟩ := loc_ok S h1
          obtain ⟨p1, p2, p3, p4⟩ := pgs_ok S h2
          refine ⟨pgs_cons (pg_name (by rw [S.nE]; exact S.nd) q1 q2 q3) p1 rfl, congrArg Nat.succ p2, ?_, fun j hj => ?_⟩
          · show (((false, assign (.Name x p) X.env) :: assignEach es X.env).findIdx? (·.1)) = none
            rw [List.findIdx?_cons]
            simp [p3]
          · rcases List.mem_cons.mp hj with z | z
            · rw [z]; exact q4
            · exact p4 j z
    | _ => cases h
theorem pg_ok (S : Site T Φ XR N sc fnB X W) {e : Expr} {t : Tg} (h : trG sc fnB N M e = some t) : PG X e (tgG X.K t) ∧ ∀ i ∈ slotsT t, i ∉ M := by
  cases e with
  | Name x p =>
    simp only [trG] at h
    cases h1 : locOf sc fnB N M x with
    | none => rw [h1] at h; cases h
    | some i =>
      rw [h1] at h
      cases h
      obtain ⟨q1, q2, q3, q4⟩ := loc_ok S h1
      exact ⟨pg_name (by rw [S.nE]; exact S.nd) q1 q2 q3, fun j hj => by
        have : j = i := by simpa [slotsT] using hj
        rw [this]
        exact q4⟩
  | Tuple es k p =>
    simp only [trG] at h
    cases h1 : locsOf sc fnB N M es with
    | none => rw [h1] at h; cases h
    | some is =>
      rw [h1] at h
      cases h
      obtain ⟨p1, p2, p3, p4⟩ := pgs_ok S h1
      exact ⟨pg_or (pg_tup S.calm p1 p2 p3) (pg_unl S.calm p1 p2 p3), p4⟩
  | _ => cases h
/-- the same in other slots that agree on what is own -/
theorem OwnO.cong {K : PySem.W.Frag} {H0 R H : Hp} {σ σ' : L2.St} {ρ ρ' : Rho} (s : OwnO K M H0 R H σ ρ) (h : ∀ i, i ∈ M → ∀ d, ρ'[i]? = some (some d) → ρ[i]? = some (some d) ∧ σ'[i]? = σ[i]?) : OwnO K M H0 R H σ' ρ' := by
  obtain ⟨F, h1, h2, h3⟩ := s
  refine ⟨F, fun i hi d hd => ?_, fun i hi j hj hij d e hd he => ?_, fun i hi j hj d e a hd he ha => ?_⟩
  · obtain ⟨q1, q2⟩ := h i (Ow.of_oq hi) d hd
    rw [q2]
    exact h1 i hi d q1
  · exact h2 i hi j hj hij d e (h i (Ow.of_oq hi) d hd).1 (h j (Ow.of_oq hj) e he).1
  · obtain ⟨q1, q2⟩ := h j (.inl hj) e he
    rw [q2] at ha
    exact h3 i hi j hj d e a (h i (Ow.of_oq hi) d hd).1 q1 ha
theorem SR.set {K : PySem.W.Frag} {R0 H0 R H : Hp} {σ : L2.St} {ρ : Rho} {i : Nat} {v : V} {d : D} (s : SR K M R0 H0 R H σ ρ) (hi : i ∉ M) (r : Rep K R v d) : SR K M R0 H0 R H (σ.set i (some v)) (ρ.set i (some d)) := by
  refine ⟨s.ext, by rw [List.length_set, List.length_set, s.len], fun j e h => ?_, fun j k a d' e' hjk hj hk h1 h2 h3 h4 => ?_, s.own.cong fun j hj d hd => ?_, s.dis, fun j hj => ?_, s.tab⟩
  · by_cases hj : i = j
    · subst hj
      by_cases hl : i < ρ.length
      · rw [List.getElem?_set_self hl] at h
        cases h
        exact ⟨v, List.getElem?_set_self (by rw [s.len]; exact hl), fun _ => r, fun z => absurd (.inl z) hi, fun z => absurd (.inr (.inl z)) hi⟩
      · rw [List.getElem?_eq_none (by rw [List.length_set]; omega)] at h
        cases h
    · rw [List.getElem?_set_ne hj] at h
      rw [List.getElem?_set_ne hj]
      exact s.val j e h
  · have nj : i ≠ j := fun z => hi (.inl (z ▸ hj))
    have nk : i ≠ k := fun z => hi (.inl (z ▸ hk))
    rw [List.getElem?_set_ne nj] at h1 h3
    rw [List.getElem?_set_ne nk] at h2 h4
    exact s.sep j k a d' e' hjk hj hk h1 h2 h3 h4
  · have nj : i ≠ j := fun z => hi (z ▸ hj)
    rw [List.getElem?_set_ne nj] at hd
    exact ⟨hd, List.getElem?_set_ne nj⟩
  · have nj : i ≠ j := fun z => hi (z ▸ .inr (.inr (.inr hj)))
    rw [List.getElem?_set_ne nj]
    exact s.pin j hj
theorem wipe_set {i : Nat} {v : Option V} : ∀ {vs : List Nat} (σ : L2.St), i ∈ vs → wipe (σ.set i v) vs = wipe σ vs
  | [], _, h => by cases h
  | j :: vs, σ, h => by
    simp only [wipe]
    by_cases hm : i ∈ vs
    · rw [wipe_set σ hm]
    · have e : i = j := by simpa [hm] using h
      subst e
      have go : ∀ (vs : List Nat) (σ : L2.St), i ∉ vs → wipe (σ.set i v) vs = (wipe σ vs).set i v := by
        intro vs
        induction vs with
        | nil => intro _ _; rfl
        | cons k r ih =>
          intro σ hn
          simp only [List.mem_cons, not_or] at hn
          simp only [wipe]
          rw [ih σ hn.2, List.set_comm _ _ hn.1]
      rw [go vs σ hm, List.set_set]
theorem wipe_wipe : ∀ (σ : L2.St) (vs : List Nat), wipe (wipe σ vs) vs = wipe σ vs := by
  intro σ vs
  have go : ∀ (ws : List Nat) (τ : L2.St), (∀ i ∈ ws, τ[i]? = some none ∨ τ[i]? = none) → wipe τ ws = τ := by
    intro ws
    induction ws with
    | nil => intro _ _; rfl
    | cons j r ih =>
      intro τ h
      simp only [wipe]
      rw [ih τ fun i hi => h i (List.mem_cons_of_mem _ hi)]
      apply List.ext_getElem?
      intro k
      by_cases e : j = k
      · subst e
        rcases h j (by simp) with z | z
        · have hl := (List.getElem?_eq_some_iff.mp z).1
          rw [List.getElem?_set_self hl, z]
        · rw [z, List.getElem?_eq_none (by rw [List.length_set]; exact List.getElem?_eq_none_iff.mp z)]
      · rw [List.getElem?_set_ne e]
  have non : ∀ (ws : List Nat) (τ : L2.St) (i : Nat), i ∈ ws → (wipe τ ws)[i]? = some none ∨ (wipe τ ws)[i]? = none := by
    intro ws
    induction ws with
    | nil => intro _ _ h; cases h
    | cons j r ih =>
      intro τ i h
      simp only [wipe]
      by_cases e : j = i
      · subst e
        by_cases hl : j < (wipe τ r).length
        · exact .inl (List.getElem?_set_self hl)
        · exact .inr (List.getElem?_eq_none (by rw [List.length_set]; omega))
      · rw [List.getElem?_set_ne e]
        rcases List.mem_cons.mp h with z | z
        · exact absurd z.symm e
        · exact ih τ i z
  exact go vs _ fun i hi => non vs σ i hi
theorem bindAll_ok {K : PySem.W.Frag} {R0 H0 R H : Hp} {own : List Nat} {Q : L2.St → Hp → Prop} : ∀ {is : List Nat} {ds : List D} {vs : List V} {σ : L2.St} {ρ ρ' : Rho}, SR K M R0 H0 R H σ ρ → bindAll ρ is ds = some ρ' → (∀ i ∈ is, i ∉ M) → Reps K R vs ds →
    (∀ σ', SR K M R0 H0 R H σ' ρ' → ((∀ i ∈ is, i ∈ own) → wipe σ' own = wipe σ own) → Q σ' H) → gNs is vs σ H Q
  | [], [], vs, σ, ρ, ρ', s, h, _, r, k => by
    cases h
    cases r
    exact ⟨rfl, k σ s fun _ => rfl⟩
  | i :: is, d :: ds, vs, σ, ρ, ρ', s, h, hm, r, k => by
    cases r with
    | cons r1 r2 =>
      rename_i v vs
      refine ⟨v, vs, rfl, ?_⟩
      refine bindAll_ok (own := own) (s.set (hm i (by simp)) r1) h (fun j hj => hm j (List.mem_cons_of_mem _ hj)) r2 fun σ' s' hw => k σ' s' fun ho => ?_
      rw [hw fun j hj => ho j (List.mem_cons_of_mem _ hj)]
      exact wipe_set σ (ho i (by simp))
  | [], _ :: _, _, _, _, _, _, h, _, _, _ => by cases h
  | _ :: _, [], _, _, _, _, _, h, _, _, _ => by cases h
theorem bind_ok {K : PySem.W.Frag} {R0 H0 R H : Hp} {own : List Nat} {Q : L2.St → Hp → Prop} {t : Tg} {d : D} {v : V} {σ : L2.St} {ρ ρ' : Rho} (s : SR K M R0 H0 R H σ ρ) (h : bindT ρ t d = some ρ') (hm : ∀ i ∈ slotsT t, i ∉ M) (r : Rep K R v d)
    (k : ∀ σ', SR K M R0 H0 R H σ' ρ' → ((∀ i ∈ slotsT t, i ∈ own) → wipe σ' own = wipe σ own) → Q σ' H) : tgG K t v σ H Q := by
  cases t with
  | nm i =>
    cases h
    exact k _ (s.set (hm i (by simp [slotsT])) r) fun ho => wipe_set σ (ho i (by simp [slotsT]))
  | tp is =>
    cases d with
    | tup ds =>
      cases r with
      | tup hs rr =>
        refine .inl ⟨_, _, rfl, SqT.of (s.sub _ _ hs), ?_, bindAll_ok s h hm rr k⟩
        rw [rr.length]
        have go : ∀ {is : List Nat} {ds : List D} {ρ ρ' : Rho}, bindAll ρ is ds = some ρ' → ds.length = is.length := by
          intro is
          induction is with
          | nil => intro ds ρ ρ' h; cases ds with
            | nil => rfl
            | cons _ _ => cases h
          | cons i is ih => intro ds ρ ρ' h; cases ds with
            | nil => cases h
            | cons d ds => exact congrArg Nat.succ (ih (ds := ds) h)
        exact go h
    | lst ds =>
      cases r with
      | lst hs rr =>
        refine .inr ⟨_, _, rfl, s.sub.seq hs, ?_, bindAll_ok s h hm rr k⟩
        rw [rr.length]
        have go : ∀ {is : List Nat} {ds : List D} {ρ ρ' : Rho}, bindAll ρ is ds = some ρ' → ds.length = is.length := by
          intro is
          induction is with
          | nil => intro ds ρ ρ' h; cases ds with
            | nil => rfl
            | cons _ _ => cases h
          | cons i is ih => intro ds ρ ρ' h; cases ds with
            | nil => cases h
            | cons d ds => exact congrArg Nat.succ (ih (ds := ds) h)
        exact go h
    | _ => cases h
/-! ### a comprehension -/
/-- readings that hang on nothing but the data -/
def canE (Φ : FEnv) (XR : XRel) (M : Ow) (K : PySem.W.Frag) (W : WX) (fl : Bool) (c : CE) : TE := fun σ H Q =>
  ∃ R0 H0 R ρ, SR K M R0 H0 R H σ ρ ∧ PostE XR R H (RepF K fl) (ev Φ c ρ) Q (fun cls dx H' => W cls dx σ H')
theorem SE.can {fl : Bool} {e : Expr} {c : CE} (h : SE Φ XR M X W fl e c) : PE X e (canE Φ XR M X.K W fl c) := by
  obtain ⟨t, pe, h⟩ := h
  exact ⟨fun pins s σ H Q I ⟨R0, H0, R, ρ, sr, p⟩ => pe.run pins s σ H Q I (h R0 H0 R H σ ρ Q sr p)⟩
def canC (Φ : FEnv) (XR : XRel) (M : Ow) (K : PySem.W.Frag) (W : WX) (c : CL) : TT := fun σ H Q =>
  ∃ R0 H0 R ρ, SR K M R0 H0 R H σ ρ ∧ PostE XR R H (fun _ _ b k => b = k) (evc Φ c ρ) Q (fun cls dx H' => W cls dx σ H')
abbrev WN : WX := fun _ _ _ _ => False
theorem wipe_get {i : Nat} : ∀ {vs : List Nat} (σ : L2.St), i ∉ vs → (wipe σ vs)[i]? = σ[i]?
  | [], _, _ => rfl
  | j :: vs, σ, h => by
    simp only [List.mem_cons, not_or] at h
    simp only [wipe]
    rw [List.getElem?_set_ne (fun e => h.1 e.symm)]
    exact wipe_get σ h.2
theorem wipeE_len : ∀ (vs : List Nat) (ρ : Rho), (wipeE ρ vs).length = ρ.length
  | [], _ => rfl
  | j :: vs, ρ => by simp only [wipeE]; rw [List.length_set, wipeE_len vs ρ]
theorem wipeE_some {i : Nat} {d : D} : ∀ {vs : List Nat} {ρ : Rho}, (wipeE ρ vs)[i]? = some (some d) → ρ[i]? = some (some d) ∧ i ∉ vs
  | [], _, h => ⟨h, by simp⟩
  | j :: vs, ρ, h => by
    simp only [wipeE] at h
    by_cases e : j = i
    · subst e
      by_cases hl : j < (wipeE ρ vs).length
      · rw [List.getElem?_set_self hl] at h; cases h
      · rw [List.getElem?_eq_none (by rw [List.length_set]; omega)] at h; cases h
    · rw [List.getElem?_set_ne e] at h
      obtain ⟨h1, h2⟩ := wipeE_some h
      exact ⟨h1, by simp only [List.mem_cons, not_or]; exact ⟨fun z => e z.symm, h2⟩⟩
theorem SR.wiped {K : PySem.W.Frag} {R0 H0 R H : Hp} {σ : L2.St} {ρ : Rho} {vs : List Nat} (s : SR K M R0 H0 R H σ ρ) (hm : ∀ i ∈ vs, i ∉ M) : SR K M R0 H0 R H (wipe σ vs) (wipeE ρ vs) := by
  refine ⟨s.ext, by rw [wipe_length, wipeE_len, s.len], fun i d h => ?_, fun i j a d e hij hi hj h1 h2 h3 h4 => ?_, s.own.cong fun i hi d h => ?_, s.dis, fun i hi => ?_, s.tab⟩
  · obtain ⟨h1, h2⟩ := wipeE_some h
    rw [wipe_get σ h2]
    exact s.val i d h1
  · obtain ⟨q1, n1⟩ := wipeE_some h1
    obtain ⟨q2, n2⟩ := wipeE_some h2
    rw [wipe_get σ n1] at h3
    rw [wipe_get σ n2] at h4
    exact s.sep i j a d e hij hi hj q1 q2 h3 h4
  · obtain ⟨h1, h2⟩ := wipeE_some h
    exact ⟨h1, wipe_get σ h2⟩
  · rw [wipe_get σ fun z => hm i z (.inr (.inr (.inr hi)))]
    exact s.pin i hi
theorem Ext.put {R H R1 H1 : Hp} {a : Addr} {o : HO} (e : Ext R H R1 H1) (h : H a = none) (r : R1 a = none) (n : ∀ o', H1 a = some o' → NT o' ∧ NC o') : Ext R H R1 (upd H1 a o) :=
  ⟨e.hh.put h n, e.rr, fun b u q => by rw [upd_ne (ne_of_none q r)]; exact e.sub b u q, e.new⟩
/-- what an item gives -/
abbrev itemF (Φ : FEnv) (elt : CE) (t : Tg) (cond : CL) (ρ : Rho) : D → Res (Option D) := fun x => match bindT ρ t x with
  | none => .stuck
  | some ρ' => (evc Φ cond ρ').bind fun k => match k with
    | true => (ev Φ elt ρ').bind fun y => .ok (some y)
    | false => .ok none
/-- .. and y = [..] on one line -/
def SNA (Φ : FEnv) (XR : XRel) (M : Ow) (X : Cx) (W : WX) (e : Expr) (c : CE) : Prop :=
  ∃ t : TE, PE X e t ∧ (∀ i y py spos, X.N[i]? = some y → X.env.scope.names.lookup y = some .local → swapsWith e (some (.Name y py)) spos.line X.env = pure true → PS X (.Assign [.Name y py] e spos) (tAsg t (gName i))) ∧
    ∀ R0 H0 R H σ ρ Q, SR X.K M R0 H0 R H σ ρ → PostE XR R H (RepN X.K H) (ev Φ c ρ) Q (fun cls dx H' => W cls dx σ H') → t σ H Q
theorem SNA.sn {e : Expr} {c : CE} (h : SNA Φ XR M X W e c) : SN Φ XR M X W e c := let ⟨t, p, _, q⟩ := h; ⟨t, p, q⟩
theorem sn_comp (S : Site T Φ XR N sc fnB X W) {elt tg it : Expr} {ifs : List Expr} {scope : Scope} {own : List (Str × Nat)} {pos : Pos} {ce : CE} {t : Tg} {ci : CI} {cc : CL}
    (hi : SI Φ XR M X W false tg it ci) (ok : BlkOk X.N X.env.scope scope own) (hM : ∀ p ∈ own, p.2 ∉ M) (ht : ∀ i ∈ slotsT t, i ∉ M ∧ i ∈ own.map (·.2))
    (hg : ∀ (s : Shared) (H : Hp) (C : Addr) (cl : List (Str × Addr)) (fp : List Addr), PG (X.blk s H scope (compEnvC scope cl C X.env) fp) tg (tgG X.K t))
    (hc : ∀ (s : Shared) (H : Hp) (C : Addr) (cl : List (Str × Addr)) (fp : List Addr), PTs (X.blk s H scope (compEnvC scope cl C X.env) fp) ifs (canC Φ XR M X.K WN cc))
    (he : ∀ (s : Shared) (H : Hp) (C : Addr) (cl : List (Str × Addr)) (fp : List Addr), PE (X.blk s H scope (compEnvC scope cl C X.env) fp) elt (canE Φ XR M X.K WN true ce))
    (hs : ∀ x, foldedSetIterable it X.env x = pure x) : SNA Φ XR M X W (.ListComp elt [⟨tg, it, ifs, 0⟩] scope pos) (.comp ce t ci cc (own.map (·.2))) := by
  obtain ⟨wi, pi, hi⟩ := hi
  refine ⟨_, pe_lc S.calm (by rw [S.nE]; exact S.nd) pi ok hg hc he hs, fun i y py spos hy hyl hsw => ps_setLc S.calm (by rw [S.nE]; exact S.nd) hy hyl hsw pi ok hg hc he hs, fun R0 H0 R H σ ρ Q s p => ?_⟩
  simp only [ev] at p
  refine hi R0 H0 R H σ ρ _ s ?_
  generalize evi Φ ci ρ = r at p ⊢
  cases r with
  | exc c ps => exact p
  | stuck => exact p
  | ok xs =>
    intro J R1 H1 e1 hJ D hD
    simp only [Res.bind_ok] at p
    obtain ⟨G, Y, wk, hG, hY⟩ := hJ
    -- the whole loop ends
    have p2 : ∃ ys, compL (itemF Φ ce t cc (wipeE ρ (own.map (·.2)))) xs = .ok ys ∧ ys.length ≤ SZ ∧ PostE XR R H (RepN X.K H) (.ok (.lst ys)) Q (fun cls dx H' => W cls dx σ H') := by
      change PostE XR R H (RepN X.K H) ((quiet (compL (itemF Φ ce t cc (wipeE ρ (own.map (·.2)))) xs)).bind _) Q _ at p
      cases h : compL (itemF Φ ce t cc (wipeE ρ (own.map (·.2)))) xs with
      | ok ys =>
        rw [h] at p
        obtain ⟨hz, p⟩ := PostE.iff (show PostE XR R H (RepN X.K H) (if ys.length ≤ SZ then .ok (.lst ys) else .stuck) Q _ from p)
        exact ⟨ys, rfl, hz, p⟩
      | exc c ps => rw [h] at p; exact p.elim
      | stuck => rw [h] at p; exact p.elim
    obtain ⟨ys, hys, hz, p⟩ := p2
    have s1 := s.later e1
    have rD : R1 D = none := e1.sub.free hD
    have m1 : ∀ i ∈ own.map (·.2), i ∉ M := fun i hi => by
      obtain ⟨q, hq, e⟩ := List.mem_map.mp hi
      rw [← e]
      exact hM q hq
    refine lc_it (Qd := fun H => Q (.ref D) H) wk (fun i H' => ∃ R' acc dn rest, Ext R1 H1 R' H' ∧ R' D = none ∧ H' D = some (.lst acc) ∧ Reps X.K R' acc dn ∧ compL (itemF Φ ce t cc (wipeE ρ (own.map (·.2)))) (xs.drop i) = .ok rest ∧ dn ++ rest = ys)
      ⟨R1, [], [], ys, Ext.put (Ext.refl e1.sub) hD rD (fun o' q => by rw [hD] at q; cases q), rD, upd_same, .nil, hys, rfl⟩ (fun i H' _ hP => ?_) ?_ ?_
    · obtain ⟨R', acc, dn, rest, ex, _⟩ := hP
      exact hG H' ex.hh (s1.ext.hh.trans ex.hh)
    · rintro i x H2 H3 hlt ⟨R2, acc, dn, rest, ex, r2, hd, rr, hrest, hy⟩ yy
      have hxi : xs[i]? = some xs[i] := by simp [hlt]
      have hdrop : xs.drop i = xs[i] :: xs.drop (i + 1) := List.drop_eq_getElem_cons hlt
      rw [hdrop] at hrest
      obtain ⟨R3, ex3, rx⟩ := hY i _ hxi R2 H2 x H3 ex.rr ex.sub yy
      have r3 : R3 D = none := ex3.new D r2 (by rw [hd]; simp)
      have hd3 : H3 D = some (.lst acc) := ex3.hh.at hd
      have sw : SR X.K M R0 H0 R3 H3 (wipe σ (own.map (·.2))) (wipeE ρ (own.map (·.2))) := (s1.later (ex.trans ex3)).wiped m1
      -- the item's answer
      simp only [compL] at hrest
      cases hb : bindT (wipeE ρ (own.map (·.2))) t xs[i] with
      | none => rw [itemF, hb] at hrest; cases hrest
      | some ρ' =>
        refine bind_ok (own := own.map (·.2)) sw hb (fun j hj => (ht j hj).1) rx fun σ2 sr2 hw => ?_
        have ew := hw fun j hj => (ht j hj).2
        refine ⟨by rw [ew]; exact wipe_wipe σ _, R0, H0, R3, ρ', sr2, ?_⟩
        unfold itemF at hrest
        rw [hb] at hrest
        simp only at hrest
        cases hcnd : evc Φ cc ρ' with
        | exc c ps => rw [hcnd] at hrest; cases hrest
        | stuck => rw [hcnd] at hrest; cases hrest
        | ok k =>
          rw [hcnd] at hrest
          simp only [Res.bind_ok] at hrest
          intro b R4 H4 ex4 eb
          subst eb
          have r4 : R4 D = none := ex4.new D r3 (by rw [hd3]; simp)
          have hd4 : H4 D = some (.lst acc) := ex4.hh.at hd3
          have rr4 := (rr.mono ex3.rr).mono ex4.rr
          cases b with
          | false =>
            simp only [Res.bind_ok] at hrest
            show if false = true then _ else _
            rw [if_neg Bool.false_ne_true]
            exact ⟨R4, acc, dn, rest, (ex.trans ex3).trans ex4, r4, hd4, rr4, hrest, hy⟩
          | true =>
            show if true = true then _ else _
            rw [if_pos rfl]
            refine ⟨R0, H0, R4, ρ', sr2.later ex4, ?_⟩
            cases hel : ev Φ ce ρ' with
            | exc c ps => rw [hel] at hrest; cases hrest
            | stuck => rw [hel] at hrest; cases hrest
            | ok y =>
              rw [hel] at hrest
              simp only [Res.bind_ok] at hrest
              intro vy R5 H5 ex5 ry
              have r5 : R5 D = none := ex5.new D r4 (by rw [hd4]; simp)
              have hd5 : H5 D = some (.lst acc) := ex5.hh.at hd4
              cases hr2 : compL (itemF Φ ce t cc (wipeE ρ (own.map (·.2)))) (xs.drop (i + 1)) with
              | exc c ps => rw [hr2] at hrest; cases hrest
              | stuck => rw [hr2] at hrest; cases hrest
              | ok rest' =>
                rw [hr2] at hrest
                simp only [Res.bind_ok] at hrest
                injection hrest with hrest
                have hlen := congrArg List.length hy
                rw [← hrest, List.length_append, List.length_cons] at hlen
                refine ⟨acc, hd5, by rw [rr4.length, ← SZ_line]; omega, R5, acc ++ [vy], dn ++ [y], rest', ?_, r5, upd_same, (rr4.mono ex5.rr).append (.one ry), rfl, ?_⟩
                · exact Ext.put (((ex.trans ex3).trans ex4).trans ex5) hD r5 (fun o' q => (by rw [hd5] at q; cases q; exact ⟨fun ps z => (by cases z), nc_lst⟩))
                · rw [← hy, ← hrest]
                  simp
    · rintro H2 ⟨R2, acc, dn, rest, ex, r2, hd, rr, hrest, hy⟩
      rw [List.drop_length] at hrest
      simp only [compL] at hrest
      injection hrest with hrest
      subst hrest
      rw [List.append_nil] at hy
      subst hy
      exact p _ R2 H2 (e1.trans ex) (RepN.lst (e1.hh.free hD) r2 hd rr)
end
end Ps
end
section
set_option maxHeartbeats 4000000
/-! PsSEL: min with a lambda says what the small language does. -/
namespace Ps
open PySem PySem.Spec PyProof.Rows L2
variable [Tbs]
theorem best_arg (ks : List Int) : ∀ n, argBest (keyLt ks) n = bestI ks n
  | 0 => rfl
  | n + 1 => by
    simp only [argBest, bestI, keyLt, best_arg ks n, decide_eq_true_eq]
theorem keysL_get {f : D → Res D} : ∀ {ds : List D} {ks : List Int}, keysL f ds = .ok ks → ks.length = ds.length ∧ ∀ (j : Nat) (d : D), ds[j]? = some d → ∃ kk, ks[j]? = some kk ∧ f d = .ok (.int kk)
  | [], ks, h => by cases h; exact ⟨rfl, fun j d h => by simp at h⟩
  | x :: xs, ks, h => by
    simp only [keysL] at h
    cases hf : f x with
    | ok k =>
      rw [hf] at h
      cases k with
      | int i =>
        cases hr : keysL f xs with
        | ok is =>
          rw [hr] at h
          cases h
          obtain ⟨h1, h2⟩ := keysL_get hr
          refine ⟨by simp [h1], fun j d hj => ?_⟩
          cases j with
          | zero => cases hj; exact ⟨i, rfl, hf⟩
          | succ j => exact h2 j d (by simpa using hj)
        | exc c ps => rw [hr] at h; cases h
        | stuck => rw [hr] at h; cases h
      | _ => cases h
    | exc c ps => rw [hf] at h; cases h
    | stuck => rw [hf] at h; cases h
/-- a lambda's making changes nothing but its table -/
theorem ext_lam {R H H1 : Hp} {P c' : Addr} {q : Str} (s : Same R H) (hT : Tbs.T = some (P, q)) (hP : R P = none) (e : LamE H H1 P c' q) (t : LamX.TabS H1 P q) : Ext R H R H1 := by
  rcases e with rfl | ⟨ps, more, h1, h2, rfl⟩
  · exact Ext.refl s
  · have at_ : ∀ b, b ≠ P → b ≠ c' → upd (upd H P (.tbl (ps ++ more))) c' (LamX.CodeO c' q) b = H b := fun b n1 n2 => by rw [upd_ne n2, upd_ne n1]
    refine ⟨⟨fun b o e n => ?_, fun b n => ?_, fun p hp _ => ?_⟩, Same.refl _, fun b o e => ?_, fun _ z _ => z⟩
    · rw [at_ b (fun z => n ps (Option.some.inj (e.symm.trans (by rw [z]; exact h1)))) (ne_of_none e h2)]
      exact e
    · by_cases hb : b = c'
      · rw [hb, upd_same]; simp
      · rw [upd_ne hb]
        by_cases hb2 : b = P
        · rw [hb2, upd_same]; simp
        · rw [upd_ne hb2]; exact n
    · rw [hT] at hp
      cases hp
      exact t
    · rw [at_ b (fun z => by rw [z, hP] at e; cases e) (ne_of_none (s b o e) h2)]
      exact s b o e
section
variable {T : Tab} {Φ : FEnv} {XR : XRel} {N : List Str} {sc : Scope} {fnB : Str → Bool} {X : Cx} {W : WX} {M : Ow}
theorem Site.lamS (S : Site T Φ XR N sc fnB X W) (h : T.tb = some N) (s' : Shared) (H' : Hp) (f c' : Addr) (scope : Scope) :
    Site T.noTb Φ XR N scope (fun _ => false) (LamX.lamCx X X.A.in1 X.stack s' H' (fun _ _ _ => False) scope f c') WN := by
  obtain ⟨⟨k, r, hs⟩, _⟩ := S.lam h
  exact ⟨rfl, S.nE, S.nd, rfl, rfl, ⟨k, r.in1.deeper _, fun g hg => hs g hg⟩, S.const, S.blt, takes0, S.cls, fun z => by cases z⟩
theorem se_minL (S : Site T Φ XR N sc fnB X W) {a body : Expr} {scope : Scope} {i : Nat} {ca cb : CE} {p lpos kpos pos xp : Pos} {fl : Bool} (htb : T.tb = some N) (hg : isG sc "min" = true) (hl : lam1B sc scope "j" = true) (hx : N[i]? = some "j") (hi : i ∉ M)
    (ha : SE Φ XR M X W false a ca) (hb : ∀ (X' : Cx), Site T.noTb Φ XR N scope (fun _ => false) X' WN → SE Φ XR M X' WN false body cb) (he : starEach [a] X.env = (false, eval a X.env) :: starEach [] X.env) :
    SE Φ XR M X W fl (.Call (.Name "min" p) [a] [⟨some "key", .Lambda (oneArg "j" xp) body scope lpos, kpos⟩] pos) (.minK ca i cb) := by
  obtain ⟨ta, pa, qa⟩ := ha
  obtain ⟨g1, _, _⟩ := glob_ok S hg
  obtain ⟨⟨k, r, _⟩, c, P, q, B, hcode, hq, hT⟩ := S.lam htb
  refine ⟨_, pe_minL (k := k + 1) (tb := canE Φ XR M X.K WN false cb) g1 (S.blt _ (by simp [bltNames])) r B hcode hq (lam1_by (by rw [S.scE]; exact hl)) (by rw [S.nE]; exact hx) (by rw [S.nE]; exact S.nd) (pa_cons pa pa_nil he) (fun s' H' f c' => (hb _ (S.lamS htb s' H' f c' scope)).can) he (fun _ _ _ _ _ _ => bind_j _ _ _ _ _ _ _ _ _), fun R0 H0 R H σ ρ Q s pp => ?_⟩
  simp only [ev] at pp
  refine qa R0 H0 R H σ ρ _ s (pp.first fun x vx R1 H1 e1 r1 p1 => ?_)
  cases x with
  | lst ds =>
    obtain ⟨l, vs, rfl, hs, rr⟩ := Shal.lst_inv e1.sub r1
    simp only [lstD, Res.bind_ok] at p1
    cases hk : keysL (fun y => ev Φ cb (ρ.set i (some y))) ds with
    | exc c ps => rw [hk] at p1; exact p1.elim
    | stuck => rw [hk] at p1; exact p1.elim
    | ok ks =>
      rw [hk] at p1
      simp only [quiet, Res.bind_ok, pickK] at p1
      obtain ⟨kl, kg⟩ := keysL_get hk
      have lv := rr.length
      cases ds with
      | nil => exact p1.elim
      | cons d0 ds =>
        have s1 := s.later e1
        refine ⟨l, vs, rfl, hs, fun z => by rw [z] at lv; simp at lv, (s1.tab _ hT).1, fun H2 c' le t2 hc => ?_⟩
        have e2 := ext_lam e1.sub hT (s1.tab _ hT).2 le t2
        have s2 := s1.later e2
        have get : ∀ {j : Nat} {y : V}, vs[j]? = some y → ∃ d, (d0 :: ds)[j]? = some d ∧ Rep X.K R1 y d := fun {j y} h => by
          have hj : j < (d0 :: ds).length := by rw [← lv]; exact (List.getElem?_eq_some_iff.mp h).1
          obtain ⟨w, h1, h2⟩ := rr.get (i := j) (List.getElem?_eq_getElem hj)
          rw [h] at h1
          cases h1
          exact ⟨_, List.getElem?_eq_getElem hj, h2⟩
        refine ⟨fun H' => ∃ R', Ext R1 H2 R' H', ks, by rw [kl, lv], ⟨R1, Ext.refl e2.sub⟩, fun H' ⟨R', e⟩ => ⟨(e2.trans e).hh.seq hs, e.hh.at hc (LamX.codeO_ne)⟩, fun j y kk h1 h2 H' ⟨R', e⟩ => ?_, fun y H' hy ⟨R', e⟩ => ?_⟩
        · obtain ⟨d, hd, rd⟩ := get h1
          obtain ⟨k2, hk2, hf⟩ := kg j d hd
          rw [h2] at hk2
          cases hk2
          refine ⟨R0, H0, R', ρ.set i (some d), (s2.later e).set hi (Rep.mono e.rr _ _ rd), ?_⟩
          rw [hf]
          intro b R2 H3 x rb
          exact ⟨Shal.int_inv rb, R2, e.trans x⟩
        · obtain ⟨d, hd, rd⟩ := get hy
          rw [best_arg, lv] at hd
          simp only [List.isEmpty_cons, Bool.false_eq_true, if_false] at p1
          rw [hd] at p1
          exact p1 y R' H' (e2.trans e) (RepF.of (Rep.mono e.rr _ _ rd) fl)
  | _ => exact p1.elim
theorem dep_memL {x : D} : ∀ {xs : List D}, x ∈ xs → dep x ≤ deps xs
  | [], h => by cases h
  | y :: ys, h => by
    simp only [deps]
    rcases List.mem_cons.1 h with rfl | h
    · exact Nat.le_max_left _ _
    · exact Nat.le_trans (dep_memL h) (Nat.le_max_right _ _)
theorem best_argD (ks : List D) : ∀ n, argBest (keyLtD ks) n = bestD ks n
  | 0 => rfl
  | n + 1 => by
    simp only [argBest, bestD, keyLtD, best_argD ks n]
theorem datL_get {f : D → Res D} : ∀ {ds : List D} {ks : List D}, datL f ds = .ok ks → ks.length = ds.length ∧ ∀ (j : Nat) (d : D), ds[j]? = some d → ∃ kk, ks[j]? = some kk ∧ f d = .ok kk
  | [], ks, h => by cases h; exact ⟨rfl, fun j d h => by simp at h⟩
  | x :: xs, ks, h => by
    simp only [datL] at h
    cases hf : f x with
    | ok k =>
      rw [hf] at h
      cases hr : datL f xs with
      | ok is =>
        simp only [hr, Res.bind_ok] at h
        cases h
        obtain ⟨h1, h2⟩ := datL_get hr
        refine ⟨by simp [h1], fun j d hj => ?_⟩
        cases j with
        | zero => cases hj; exact ⟨k, rfl, hf⟩
        | succ j => exact h2 j d (by simpa using hj)
      | exc c ps => rw [hr] at h; cases h
      | stuck => rw [hr] at h; cases h
    | exc c ps => rw [hf] at h; cases h
    | stuck => rw [hf] at h; cases h
theorem se_minF (S : Site T Φ XR N sc fnB X W) {a : Expr} {sg : Sig} {ca : CE} {p gp kpos pos : Pos} {fl : Bool} (hm : sg ∈ T.sigs) (hg : isG sc "min" = true) (hf : isG sc sg.name = true) (hp : sg.par = 1) (hio : sg.io = []) (hcls : sg.cls = none) (hmd : sg.md = [])
    (ha : SE Φ XR M X W false a ca) (he : starEach [a] X.env = (false, eval a X.env) :: starEach [] X.env) :
    SE Φ XR M X W fl (.Call (.Name "min" p) [a] [⟨some "key", .Name sg.name gp, kpos⟩] pos) (.minF ca sg.key) := by
  obtain ⟨ta, pa, qa⟩ := ha
  obtain ⟨g1, _, _⟩ := glob_ok S hg
  obtain ⟨f1, f2, _⟩ := glob_ok S hf
  obtain ⟨k, hr, hS⟩ := S.sigs
  obtain ⟨f, fd, ps, mf, kf, F, bnd⟩ := hS sg hm
  unfold AtF at mf
  rw [hcls] at mf
  unfold spS at F
  rw [if_pos hio] at F
  obtain ⟨dvs, ds, rv, rd, hb⟩ := bnd sg.dfl.length (Nat.le_refl _)
  have e0 : dvs = [] := by
    have := (rd (fun _ => none)).length
    rw [List.drop_length] at this
    exact List.eq_nil_of_length_eq_zero this
  subst e0
  cases rv
  have hu := hr.un
  refine ⟨_, pe_minF F hr (by omega) hb g1 (S.blt _ (by simp [bltNames])) f1 mf f2 (pa_cons pa pa_nil he) he, fun R0 H0 R H σ ρ Q s pp => ?_⟩
  simp only [ev] at pp
  refine qa R0 H0 R H σ ρ _ s (pp.first fun x vx R1 H1 e1 r1 p1 => ?_)
  cases x with
  | lst ds =>
    obtain ⟨l, vs, rfl, hs, rr⟩ := Shal.lst_inv e1.sub r1
    simp only [lstD, Res.bind_ok] at p1
    cases hk : datL (fun y => Φ sg.key [y]) ds with
    | exc c ps => rw [hk] at p1; exact p1.elim
    | stuck => rw [hk] at p1; exact p1.elim
    | ok ks =>
      rw [hk] at p1
      simp only [quiet, Res.bind_ok, pickD] at p1
      obtain ⟨kl, kg⟩ := datL_get hk
      have lv := rr.length
      by_cases c : ds.isEmpty = false ∧ alkP ks = true ∧ deps ks ≤ 64
      · rw [if_pos c] at p1
        obtain ⟨c1, c2, c3⟩ := c
        have s1 := s.later e1
        have get : ∀ {j : Nat} {y : V}, vs[j]? = some y → ∃ d, ds[j]? = some d ∧ Rep X.K R1 y d := fun {j y} h => by
          have hj : j < ds.length := by rw [← lv]; exact (List.getElem?_eq_some_iff.mp h).1
          obtain ⟨w, h1, h2⟩ := rr.get (i := j) (List.getElem?_eq_getElem hj)
          rw [h] at h1
          cases h1
          exact ⟨_, List.getElem?_eq_getElem hj, h2⟩
        have nn : ∀ a ∈ ks, isNon a = false := fun a ha => by
          have := (List.all_eq_true.1 c2) a ha
          rw [Bool.and_eq_true] at this
          simpa using this.1
        refine ⟨l, vs, R1, ks, rfl, e1.sub, hs, fun z => ?_, by rw [kl, lv], (alkP_of c2).1, nn, fun a ha => Nat.le_trans (dep_memL ha) c3, fun j y kd h1 h2 R' H' e => ?_, fun y R' H' hy e => ?_⟩
        · rw [z] at lv
          cases ds with
          | nil => cases c1
          | cons _ _ => simp at lv
        · obtain ⟨d, hd, rd⟩ := get h1
          obtain ⟨k2, hk2, hf⟩ := kg j d hd
          rw [h2] at hk2
          cases hk2
          refine ⟨R', [d], ⟨e.sub, (s1.later e).tab⟩, ?_, hp.symm, ?_⟩
          · rw [hmd]
            exact .cons (RepF.of (Rep.mono e.rr _ _ rd) true) .nil
          · rw [hf]
            intro b R2 H3 x rb
            exact ⟨R2, x, rb⟩
        · obtain ⟨d, hd, rd⟩ := get hy
          rw [best_argD, lv] at hd
          rw [hd] at p1
          exact p1 y R' H' e (RepF.of (Rep.mono e.rr _ _ rd) fl)
      · rw [if_neg c] at p1
        exact p1.elim
  | _ => exact p1.elim
end
end Ps
end
section
set_option maxHeartbeats 4000000
/-! PsObj: objects: fields, methods, made ones. -/
namespace Ps
open PySem PySem.Spec PyProof.Rows L2
variable [Tbs]
/-! ### calls, what is raised wished for at the caller's slots -/
section
variable {X : Cx} {CX : CXT} {k : Nat} {f C : Addr} {fd : FuncData} {ps : List Str} {sp : Sp} {dvs : List V} {ds : List Value} {E : L2.St → XK} {x m : Str} {p pos apos : Pos} {e o : Expr} {es : List Expr} {ta : TE} {t : TA}
def tMethSD (C : Addr) (m : Str) (sp : Sp) (dvs : List V) (E : L2.St → XK) (ta : TE) (t : TA) : TE := fun σ H Q => ta σ H fun x H1 => ∃ a dx fs, x = .ref a ∧ H1 a = some (.ins C dx fs) ∧ fs.lookup m = none ∧
  t σ H1 fun vs H2 => sp (x :: (vs ++ dvs)) H2 Q (E σ)
theorem pe_methSD {pl : Sem Bool} (he : PE X o ta) (c : Cls X.K C) (hm : Meth X.K C m f) (F : FnOk X.prog X.w X.K X.mg X.base CX k f fd ps sp) (hr : Room k X.A) (hb : Binds X.K fd ps ds) (hd : Vals dvs ds) (hx : ∀ σ, PassesAt CX X σ (E σ)) (ha : PA X (e :: es) t)
    (hst : starEach (e :: es) X.env = (false, eval e X.env) :: starEach es X.env) (hpl : (backTo pos (starEach es X.env)).any (·.1) = false)
    (ht : eval (.Call (.Attribute o m apos) (e :: es) [] pos) X.env = (do
      let ov ← eval o X.env
      standAt apos.atName
      let (f, first) ← holding [ov] (getMethod ov m pl)
      callWith pos f first (backTo pos (starEach (e :: es) X.env)) (backToKw pos (keywordEach [] X.env)))) :
    PE X (.Call (.Attribute o m apos) (e :: es) [] pos) (tMethSD C m sp dvs E ta t) := by
  refine ⟨fun pins s σ H Q I h => ?_⟩
  refine PySem.W.methodCall_KW (pl := pl) (thn (he.run pins s σ H _ I h) fun u s1 ⟨x, H1, I1, rx, a, dx, fs, ex, ea, l, q⟩ => ?_) ht
  subst ex
  obtain rfl : u = Value.ref a := rx
  refine getmeth_ok I1 ea c hm l ?_
  refine PySem.W.callWith_K (first := [.ref a]) (h₀ := X.base) I.ok.mod.kin hm.kp (thn (ha.run pos pins s1 σ H1 _ I1 q) fun us s2 ⟨vs, H2, I2, r, q2⟩ => ⟨I2.kIn, ?_⟩) hst hpl
  exact run_fnSD (us := .ref a :: us) (vs := .ref a :: vs) F hr hb hd (hx σ) I2 (.cons rfl r) q2
theorem pe_methSD0 {pl : Sem Bool} (he : PE X o ta) (c : Cls X.K C) (hm : Meth X.K C m f) (F : FnOk X.prog X.w X.K X.mg X.base CX k f fd ps sp) (hr : Room k X.A) (hb : Binds X.K fd ps ds) (hd : Vals dvs ds) (hx : ∀ σ, PassesAt CX X σ (E σ))
    (ht : eval (.Call (.Attribute o m apos) [] [] pos) X.env = (do
      let ov ← eval o X.env
      standAt apos.atName
      let (f, first) ← holding [ov] (getMethod ov m pl)
      callWith pos f first (backTo pos (starEach [] X.env)) (backToKw pos (keywordEach [] X.env)))) :
    PE X (.Call (.Attribute o m apos) [] [] pos) (tMethSD C m sp dvs E ta tNil) := by
  refine ⟨fun pins s σ H Q I h => ?_⟩
  refine PySem.W.methodCall_KW (pl := pl) (thn (he.run pins s σ H _ I h) fun u s1 ⟨x, H1, I1, rx, a, dx, fs, ex, ea, l, q⟩ => ?_) ht
  subst ex
  obtain rfl : u = Value.ref a := rx
  refine getmeth_ok I1 ea c hm l ?_
  exact PySem.W.callWith_K0 (first := [.ref a]) I1.kIn hm.kp (run_fnSD (us := [.ref a]) (vs := [.ref a]) F hr hb hd (hx σ) I1 (.cons rfl .nil) q)
def tMakeSD (C : Addr) (sp : Sp) (dvs : List V) (E : L2.St → XK) (t : TA) : TE := fun σ H Q => t σ H fun vs H1 => ∀ x dx, H1 x = none → H1 dx = none → dx ≠ x →
  sp (.ref x :: (vs ++ dvs)) (upd (upd H1 dx (.own x)) x (.ins C dx [])) (fun v H2 => v = .non ∧ Q (.ref x) H2) (E σ)
theorem run_makeSD {pins : List (Addr × Obj)} {σ : L2.St} {H : Hp} {s : Shared} {Q : VK} {us : List Value} {vs : List V} (M : Mk X.K C f) (F : FnOk X.prog X.w X.K X.mg X.base CX k f fd ps sp) (hr : Room (k + 1) X.A) (hb : Binds X.K fd ps ds) (hd : Vals dvs ds)
    (hx : PassesAt CX X σ (E σ)) (I : Inv X pins σ H s) (r : Vals vs us)
    (h : ∀ x dx, H x = none → H dx = none → dx ≠ x → sp (.ref x :: (vs ++ dvs)) (upd (upd H dx (.own x)) x (.ins C dx [])) (fun v H2 => v = .non ∧ Q (.ref x) H2) (E σ)) :
    wpAny (model X.prog X.w) X.A (call (.ref C) us) (EP X pins σ Q) X.xe s := by
  have hq := h (s.heap.objs.size + 1) s.heap.objs.size (I.hok.fresh (Nat.le_succ _)) (I.hok.fresh (Nat.le_refl _)) (Nat.ne_of_lt (Nat.lt_succ_self _))
  have I2 := Inv.made (C := C) I
  have r2 : Vals (V.ref (s.heap.objs.size + 1) :: (vs ++ dvs)) (Value.ref (s.heap.objs.size + 1) :: (us ++ ds)) := .cons rfl (r.append hd)
  have hl : (Value.ref (s.heap.objs.size + 1) :: us ++ ds).length = ps.length := by
    have e := r2.length
    rw [F.len _ _ _ _ hq] at e
    exact e.symm
  refine wpAny_call (make_map (f := f) I.kIn M.makes M.init (beq_iff_eq.mp M.fn) (codeAny_mono (F.run _ X.stack _ _ ⟨Value.ref (s.heap.objs.size + 1) :: us, []⟩ (Value.ref (s.heap.objs.size + 1) :: (us ++ ds)) _ _ (E σ) (hr.make C us [])
    (I2.env0.make C us []) (hb _ (Value.ref (s.heap.objs.size + 1) :: us) I2.kIn hl) r2 hq) fun r s' hq' => ?_))
  cases r with
  | error e => exact hx pins _ _ e s' I2 hq'
  | ok fl =>
    cases fl with
    | ret u =>
      obtain ⟨v, H', I3, rv, ev, q3⟩ := I2.after hq'
      subst ev
      exact ⟨rv, ⟨V.ref (s.heap.objs.size + 1), H', I3, rfl, q3⟩⟩
    | next => exact False.elim hq'
    | brk => exact False.elim hq'
    | cont => exact False.elim hq'
theorem pe_makeSD (M : Mk X.K C f) (F : FnOk X.prog X.w X.K X.mg X.base CX k f fd ps sp) (hr : Room (k + 1) X.A) (hg : Gl X x) (hm : X.mg x = some (.ref C)) (hb : Binds X.K fd ps ds) (hd : Vals dvs ds) (hx : ∀ σ, PassesAt CX X σ (E σ))
    (ha : PA X (e :: es) t) (hdb : (x == ("__debug__" : Str)) = false) (he : starEach (e :: es) X.env = (false, eval e X.env) :: starEach es X.env) (hpl : (backTo pos (starEach es X.env)).any (·.1) = false) :
    PE X (.Call (.Name x p) (e :: es) [] pos) (tMakeSD C sp dvs E t) := by
  refine ⟨fun pins s σ H Q I h => ?_⟩
  refine wpAny_Call_Name_kw (ld_glob I hg hm ?_ hdb)
  refine PySem.W.callWith_K (h₀ := X.base) I.ok.mod.kin M.kp (thn (ha.run pos pins s σ H _ I h) fun us s1 ⟨vs, H1, I1, r, q⟩ => ⟨I1.kIn, ?_⟩) he hpl
  exact run_makeSD M F hr hb hd (hx σ) I1 r q
end
/-! ### fields -/
section
variable {K : PySem.W.Frag} {R H : Hp}
theorem FReps.get {fp : List Addr} {fs : List (Str × V)} {ds : List (String × D)} (h : FReps K R H fp fs ds) (f : String) : (ds.lookup f = none → fs.lookup (Str.ofString f) = none) ∧
    ∀ d, ds.lookup f = some d → (∃ v, fs.lookup (Str.ofString f) = some v ∧ Rep K R v d) ∨ ∃ b tv kvs, d = .dik kvs ∧ fs.lookup (Str.ofString f) = some (.ref b) ∧ H b = some (.dK tv) ∧ RepKv K R tv kvs ∧ b ∈ fp := by
  induction h with
  | nil => exact ⟨fun _ => rfl, fun d q => by cases q⟩
  | @rep g v d fp fs ds h t ih =>
    by_cases e : f = g
    · subst e
      refine ⟨fun q => by simp at q, fun d' q => ?_⟩
      simp at q
      subst q
      exact .inl ⟨v, by simp, h⟩
    · have e1 : (f == g) = false := by simpa using e
      have e2 : (Str.ofString f == Str.ofString g) = false := by
        simp only [beq_eq_false_iff_ne, ne_eq]
        exact fun z => e (ofString_inj z)
      rw [List.lookup_cons, List.lookup_cons, e1, e2]
      exact ih
  | @dik g b tv kvs fp fs ds h r n t ih =>
    by_cases e : f = g
    · subst e
      refine ⟨fun q => by simp at q, fun d' q => ?_⟩
      simp at q
      subst q
      exact .inr ⟨b, tv, kvs, rfl, by simp, h, r, List.mem_cons_self⟩
    · have e1 : (f == g) = false := by simpa using e
      have e2 : (Str.ofString f == Str.ofString g) = false := by
        simp only [beq_eq_false_iff_ne, ne_eq]
        exact fun z => e (ofString_inj z)
      rw [List.lookup_cons, List.lookup_cons, e1, e2]
      refine ⟨ih.1, fun d q => ?_⟩
      rcases ih.2 d q with z | ⟨b', tv', kvs', z1, z2, z3, z4, z5⟩
      · exact .inl z
      · exact .inr ⟨b', tv', kvs', z1, z2, z3, z4, List.mem_cons_of_mem _ z5⟩
/-- a field that holds data is stored to with data -/
theorem FReps.put {fp : List Addr} {fs : List (Str × V)} {ds : List (String × D)} (h : FReps K R H fp fs ds) (f : String) {v : V} {d : D} (r : Rep K R v d) :
    ∃ fp', (∀ b ∈ fp', b ∈ fp) ∧ FReps K R H fp' (putF (Str.ofString f) v fs) (putFD f d ds) := by
  induction h with
  | nil => exact ⟨[], fun _ h => h, .rep f r .nil⟩
  | @rep g v' d' fp fs ds h t ih =>
    simp only [putF, putFD]
    by_cases e : g = f
    · subst e
      rw [if_pos rfl, if_pos rfl]
      exact ⟨fp, fun _ h => h, .rep _ r t⟩
    · have e2 : Str.ofString g ≠ Str.ofString f := fun z => e (ofString_inj z)
      rw [if_neg e, if_neg e2]
      obtain ⟨fp', s, q⟩ := ih
      exact ⟨fp', s, .rep g h q⟩
  | @dik g b tv kvs fp fs ds h rr n t ih =>
    simp only [putF, putFD]
    by_cases e : g = f
    · subst e
      rw [if_pos rfl, if_pos rfl]
      exact ⟨fp, fun _ h => List.mem_cons_of_mem _ h, .rep _ r t⟩
    · have e2 : Str.ofString g ≠ Str.ofString f := fun z => e (ofString_inj z)
      rw [if_neg e, if_neg e2]
      obtain ⟨fp', s, q⟩ := ih
      refine ⟨b :: fp', fun x hx => ?_, .dik g h rr (fun z => n (s _ z)) q⟩
      rcases List.mem_cons.mp hx with rfl | hx
      · exact List.mem_cons_self
      · exact List.mem_cons_of_mem _ (s _ hx)
theorem FReps.length {fp : List Addr} {fs : List (Str × V)} {ds : List (String × D)} (h : FReps K R H fp fs ds) : fs.length = ds.length := by
  induction h with
  | nil => rfl
  | rep f h t ih => simp [ih]
  | dik f h r n t ih => simp [ih]
theorem OwnT.obj_inv {a : Addr} {c : String} {ds : List (String × D)} {fp : List Addr} (h : OwnT K R H a (.obj c ds) fp) : ∃ dx fs fq, fp = a :: dx :: fq ∧ H a = some (.ins (He.ga K (Str.ofString c)) dx fs) ∧ H dx = some (.own a) ∧ FReps K R H fq fs ds := by
  cases h with
  | obj h hd r => exact ⟨_, _, _, rfl, h, hd, r⟩
theorem Shal.obj_inv {v : V} {c : String} {ds : List (String × D)} (h : Shal K R H v (.obj c ds)) : ∃ a fp, v = .ref a ∧ OwnT K R H a (.obj c ds) fp := by
  rcases h with h | ⟨a, vs, es, h1, h2, h3, h4⟩ | ⟨a, tv, kvs, h1, h2, h3, h4⟩ | h
  · cases h
  · cases h2
  · cases h2
  · exact h
end
section
variable {Φ : FEnv} {XR : XRel} {M : Ow} {X : Cx} {W : WX} {T : Tab} {N : List Str} {sc : Scope} {fnB : Str → Bool}
theorem clsOf_ok {i : Nat} {k : ClsT} (h : clsOf T M i = some k) : k ∈ T.cls := by
  unfold clsOf at h
  cases h1 : M.c.lookup i with
  | none => rw [h1] at h; cases h
  | some c =>
    rw [h1] at h
    exact List.mem_of_find?_eq_some h
theorem objOf_ok {o : Expr} {i : Nat} {k : ClsT} (h : objOf T sc N M o = some (i, k)) : (∃ x p, o = .Name x p ∧ slotOf sc N x = some i) ∧ k ∈ T.cls := by
  cases o with
  | Name x p =>
    change ((slotOf sc N x).bind fun i => (clsOf T M i).bind fun k => some (i, k)) = some (i, k) at h
    cases h1 : slotOf sc N x with
    | none => rw [h1] at h; cases h
    | some j =>
      rw [h1] at h
      change ((clsOf T M j).bind fun k => some (j, k)) = some (i, k) at h
      cases h2 : clsOf T M j with
      | none => rw [h2] at h; cases h
      | some k' =>
        rw [h2] at h
        cases h
        exact ⟨⟨x, p, rfl, h1⟩, clsOf_ok h2⟩
  | _ => cases h
theorem fldOf_ok {o : Expr} {f : Str} {i : Nat} {c g : String} (h : fldOf T sc N M o f = some (i, c, g)) : (∃ x p, o = .Name x p ∧ slotOf sc N x = some i) ∧ ∃ k ∈ T.cls, k.key = c ∧ (f, g) ∈ k.flds := by
  unfold fldOf at h
  cases h1 : objOf T sc N M o with
  | none => rw [h1] at h; cases h
  | some p =>
    obtain ⟨j, k⟩ := p
    rw [h1] at h
    change ((k.flds.lookup f).bind fun g => some (j, k.key, g)) = some (i, c, g) at h
    cases h2 : k.flds.lookup f with
    | none => rw [h2] at h; cases h
    | some g' =>
      rw [h2] at h
      cases h
      obtain ⟨q1, q2⟩ := objOf_ok h1
      refine ⟨q1, k, q2, rfl, ?_⟩
      have : ∀ l : List (Str × String), l.lookup f = some g → (f, g) ∈ l := by
        intro l
        induction l with
        | nil => intro q; cases q
        | cons y l ih =>
          obtain ⟨y1, y2⟩ := y
          intro q
          rw [List.lookup_cons] at q
          by_cases e : (f == y1) = true
          · rw [e] at q
            cases q
            rw [eq_of_beq e]
            exact List.mem_cons_self
          · rw [Bool.not_eq_true] at e
            rw [e] at q
            exact List.mem_cons_of_mem _ (ih q)
      exact this _ h2
theorem getv_inv {ρ : Rho} {i : Nat} {d : D} (h : getv ρ i = .ok d) : ρ[i]? = some (some d) := by
  unfold getv at h
  split at h
  · rename_i d' e
    injection h with h
    rw [e, h]
  · cases h
theorem getv_nx {ρ : Rho} {i : Nat} {c ps} : getv ρ i ≠ .exc c ps := by
  unfold getv
  intro h
  split at h <;> cases h
/-- o.f -/
theorem se_fld (S : Site T Φ XR N sc fnB X W) {o : Expr} {f : Str} {i : Nat} {c g : String} {pos : Pos} {fl : Bool} (h : fldOf T sc N M o f = some (i, c, g)) : SE Φ XR M X W fl (.Attribute o f pos) (.fld (.var i) c g) := by
  obtain ⟨⟨x, p, rfl, hs⟩, k, hk, rfl, hf⟩ := fldOf_ok h
  have ck := S.cls k hk
  obtain ⟨na, ef⟩ := ck.noat _ hf
  simp only at ef
  subst ef
  obtain ⟨h1, h2, h3, h4⟩ := slot_ok S hs
  refine ⟨_, pe_fld (pe_var h1 h2 h3 h4) rfl, fun R0 H0 R H σ ρ Q s p => ?_⟩
  simp only [ev] at p
  cases hv : getv ρ i with
  | exc _ _ => exact absurd hv getv_nx
  | stuck => rw [hv] at p; exact p.elim
  | ok d =>
    rw [hv] at p
    simp only [Res.bind_ok] at p
    have hd := getv_inv hv
    obtain ⟨v, e1, hsh⟩ := s.shalV hd
    cases d with
    | obj c' ds =>
      simp only [fldR] at p
      by_cases ec : c' = k.key
      · subst ec
        rw [if_pos rfl] at p
        obtain ⟨a, fp, rfl, ow⟩ := hsh.obj_inv
        obtain ⟨dx, fs, fq, rfl, ha, hdx, fr⟩ := ow.obj_inv
        rw [← ck.key] at ha
        cases hl : ds.lookup g with
        | none => rw [hl] at p; exact p.elim
        | some d =>
          rw [hl] at p
          rcases (fr.get g).2 d hl with ⟨v', q1, q2⟩ | ⟨b, tv, kvs, rfl, _⟩
          · refine ⟨_, e1, a, _, dx, fs, v', rfl, ha, ck.cl, na, q1, ?_⟩
            cases d with
            | dik _ => cases q2
            | _ => exact PostE.here s.sub p (RepF.of q2 fl)
          · exact p.elim
      · rw [if_neg ec] at p
        exact p.elim
    | _ => exact p.elim
theorem methOf_ok {o : Expr} {m : Str} {i : Nat} {k : ClsT} {sg : Sig} (h : methOf T sc N M o m = some (i, k, sg)) : (∃ x p, o = .Name x p ∧ slotOf sc N x = some i) ∧ k ∈ T.cls ∧ sg ∈ T.sigs ∧ ∃ n, sg.cls = some (k.key, n) ∧ Str.ofString n = m ∧ sg.mth = n := by
  unfold methOf at h
  cases h1 : objOf T sc N M o with
  | none => rw [h1] at h; cases h
  | some p =>
    obtain ⟨j, k'⟩ := p
    rw [h1] at h
    simp only [Option.bind] at h
    split at h
    · cases h
    · rename_i s hs
      cases h
      obtain ⟨q1, q2⟩ := objOf_ok h1
      refine ⟨q1, q2, List.mem_of_find?_eq_some hs, ?_⟩
      have := List.find?_some hs
      split at this
      · rename_i c n e
        rw [Bool.and_eq_true] at this
        obtain ⟨z1, z2⟩ := this
        refine ⟨n, by rw [e, eq_of_beq z1], of_decide_eq_true z2, ?_⟩
        unfold Sig.mth
        rw [e]
        rfl
      · cases this
/-- how a method's call runs -/
theorem meth_eval {x m : Str} {p ap pos : Pos} {as : List Expr} {env : PySem.Env} (hl : (ap.endLine == pos.line) = true) (hn : as.length < 20) (hp : (backTo pos (starEach as env)).any (·.1) = false) :
    eval (.Call (.Attribute (.Name x p) m ap) as [] pos) env = (do
      let ov ← eval (.Name x p) env
      standAt ap.atName
      let (f, first) ← holding [ov] (getMethod ov m (do return (← importBound (.Name x p) env).getD true))
      callWith pos f first (backTo pos (starEach as env)) (backToKw pos (keywordEach [] env))) := by
  have hall : (backTo pos (starEach as env)).all (fun x => !x.1) = true := by
    rw [List.all_eq_true]
    intro y hy
    rw [List.any_eq_false] at hp
    have := hp y hy
    simpa using this
  have hfew : methodCallForm (as.length + ([] : List Keyword).length) (backTo pos (starEach as env)) (backToKw pos (keywordEach [] env)) = true := by
    unfold methodCallForm
    rw [hall]
    show (true && true && decide (as.length + 0 + 0 < 30)) = true
    simp
    omega
  show (do
    let ov ← eval (.Name x p) env
    standAt ap.atName
    methodCall (.Name x p) m ap pos env ov (as.length + ([] : List Keyword).length) (backTo pos (starEach as env)) (backToKw pos (keywordEach [] env))) = _
  unfold methodCall
  rw [hfew]
  have hpos : methodCallPos true (.Name x p) env ap pos = pure pos := by
    unfold methodCallPos
    rw [hl]
    rfl
  rw [hpos]
  rfl
/-- .. of a def that changes nothing: its promise -/
theorem meth_ask {R H : Hp} {key : String} {par : Nat} {md : List Bool} {d : D} {v : V} {vs : List V} {xs : List D} {Q : VK} {E : XK} {fl : Bool} (sm : Same R H ∧ TabOk R H) (h : Shal X.K R H v d) (r : RepFs X.K true md.tail R H vs xs) (hmd : md.headD true = false) (hpar : par = xs.length + 1)
    (p : PostE XR R H (RepF X.K fl) (Φ key (d :: xs)) Q E) : spOf XR X.K Φ key par md (v :: (vs ++ [])) H Q E := by
  refine ⟨R, d :: xs, sm, ?_, ?_, ?_⟩
  · rw [List.append_nil]
    refine .cons ?_ r
    rw [hmd]
    exact h
  · rw [List.append_nil, List.length_cons, r.length, hpar]
  · generalize Φ key (d :: xs) = q at p ⊢
    cases q with
    | ok d => exact fun v R' H' e h => p v R' H' e (RepF.of h fl)
    | exc c ps => exact p
    | stuck => exact p
/-- what is there for a method's call -/
theorem meth_at (S : Site T Φ XR N sc fnB X W) {o : Expr} {m : Str} {i : Nat} {k : ClsT} {sg : Sig} (h : methOf T sc N M o m = some (i, k, sg)) (hdfl : sg.dfl = []) :
    ∃ x p n lv f fd ps ds, o = .Name x p ∧ slotOf sc N x = some i ∧ k ∈ T.cls ∧ sg.mth = n ∧ Str.ofString n = m ∧ Cls X.K (He.ga X.K (Str.ofString k.key)) ∧ Meth X.K (He.ga X.K (Str.ofString k.key)) m f ∧ Room lv X.A ∧ FnOk X.prog X.w X.K X.mg X.base (L2.CX X.prog X.w) lv f fd ps (spS XR X.K Φ sg) ∧ Binds X.K fd ps ds ∧ Vals [] ds := by
  obtain ⟨⟨x, p, rfl, hs⟩, hk, hsg, n, hc, hn, hmth⟩ := methOf_ok h
  have ck := S.cls k hk
  obtain ⟨lv, hr, hS⟩ := S.sigs
  obtain ⟨f, fd, ps, mf, kf, F, bnd⟩ := hS sg hsg
  unfold AtF at mf
  rw [hc] at mf
  simp only at mf
  rw [hn] at mf
  obtain ⟨dvs, dds, rv, rd, hb⟩ := bnd 0 (Nat.zero_le _)
  have ed : dvs = [] := by
    have := (rd (fun _ => none))
    rw [hdfl] at this
    cases this
    rfl
  subst ed
  have cl := ck.cl
  rw [ck.key] at cl
  exact ⟨x, p, n, lv, f, fd, ps, dds, rfl, hs, hk, hmth, hn, cl, mf, hr.mono (Nat.le_succ lv), F, hb, rv⟩
theorem obM_inv {c m : String} {d : D} (h : obM c m d = true) : ∃ fs, d = .obj c fs ∧ fs.lookup m = none := by
  cases d with
  | obj c' fs =>
    simp only [obM, Bool.and_eq_true, decide_eq_true_eq] at h
    obtain ⟨rfl, h⟩ := h
    refine ⟨fs, rfl, ?_⟩
    cases q : fs.lookup m with
    | none => rfl
    | some _ => rw [q] at h; cases h
  | _ => cases h
/-- o.m(..), that changes nothing -/
theorem se_meth (S : Site T Φ XR N sc fnB X W) {o : Expr} {m : Str} {i : Nat} {k : ClsT} {sg : Sig} {e : Expr} {es : List Expr} {cs : CL} {ap pos : Pos} {fl : Bool} (h : methOf T sc N M o m = some (i, k, sg)) (hio : sg.io = []) (hpar : sg.par = (e :: es).length + 1) (hdfl : sg.dfl = [])
    (hmd : sg.md.headD true = false) (hline : (ap.endLine == pos.line) = true) (hn20 : (e :: es).length < 20) (ha : SL Φ XR M X W true sg.md.tail (e :: es) cs) (hl : ∀ ρ xs, evs Φ cs ρ = .ok xs → xs.length = (e :: es).length)
    (he : starEach (e :: es) X.env = (false, eval e X.env) :: starEach es X.env) (hpl : (backTo pos (starEach es X.env)).any (·.1) = false) :
    SE Φ XR M X W fl (.Call (.Attribute o m ap) (e :: es) [] pos) (.meth i k.key sg.mth sg.key cs) := by
  obtain ⟨x, p, n, lv, f, fd, ps, ds, rfl, hs, hk, hmth, hn, cl, mf, hr, F, hb, rv⟩ := meth_at S h hdfl
  obtain ⟨t, pt, q⟩ := ha
  unfold spS at F
  rw [if_pos hio] at F
  obtain ⟨h1, h2, h3, h4⟩ := slot_ok S hs
  refine ⟨_, pe_methSD (pe_var h1 h2 h3 h4) cl mf F hr hb rv (fun σ => passAt S.takes σ) pt he hpl (meth_eval hline hn20 (by
    rw [he]
    show ((false, _) :: backTo pos (starEach es X.env)).any (·.1) = false
    rw [List.any_cons, hpl]
    rfl)), fun R0 H0 R H σ ρ Q s pp => ?_⟩
  simp only [ev] at pp
  cases hv : getv ρ i with
  | exc _ _ => exact absurd hv getv_nx
  | stuck => rw [hv] at pp; exact pp.elim
  | ok d =>
    rw [hv] at pp
    simp only [Res.bind_ok] at pp
    have hd := getv_inv hv
    obtain ⟨v, e1, hsh⟩ := s.shalV hd
    refine ⟨v, e1, ?_⟩
    by_cases c : obM k.key sg.mth d = true
    · rw [if_pos c] at pp
      obtain ⟨fs, rfl, hl0⟩ := obM_inv c
      obtain ⟨a, fp, rfl, ow⟩ := hsh.obj_inv
      obtain ⟨dx, gs, fq, rfl, ha, hdx, fr⟩ := ow.obj_inv
      refine ⟨a, dx, gs, rfl, ha, ?_, ?_⟩
      · have := (fr.get sg.mth).1 hl0
        rw [hmth, hn] at this
        exact this
      · refine q R0 H0 R H σ ρ _ s ?_
        generalize hx : evs Φ cs ρ = r at pp ⊢
        cases r with
        | ok xs =>
          intro vs R1 H1 x1 r1
          exact meth_ask ⟨x1.sub, (s.later x1).tab⟩ (hsh.later x1) r1 hmd (by rw [hpar, hl ρ xs hx]) (PostE.later pp x1)
        | exc c ps => exact pp
        | stuck => exact pp
    · rw [if_neg c] at pp
      exact pp.elim
/-- o.m(), that changes nothing -/
theorem se_meth0 (S : Site T Φ XR N sc fnB X W) {o : Expr} {m : Str} {i : Nat} {k : ClsT} {sg : Sig} {ap pos : Pos} {fl : Bool} (h : methOf T sc N M o m = some (i, k, sg)) (hio : sg.io = []) (hpar : sg.par = 1) (hdfl : sg.dfl = [])
    (hmd : sg.md.headD true = false) (hline : (ap.endLine == pos.line) = true) :
    SE Φ XR M X W fl (.Call (.Attribute o m ap) [] [] pos) (.meth i k.key sg.mth sg.key .nil) := by
  obtain ⟨x, p, n, lv, f, fd, ps, ds, rfl, hs, hk, hmth, hn, cl, mf, hr, F, hb, rv⟩ := meth_at S h hdfl
  unfold spS at F
  rw [if_pos hio] at F
  obtain ⟨h1, h2, h3, h4⟩ := slot_ok S hs
  refine ⟨_, pe_methSD0 (pe_var h1 h2 h3 h4) cl mf F hr hb rv (fun σ => passAt S.takes σ) (meth_eval hline (by simp) rfl), fun R0 H0 R H σ ρ Q s pp => ?_⟩
  simp only [ev] at pp
  cases hv : getv ρ i with
  | exc _ _ => exact absurd hv getv_nx
  | stuck => rw [hv] at pp; exact pp.elim
  | ok d =>
    rw [hv] at pp
    simp only [Res.bind_ok] at pp
    have hd := getv_inv hv
    obtain ⟨v, e1, hsh⟩ := s.shalV hd
    refine ⟨v, e1, ?_⟩
    by_cases c : obM k.key sg.mth d = true
    · rw [if_pos c] at pp
      obtain ⟨fs, rfl, hl0⟩ := obM_inv c
      obtain ⟨a, fp, rfl, ow⟩ := hsh.obj_inv
      obtain ⟨dx, gs, fq, rfl, ha, hdx, fr⟩ := ow.obj_inv
      refine ⟨a, dx, gs, rfl, ha, ?_, ?_⟩
      · have := (fr.get sg.mth).1 hl0
        rw [hmth, hn] at this
        exact this
      · simp only [evs, Res.bind_ok] at pp
        exact meth_ask (vs := []) (xs := []) ⟨s.sub, s.tab⟩ hsh .nil hmd (by rw [hpar]; rfl) pp
    · rw [if_neg c] at pp
      exact pp.elim
end
end Ps
end
section
set_option maxHeartbeats 4000000
/-! PsSE5: every expression that is told is told rightly. -/
namespace Ps
open PySem PySem.Spec PyProof.Rows L2
variable [Tbs]
theorem obind {α β : Type} {o : Option α} {f : α → Option β} {b : β} (h : o.bind f = some b) : ∃ a, o = some a ∧ f a = some b := by
  cases o with
  | none => cases h
  | some a => exact ⟨a, rfl, h⟩
theorem oif {β : Type} {c : Prop} [Decidable c] {o : Option β} {b : β} (h : (if c then o else none) = some b) : c ∧ o = some b := by
  by_cases q : c
  · rw [if_pos q] at h
    exact ⟨q, h⟩
  · rw [if_neg q] at h
    cases h
theorem oifn {β : Type} {c : Prop} [Decidable c] {o : Option β} {b : β} (h : (if c then none else o) = some b) : ¬ c ∧ o = some b := by
  by_cases q : c
  · rw [if_pos q] at h
    cases h
  · rw [if_neg q] at h
    exact ⟨q, h⟩
def notStar : Expr → Bool
  | .Starred .. => false
  | _ => true
theorem star_cons {e : Expr} {es : List Expr} {env : PySem.Env} (h : notStar e = true) : starEach (e :: es) env = (false, eval e env) :: starEach es env := by
  cases e <;> first | rfl | (cases h; done)
section
variable {T : Tab} {N : List Str} {M : Ow}
theorem trE_star {n : Nat} {sc : Scope} {fl : Bool} {e : Expr} {c : CE} (h : trE T N M n sc fl e = some c) : notStar e = true := by
  cases n with
  | zero => simp only [trE] at h; cases h
  | succ n => cases e <;> first | rfl | (simp only [trE] at h; cases h)
theorem trL_len : ∀ (n : Nat) {sc : Scope} {fl : Bool} {md : List Bool} {es : List Expr} {cs : CL}, trL T N M n sc fl md es = some cs → ∀ (Φ : FEnv) ρ xs, evs Φ cs ρ = .ok xs → xs.length = es.length
  | 0, _, _, _, _, _, h => by simp only [trL] at h; cases h
  | n + 1, sc, fl, md, [], cs, h => fun Φ ρ xs hx => by
    simp only [trL] at h
    cases h
    simp only [evs] at hx
    cases hx
    rfl
  | n + 1, sc, fl, md, e :: es, cs, h => fun Φ ρ xs hx => by
    have h : ((trE T N M n sc (md.headD fl) e).bind fun x => (trL T N M n sc fl md.tail es).bind fun xs => some (CL.cons x xs)) = some cs := by
      cases e <;> first | exact h | (simp only [trL] at h; first | exact h | cases h)
    obtain ⟨x, h1, h⟩ := obind h
    obtain ⟨xs', h2, h⟩ := obind h
    cases h
    simp only [evs] at hx
    cases hv : ev Φ x ρ with
    | ok v =>
      rw [hv] at hx
      simp only [Res.bind_ok] at hx
      cases hw : evs Φ xs' ρ with
      | ok vs =>
        rw [hw] at hx
        simp only [Res.bind_ok] at hx
        cases hx
        rw [List.length_cons, List.length_cons, trL_len n h2 Φ ρ vs hw]
      | exc c ps => rw [hw] at hx; cases hx
      | stuck => rw [hw] at hx; cases hx
    | exc c ps => rw [hv] at hx; cases hx
    | stuck => rw [hv] at hx; cases hx
theorem trL_plain : ∀ (n : Nat) {sc : Scope} {fl : Bool} {md : List Bool} {es : List Expr} {cs : CL}, trL T N M n sc fl md es = some cs → ∀ (env : PySem.Env) (pos : Pos), (backTo pos (starEach es env)).any (·.1) = false
  | 0, _, _, _, _, _, h => by simp only [trL] at h; cases h
  | n + 1, sc, fl, md, [], cs, h => fun env pos => rfl
  | n + 1, sc, fl, md, e :: es, cs, h => fun env pos => by
    have h : ((trE T N M n sc (md.headD fl) e).bind fun x => (trL T N M n sc fl md.tail es).bind fun xs => some (CL.cons x xs)) = some cs := by
      cases e <;> first | exact h | (simp only [trL] at h; first | exact h | cases h)
    obtain ⟨x, h1, h⟩ := obind h
    obtain ⟨xs', h2, h⟩ := obind h
    rw [star_cons (trE_star h1)]
    show ((false, _) :: backTo pos (starEach es env)).any (·.1) = false
    rw [List.any_cons, trL_plain n h2 env pos]
    rfl
end
section
variable {Φ : FEnv} {XR : XRel} {M : Ow} {T : Tab} {N : List Str}
/-- all that is told with fuel n -/
structure AllE (T : Tab) (N : List Str) (M : Ow) (Φ : FEnv) (XR : XRel) (n : Nat) : Prop where
  e : ∀ {X : Cx} {W : WX} {fnB sc fl e c}, Site T Φ XR N sc fnB X W → trE T N M n sc fl e = some c → SE Φ XR M X W fl e c
  t : ∀ {X : Cx} {W : WX} {fnB sc e c}, Site T Φ XR N sc fnB X W → trE T N M n sc false e = some c → STt Φ XR M X W e c
  w : ∀ {X : Cx} {W : WX} {fnB sc o vs p c}, Site T Φ XR N sc fnB X W → trE T N M n sc false (.BoolOp o vs p) = some c → SW Φ XR M X W (.BoolOp o vs p) c
  l : ∀ {X : Cx} {W : WX} {fnB sc fl md es c}, Site T Φ XR N sc fnB X W → trL T N M n sc fl md es = some c → SL Φ XR M X W fl md es c
  o : ∀ {X : Cx} {W : WX} {fnB sc e c}, Site T Φ XR N sc fnB X W → trO T N M n sc e = some c → SO Φ XR M X W e c
  i : ∀ {X : Cx} {W : WX} {fnB sc fl tg e c}, Site T Φ XR N sc fnB X W → trI T N M n sc fl (isTup tg) e = some c → SI Φ XR M X W fl tg e c
  n : ∀ {X : Cx} {W : WX} {fnB sc e c}, Site T Φ XR N sc fnB X W → trE T N M n sc true e = some c → newC c = true → SN Φ XR M X W e c
/-- a comprehension's block is a site, too -/
theorem Site.blk {X : Cx} {W : WX} {fnB : Str → Bool} {sc : Scope} (S : Site T Φ XR N sc fnB X W) (s : Shared) (H : Hp) (C : Addr) (cl : List (Str × Addr)) (fp : List Addr) (scope : Scope) :
    Site T Φ XR N (relS scope sc) (fun x => scope.names.lookup x == some .cell) (X.blk s H scope (compEnvC scope cl C X.env) fp) WN := by
  refine ⟨S.calm, S.nE, S.nd, ?_, rfl, ?_, S.const, S.blt, takes0, S.cls, ?_⟩
  · rw [← S.scE]
    rfl
  · obtain ⟨k, r, h⟩ := S.sigs
    exact ⟨k, r, fun g hg => h g hg⟩
  · intro z
    obtain ⟨⟨k, r, h⟩, w⟩ := S.lam z
    exact ⟨⟨k, r, fun g hg => h g hg⟩, w⟩
theorem locOf_M {sc : Scope} {fnB : Str → Bool} {x : Str} {i : Nat} (h : locOf sc fnB N M x = some i) : i ∉ M := by
  unfold locOf at h
  split at h
  · rename_i j _
    obtain ⟨h1, h⟩ := oifn h
    have e : i = j := by
      split at h
      · injection h with h; exact h.symm
      · obtain ⟨_, h⟩ := oif h
        injection h with h; exact h.symm
      · cases h
    rw [e]
    simpa using h1
  · cases h
theorem locsOf_M {sc : Scope} {fnB : Str → Bool} : ∀ {es : List Expr} {is : List Nat}, locsOf sc fnB N M es = some is → ∀ i ∈ is, i ∉ M
  | [], is, h => by cases h; simp
  | e :: es, is, h => by
    cases e <;> first | (cases h; done) | skip
    obtain ⟨i, h1, h⟩ := obind h
    obtain ⟨js, h2, h⟩ := obind h
    cases h
    intro j hj
    rcases List.mem_cons.mp hj with rfl | hj
    · exact locOf_M h1
    · exact locsOf_M h2 j hj
theorem trG_M {sc : Scope} {fnB : Str → Bool} {e : Expr} {t : Tg} (h : trG sc fnB N M e = some t) : ∀ i ∈ slotsT t, i ∉ M := by
  cases e <;> first | (cases h; done) | skip
  · rename_i x p
    change (locOf sc fnB N M x).map Tg.nm = some t at h
    cases hl : locOf sc fnB N M x with
    | none => rw [hl] at h; cases h
    | some i =>
      rw [hl] at h
      cases h
      intro j hj
      simp only [slotsT, List.mem_singleton] at hj
      rw [hj]
      exact locOf_M hl
  · rename_i es k p
    change (locsOf sc fnB N M es).map Tg.tp = some t at h
    cases hl : locsOf sc fnB N M es with
    | none => rw [hl] at h; cases h
    | some i =>
      rw [hl] at h
      cases h
      exact locsOf_M hl
abbrev Lower (T : Tab) (N : List Str) (M : Ow) (Φ : FEnv) (XR : XRel) (n : Nat) : Prop := ∀ m, m ≤ n → AllE T N M Φ XR m
theorem comp_new {n : Nat} (A : Lower T N M Φ XR n) {X : Cx} {W : WX} {fnB sc fl elt gens scope pos c} (S : Site T Φ XR N sc fnB X W) (h : trE T N M (n + 1) sc fl (.ListComp elt gens scope pos) = some c) :
    SNA Φ XR M X W (.ListComp elt gens scope pos) c ∧ newC c = true := by
  simp only [trE] at h
  split at h
  all_goals first | (cases h; done) | (rename_i heq; cases heq; done) | skip
  all_goals rename_i heq
  all_goals cases heq
  rename_i tg it ifs
  obtain ⟨h0, h⟩ := oif h
  rw [Bool.and_eq_true] at h0
  obtain ⟨t, ht, h⟩ := obind h
  obtain ⟨ci, hi, h⟩ := obind h
  obtain ⟨cc, hc, h⟩ := obind h
  obtain ⟨h1, h⟩ := oif h
  obtain ⟨ce, hel, h⟩ := obind h
  cases h
  have ok : BlkOk X.N X.env.scope scope (ownOf N scope) := by
    rw [S.nE, S.scE]
    exact blkOk_by h0.1
  have hM : ∀ p ∈ ownOf N scope, p.2 ∉ M := fun p hp => by
    have z := List.all_eq_true.mp h0.2 p hp
    exact Ow.contains_not.mp (by simpa using z)
  have hsl : ∀ i ∈ slotsT t, i ∈ (ownOf N scope).map (·.2) := fun i hi => by
    have z := List.all_eq_true.mp h1.2 i hi
    simpa using z
  have pgs : ∀ (s : Shared) (H : Hp) (C : Addr) (cl : List (Str × Addr)) (fp : List Addr), PG (X.blk s H scope (compEnvC scope cl C X.env) fp) tg (tgG X.K t) ∧ ∀ i ∈ slotsT t, i ∉ M := fun s H C cl fp =>
    pg_ok (S.blk s H C cl fp scope) ht
  have hset : ∀ x, foldedSetIterable it X.env x = pure x := fun x => by
    cases it <;> first | rfl | skip
    exfalso
    cases n with
    | zero => simp only [trI] at hi; cases hi
    | succ m =>
      simp only [trI] at hi
      obtain ⟨z, hz, _⟩ := obind hi
      cases m with
      | zero => simp only [trE] at hz; cases hz
      | succ m => simp only [trE] at hz; cases hz
  refine ⟨sn_comp S ((A n (Nat.le_refl n)).i S hi) ok hM (fun i hi => ⟨trG_M ht i hi, hsl i hi⟩) (fun s H C cl fp => (pgs s H C cl fp).1) (fun s H C cl fp => ?_)
    (fun s H C cl fp => ((A n (Nat.le_refl n)).e (S.blk s H C cl fp scope) hel).can) hset, rfl⟩
  have SB := S.blk s H C cl fp scope
  cases n with
  | zero => simp only [trL] at hc; cases hc
  | succ m =>
    cases ifs with
    | nil =>
      simp only [trL] at hc
      cases hc
      refine ⟨fun pins s2 σ H2 Q I q => ?_⟩
      obtain ⟨R0, H0, R, ρ, sr, p⟩ := q
      simp only [evc] at p
      exact pts_nil.run pins s2 σ H2 Q I (PostE.here sr.sub p rfl)
    | cons c1 r =>
      cases r with
      | cons _ _ =>
        have := h1.1
        simp at this
      | nil =>
        have hc : ((trE T N M m (relS scope sc) false c1).bind fun x => (trL T N M m (relS scope sc) false [] []).bind fun xs => some (CL.cons x xs)) = some cc := by
          cases c1 <;> first | exact hc | (simp only [trL] at hc; first | exact hc | cases hc)
        obtain ⟨x, hx, hc⟩ := obind hc
        obtain ⟨xs, hxs, hc⟩ := obind hc
        cases hc
        have exs : xs = .nil := by
          cases m with
          | zero => simp only [trL] at hxs; cases hxs
          | succ m => simp only [trL] at hxs; cases hxs; rfl
        subst exs
        obtain ⟨t1, pt, ht1⟩ := (A m (Nat.le_succ m)).t SB hx
        refine ⟨fun pins s2 σ H2 Q I q => ?_⟩
        obtain ⟨R0, H0, R, ρ, sr, p⟩ := q
        simp only [evc] at p
        exact (pts_one pt).run pins s2 σ H2 Q I (ht1 R0 H0 R H2 σ ρ Q sr p)
theorem all_l {n : Nat} (A : Lower T N M Φ XR n) {X : Cx} {W : WX} {fnB sc fl md es c} (S : Site T Φ XR N sc fnB X W) (h : trL T N M (n + 1) sc fl md es = some c) : SL Φ XR M X W fl md es c := by
  cases es with
  | nil =>
    simp only [trL] at h
    cases h
    exact sl_nil
  | cons e r =>
    have h : ((trE T N M n sc (md.headD fl) e).bind fun x => (trL T N M n sc fl md.tail r).bind fun xs => some (CL.cons x xs)) = some c := by
      cases e <;> first | exact h | (simp only [trL] at h; first | exact h | cases h)
    obtain ⟨x, h1, h⟩ := obind h
    obtain ⟨xs, h2, h⟩ := obind h
    cases h
    exact sl_cons ((A n (Nat.le_refl n)).e S h1) ((A n (Nat.le_refl n)).l S h2) (star_cons (trE_star h1))
theorem all_o {n : Nat} (A : Lower T N M Φ XR n) {X : Cx} {W : WX} {fnB sc e c} (S : Site T Φ XR N sc fnB X W) (h : trO T N M (n + 1) sc e = some c) : SO Φ XR M X W e c := by
  cases e with
  | none =>
    simp only [trO] at h
    cases h
    exact so_no
  | some e =>
    simp only [trO] at h
    obtain ⟨x, h1, h⟩ := obind h
    cases h
    exact so_yes ((A n (Nat.le_refl n)).e S h1)
theorem lentOf_ok {sc : Scope} {e : Expr} {i : Nat} (h : lentOf sc N M e = some i) : ∃ x p, e = .Name x p ∧ slotOf sc N x = some i ∧ i ∈ M.s := by
  cases e with
  | Name x p =>
    have h : ((slotOf sc N x).bind fun i => if M.s.contains i then some i else none) = some i := h
    cases hs : slotOf sc N x with
    | none => rw [hs] at h; cases h
    | some j =>
      rw [hs] at h
      have h : (if M.s.contains j then some j else none) = some i := h
      split at h
      · rename_i c
        cases h
        exact ⟨x, p, rfl, hs, by simpa using c⟩
      · cases h
  | _ => cases h
theorem baseE_cases {fl : Bool} {l : Option Nat} {r : Option CE} {c : CE} (h : baseE fl l r = some c) : (∃ i, l = some i ∧ fl = true ∧ c = .var i) ∨ r = some c := by
  unfold baseE at h
  split at h
  · cases h
    exact .inl ⟨_, rfl, rfl, rfl⟩
  · exact .inr h
theorem base_star {n : Nat} {sc : Scope} {fl : Bool} {e : Expr} {c : CE} (h : baseE fl (lentOf sc N M e) (trE T N M n sc fl e) = some c) : notStar e = true := by
  rcases baseE_cases h with ⟨i, hl, _, _⟩ | h
  · obtain ⟨x, p, rfl, _⟩ := lentOf_ok hl
    rfl
  · exact trE_star h
theorem base_ok {n : Nat} (A : ∀ {c : CE} {e : Expr} {sc : Scope} {fnB : Str → Bool} {X : Cx} {W : WX} {fl : Bool}, Site T Φ XR N sc fnB X W → trE T N M n sc fl e = some c → SE Φ XR M X W fl e c) {X : Cx} {W : WX} {fnB sc fl e c} (S : Site T Φ XR N sc fnB X W) (h : baseE fl (lentOf sc N M e) (trE T N M n sc fl e) = some c) : SB Φ XR M X W fl e c := by
  rcases baseE_cases h with ⟨i, hl, rfl, rfl⟩ | h
  · obtain ⟨x, p, rfl, h1, h2⟩ := lentOf_ok hl
    exact sb_lent S h1 h2
  · exact (A S h).sb
theorem all_i {n : Nat} (A : Lower T N M Φ XR n) {X : Cx} {W : WX} {fnB sc fl tg e c} (S : Site T Φ XR N sc fnB X W) (h : trI T N M (n + 1) sc fl (isTup tg) e = some c) : SI Φ XR M X W fl tg e c := by
  have A := A n (Nat.le_refl n)
  have AB : ∀ {e : Expr} {c : CE} {sc : Scope} {fnB : Str → Bool} {X : Cx} {W : WX} {fl : Bool}, Site T Φ XR N sc fnB X W → baseE fl (lentOf sc N M e) (trE T N M n sc fl e) = some c → SB Φ XR M X W fl e c := fun S h => base_ok (fun S h => A.e S h) S h
  have dflt : ((baseE fl (lentOf sc N M e) (trE T N M n sc fl e)).bind fun x => some (CI.seq x)) = some c → SI Φ XR M X W fl tg e c := fun h => by
    obtain ⟨x, h1, h⟩ := obind h
    cases h
    exact si_seq (AB S h1)
  cases e
  case Call f args kws pos =>
    cases f
    case Name g p =>
      cases kws with
      | cons _ _ => simp only [trI] at h; exact dflt h
      | nil =>
        simp only [trI] at h
        split at h
        · rename_i e1
          subst e1
          obtain ⟨hg, h⟩ := oif h
          split at h
          · obtain ⟨x, h1, h⟩ := obind h
            cases h
            exact si_rng1 S hg (A.e S h1) (star_cons (trE_star h1))
          · obtain ⟨x, h1, h⟩ := obind h
            obtain ⟨y, h2, h⟩ := obind h
            cases h
            have s2 := star_cons (es := []) (env := X.env) (trE_star h2)
            exact si_rng2 S hg (A.e S h1) (A.e S h2) (by rw [star_cons (trE_star h1), s2]; rfl) s2
          · obtain ⟨x, h1, h⟩ := obind h
            obtain ⟨y, h2, h⟩ := obind h
            cases h
            exact si_rng3 S hg (A.e S h1) (A.e S h2) (star_cons (trE_star h1)) (star_cons (trE_star h2))
          · cases h
        · split at h
          · rename_i _ e1
            subst e1
            obtain ⟨hg, h'⟩ := oif h
            clear h
            have h := h'
            clear h'
            rw [Bool.and_eq_true] at hg
            cases tg <;> first | (cases hg.2; done) | skip
            rcases args with _ | ⟨a, _ | ⟨b, r⟩⟩
            · cases h
            · obtain ⟨x, h1, h⟩ := obind h
              cases h
              exact si_enu S hg.1 (AB S h1) (star_cons (base_star h1))
            · cases h
          · split at h
            · rename_i _ _ e1
              subst e1
              obtain ⟨hg, h'⟩ := oif h
              clear h
              have h := h'
              clear h'
              rw [Bool.and_eq_true] at hg
              cases tg <;> first | (cases hg.2; done) | skip
              rcases args with _ | ⟨a, _ | ⟨b, _ | ⟨d, _ | ⟨d2, r⟩⟩⟩⟩
              · cases h
              · cases h
              · obtain ⟨x, h1, h⟩ := obind h
                obtain ⟨y, h2, h⟩ := obind h
                cases h
                have s2 := star_cons (es := []) (env := X.env) (base_star h2)
                exact si_zip S hg.1 (AB S h1) (AB S h2) (star_cons (base_star h1)) s2 (by rw [s2]; rfl)
              · obtain ⟨x, h1, h⟩ := obind h
                obtain ⟨y, h2, h⟩ := obind h
                obtain ⟨z, h3, h⟩ := obind h
                cases h
                have s3 := star_cons (es := []) (env := X.env) (base_star h3)
                have s2 := star_cons (es := [d]) (env := X.env) (base_star h2)
                exact si_zip3 S hg.1 (AB S h1) (AB S h2) (AB S h3) (star_cons (base_star h1)) s2 s3 (by rw [s2, s3]; rfl)
              · cases h
            · exact dflt h
    all_goals (simp only [trI] at h; exact dflt h)
  all_goals (simp only [trI] at h; exact dflt h)
/-- a call of a name -/
theorem all_call {n : Nat} (A : Lower T N M Φ XR n) {X : Cx} {W : WX} {fnB sc fl g p args pos c} (S : Site T Φ XR N sc fnB X W) (h : trE T N M (n + 1) sc fl (.Call (.Name g p) args [] pos) = some c) :
    SE Φ XR M X W fl (.Call (.Name g p) args [] pos) c ∧ (newC c = true → SN Φ XR M X W (.Call (.Name g p) args [] pos) c) := by
  have A := A n (Nat.le_refl n)
  simp only [trE] at h
  obtain ⟨hg, h⟩ := oif h
  cases args with
  | nil => cases h
  | cons a as =>
    have cons_inv : ∀ {m fl md xs}, trL T N M m sc fl md (a :: as) = some xs → starEach (a :: as) X.env = (false, eval a X.env) :: starEach as X.env ∧ (backTo pos (starEach as X.env)).any (·.1) = false := fun {m fl md xs} hx => by
      cases m with
      | zero => simp only [trL] at hx; cases hx
      | succ m =>
        have hx : ((trE T N M m sc (md.headD fl) a).bind fun x => (trL T N M m sc fl md.tail as).bind fun xs => some (CL.cons x xs)) = some xs := by
          cases a <;> first | exact hx | (simp only [trL] at hx; first | exact hx | cases hx)
        obtain ⟨y, h1, hx⟩ := obind hx
        obtain ⟨ys, h2, hx⟩ := obind hx
        exact ⟨star_cons (trE_star h1), trL_plain m h2 _ _⟩
    simp only at h
    cases hq : setOf sc g a as with
    | some e0 =>
      rw [hq] at h
      simp only at h
      obtain ⟨x, hx, h⟩ := obind h
      cases h
      unfold setOf at hq
      split at hq
      · obtain ⟨⟨e1, e2, hg2⟩, hq⟩ := oif hq
        cases hq
        subst e1 e2
        exact ⟨(sn_sset S hg hg2 (A.e S hx) (star_cons (trE_star hx)) (star_cons rfl)).se, fun _ => sn_sset S hg hg2 (A.e S hx) (star_cons (trE_star hx)) (star_cons rfl)⟩
      · cases hq
    | none =>
    rw [hq] at h
    simp only at h
    cases hb : bfOf g (as.length + 1) with
    | some f =>
      rw [hb] at h
      simp only at h
      obtain ⟨xs, hx, h⟩ := obind h
      cases h
      obtain ⟨he, hp⟩ := cons_inv hx
      refine ⟨se_blt S hb hg (A.l S hx) he hp, fun hn => ?_⟩
      cases f <;> first | (cases hn; done) | skip
      exact sn_list S hb hg (A.l S hx) he hp
    | none =>
      rw [hb] at h
      simp only at h
      by_cases gi : g = ("isinstance" : Str)
      · subst gi
        rw [if_pos rfl] at h
        split at h
        · rename_i t p2
          obtain ⟨hgt, h⟩ := oif h
          obtain ⟨ty, ht, h⟩ := obind h
          obtain ⟨x, hx, h⟩ := obind h
          cases h
          exact ⟨se_isi S ht hg hgt (A.e S hx) (star_cons (trE_star hx)), fun q => by cases q⟩
        · cases h
      · rw [if_neg gi] at h
        obtain ⟨sg, hs, h⟩ := obind h
        obtain ⟨⟨hn, hio, hcls⟩, h⟩ := oif h
        obtain ⟨xs, hx, h⟩ := obind h
        cases h
        obtain ⟨he, hp⟩ := cons_inv hx
        have hm := List.mem_of_find?_eq_some hs
        have hq := List.find?_some hs
        simp only [decide_eq_true_eq] at hq
        subst hq
        exact ⟨se_call S hm hg (A.l S hx) hn hio hcls (fun ρ xs' h' => trL_len n hx Φ ρ xs' h') he hp, fun q => by cases q⟩
theorem all_join {n : Nat} (A : Lower T N M Φ XR n) {X : Cx} {W : WX} {fnB sc fl f args kws pos c} (S : Site T Φ XR N sc fnB X W) (h : trE T N M (n + 1) sc fl (.Call f args kws pos) = some c) (hf : ∀ g p, f ≠ .Name g p) :
    SE Φ XR M X W fl (.Call f args kws pos) c ∧ newC c = false := by
  have A := A n (Nat.le_refl n)
  simp only [trE] at h
  split at h
  all_goals first | (cases h; done) | (rename_i heq; cases heq; done) | skip
  all_goals rename_i heq
  all_goals cases heq
  · exact absurd rfl (hf _ _)
  · exact absurd rfl (hf _ _)
  · exact absurd rfl (hf _ _)
  · split at h
    · rename_i p hm
      obtain ⟨i, k, sg⟩ := p
      obtain ⟨⟨h1, h2, h3, h4, h5, h6⟩, h⟩ := oif h
      obtain ⟨xs, hx, h⟩ := obind h
      cases h
      refine ⟨?_, rfl⟩
      cases args with
      | nil =>
        cases n with
        | zero => simp only [trL] at hx; cases hx
        | succ n =>
          simp only [trL] at hx
          cases hx
          exact se_meth0 S hm h1 h2 h3 h4 h5
      | cons a as =>
        have hst : starEach (a :: as) X.env = (false, eval a X.env) :: starEach as X.env ∧ (backTo pos (starEach as X.env)).any (·.1) = false := by
          cases n with
          | zero => simp only [trL] at hx; cases hx
          | succ m =>
            have hx : ((trE T N M m sc (sg.md.tail.headD true) a).bind fun x => (trL T N M m sc true sg.md.tail.tail as).bind fun xs => some (CL.cons x xs)) = some xs := by
              cases a <;> first | exact hx | (simp only [trL] at hx; first | exact hx | cases hx)
            obtain ⟨y, h1, hx⟩ := obind hx
            obtain ⟨ys, h2, hx⟩ := obind hx
            exact ⟨star_cons (trE_star h1), trL_plain m h2 _ _⟩
        exact se_meth S hm h1 h2 h3 h4 h5 h6 (A.l S hx) (fun ρ xs' h' => trL_len n hx Φ ρ xs' h') hst.1 hst.2
    · split at h
      · split at h
        · rename_i h1
          obtain ⟨x, hx, h⟩ := obind h
          obtain ⟨y, hy, h⟩ := obind h
          cases h
          obtain ⟨e1, e2, e3⟩ := h1
          subst e1
          exact ⟨se_join e2 e3 (A.e S hx) (A.e S hy) (star_cons (trE_star hy)), rfl⟩
        · split at h
          · rename_i h1
            obtain ⟨x, hx, h⟩ := obind h
            obtain ⟨y, hy, h⟩ := obind h
            cases h
            obtain ⟨e1, e2, e3⟩ := h1
            subst e1
            exact ⟨se_count e2 e3 (A.e S hx) (A.e S hy) (star_cons (trE_star hy)), rfl⟩
          · split at h
            · rename_i h1
              obtain ⟨x, hx, h⟩ := obind h
              obtain ⟨y, hy, h⟩ := obind h
              cases h
              obtain ⟨e1, e2, e3⟩ := h1
              subst e1
              exact ⟨se_split e2 e3 (A.e S hx) (A.e S hy) (star_cons (trE_star hy)), rfl⟩
            · split at h
              · rename_i h1
                obtain ⟨x, hx, h⟩ := obind h
                obtain ⟨y, hy, h⟩ := obind h
                cases h
                obtain ⟨e1, e2, e3⟩ := h1
                subst e1
                exact ⟨se_part e2 e3 (A.e S hx) (A.e S hy) (star_cons (trE_star hy)), rfl⟩
              · split at h
                · rename_i h1
                  obtain ⟨x, hx, h⟩ := obind h
                  obtain ⟨y, hy, h⟩ := obind h
                  cases h
                  obtain ⟨e1, e2, e3⟩ := h1
                  subst e1
                  exact ⟨se_index S e2 e3 (A.e S hx) (A.e S hy) (star_cons (trE_star hy)), rfl⟩
                · cases h
      · split at h
        · rename_i h1
          obtain ⟨x, hx, h⟩ := obind h
          cases h
          obtain ⟨e1, e2, e3⟩ := h1
          subst e1
          exact ⟨se_upper e2 e3 (A.e S hx), rfl⟩
        · cases h
      · cases h
/-- and, or -/
theorem all_min {n : Nat} (A : Lower T N M Φ XR n) (A' : Lower T.noTb N M Φ XR n) {X : Cx} {W : WX} {fnB sc fl g gp args kw kws pos c} (S : Site T Φ XR N sc fnB X W) (h : trE T N M (n + 1) sc fl (.Call (.Name g gp) args (kw :: kws) pos) = some c) :
    SE Φ XR M X W fl (.Call (.Name g gp) args (kw :: kws) pos) c ∧ newC c = false := by
  rcases kw with ⟨kn, kv, kp⟩
  rcases args with _ | ⟨a, _ | ⟨b, args⟩⟩
  · simp only [trE] at h; cases h
  · rcases kws with _ | ⟨k2, kws⟩
    · cases kn with
      | none => simp only [trE] at h; cases h
      | some kn =>
        cases kv
        case Lambda ps body scope lp =>
          simp only [trE] at h
          have hh := oif h
          clear h
          obtain ⟨⟨h1, h2, h3, h4⟩, h⟩ := hh
          subst h1 h2
          have key : ∃ x xp, ps = oneArg x xp := by
            obtain ⟨po, as, va, ko, kd, kw, df⟩ := ps
            rcases po with _ | ⟨_, _⟩
            · rcases as with _ | ⟨⟨x, an, xp⟩, _ | ⟨_, _⟩⟩
              · cases h
              · cases an
                · cases va
                  · rcases ko with _ | ⟨_, _⟩
                    · rcases kd with _ | ⟨_, _⟩
                      · cases kw
                        · rcases df with _ | ⟨_, _⟩
                          · exact ⟨x, xp, rfl⟩
                          · cases h
                        · cases h
                      · cases h
                    · cases h
                  · cases h
                · cases h
              · cases an <;> cases h
            · cases h
          obtain ⟨x, xp, rfl⟩ := key
          have hh := oif h
          clear h
          obtain ⟨⟨h5, h6⟩, h⟩ := hh
          subst h5
          obtain ⟨i, hi, h⟩ := obind h
          obtain ⟨hm, h⟩ := oifn h
          obtain ⟨y, hy, h⟩ := obind h
          obtain ⟨z, hz, h⟩ := obind h
          cases h
          exact ⟨se_minL S h4 h3 h6 (find_at hi) (fun q => hm (Ow.contains_iff.mpr q)) ((A n (Nat.le_refl n)).e S hy) (fun X' S' => (A' n (Nat.le_refl n)).e S' hz) (star_cons (trE_star hy)), rfl⟩
        case Name f fp =>
          simp only [trE] at h
          have hh := oif h
          clear h
          obtain ⟨⟨h1, h2, h3, h4⟩, h⟩ := hh
          subst h1 h2
          obtain ⟨sg, hs, h⟩ := obind h
          have hh := oif h
          clear h
          obtain ⟨⟨h5, h6, h7, h8⟩, h⟩ := hh
          obtain ⟨y, hy, h⟩ := obind h
          cases h
          have hn := List.find?_some hs
          simp only [decide_eq_true_eq] at hn
          subst hn
          exact ⟨se_minF S (List.mem_of_find?_eq_some hs) h3 h4 h5 h6 h7 h8 ((A n (Nat.le_refl n)).e S hy) (star_cons (trE_star hy)), rfl⟩
        all_goals (simp only [trE] at h; cases h)
    · simp only [trE] at h; cases h
  · simp only [trE] at h; cases h
theorem all_bool {n : Nat} (A : Lower T N M Φ XR n) {X : Cx} {W : WX} {fnB sc fl o vs p c} (S : Site T Φ XR N sc fnB X W) (h : trE T N M (n + 1) sc fl (.BoolOp o vs p) = some c) : SE Φ XR M X W fl (.BoolOp o vs p) c := by
  have A := A n (Nat.le_refl n)
  simp only [trE] at h
  rcases vs with _ | ⟨a, _ | ⟨b, r⟩⟩
  · cases h
  · exact se_one (A.e S h)
  · obtain ⟨x, hx, h⟩ := obind h
    obtain ⟨y, hy, h⟩ := obind h
    cases h
    cases o
    · exact se_and (A.e S hx) (A.e S hy)
    · exact se_or (A.e S hx) (A.e S hy)
theorem all_w {n : Nat} (A : Lower T N M Φ XR n) {X : Cx} {W : WX} {fnB sc o vs p c} (S : Site T Φ XR N sc fnB X W) (h : trE T N M (n + 1) sc false (.BoolOp o vs p) = some c) : SW Φ XR M X W (.BoolOp o vs p) c := by
  have A := A n (Nat.le_refl n)
  simp only [trE] at h
  rcases vs with _ | ⟨a, _ | ⟨b, r⟩⟩
  · cases h
  · cases o
    · exact sw_and1 (A.t S h)
    · exact sw_or1 (A.t S h)
  · obtain ⟨x, hx, h⟩ := obind h
    obtain ⟨y, hy, h⟩ := obind h
    cases h
    cases o
    · exact sw_and (A.t S hx) (A.w S hy)
    · exact sw_or (A.t S hx) (A.w S hy)
/-- comparisons -/
theorem all_cmp {n : Nat} (A : Lower T N M Φ XR n) {X : Cx} {W : WX} {fnB sc fl a os bs p c} (S : Site T Φ XR N sc fnB X W) (h : trE T N M (n + 1) sc fl (.Compare a os bs p) = some c) :
    SE Φ XR M X W fl (.Compare a os bs p) c ∧ STt Φ XR M X W (.Compare a os bs p) c ∧ newC c = false := by
  have A := A n (Nat.le_refl n)
  simp only [trE] at h
  split at h
  all_goals first | (cases h; done) | (rename_i heq; cases heq; done) | skip
  all_goals rename_i heq
  all_goals first | (cases heq; done) | skip
  · cases heq
    obtain ⟨x, hx, h⟩ := obind h
    cases h
    exact ⟨se_isN (A.e S hx), st_isN (A.e S hx), rfl⟩
  · cases heq
    obtain ⟨x, hx, h⟩ := obind h
    cases h
    exact ⟨se_notN (A.e S hx), st_notN (A.e S hx), rfl⟩
  · cases heq
    split at h
    · rename_i u k e1 e2
      obtain ⟨p', q', rfl, hg⟩ := rngOf_ok e1
      obtain ⟨x, hx, h⟩ := obind h
      obtain ⟨y, hy, h⟩ := obind h
      cases h
      have ho := inOf_ok e2
      subst ho
      have s2 := star_cons (es := []) (env := X.env) (trE_star hy)
      exact ⟨(se_inr1 S hg (A.e S hx) (A.e S hy) s2).1, (se_inr1 (fl := fl) S hg (A.e S hx) (A.e S hy) s2).2, rfl⟩
    · rename_i l u k e1 e2
      obtain ⟨p', q', rfl, hg⟩ := rngOf_ok e1
      obtain ⟨x, hx, h⟩ := obind h
      obtain ⟨y, hy, h⟩ := obind h
      obtain ⟨z, hz, h⟩ := obind h
      cases h
      have ho := inOf_ok e2
      subst ho
      have s2 := star_cons (es := []) (env := X.env) (trE_star hz)
      have s3 := star_cons (es := [u]) (env := X.env) (trE_star hy)
      exact ⟨(se_inr2 S hg (A.e S hx) (A.e S hy) (A.e S hz) s3 s2).1, (se_inr2 (fl := fl) S hg (A.e S hx) (A.e S hy) (A.e S hz) s3 s2).2, rfl⟩
    · obtain ⟨hm, h⟩ := oifn h
      obtain ⟨op, ho, h⟩ := obind h
      obtain ⟨x, hx, h⟩ := obind h
      obtain ⟨y, hy, h⟩ := obind h
      cases h
      have hm := Bool.eq_false_iff.mpr hm
      exact ⟨se_cmp S ho hm (A.e S hx) (A.e S hy), st_cmp S ho hm (A.e S hx) (A.e S hy), rfl⟩
  · cases heq
    obtain ⟨hm, h⟩ := oifn h
    obtain ⟨op, ho, h⟩ := obind h
    obtain ⟨op', ho', h⟩ := obind h
    obtain ⟨x, hx, h⟩ := obind h
    obtain ⟨y, hy, h⟩ := obind h
    obtain ⟨z, hz, h⟩ := obind h
    cases h
    have hm := Bool.eq_false_iff.mpr hm
    exact ⟨se_chain S ho ho' hm (A.e S hx) (A.e S hy) (A.e S hz), st_chain S ho ho' hm (A.e S hx) (A.e S hy) (A.e S hz), rfl⟩
theorem all_un {n : Nat} (A : Lower T N M Φ XR n) {X : Cx} {W : WX} {fnB sc fl o a p c} (S : Site T Φ XR N sc fnB X W) (h : trE T N M (n + 1) sc fl (.UnaryOp o a p) = some c) :
    SE Φ XR M X W fl (.UnaryOp o a p) c ∧ newC c = false ∧ (o = .Not → STt Φ XR M X W (.UnaryOp o a p) c) := by
  have A := A n (Nat.le_refl n)
  cases o <;> simp only [trE] at h <;> first | (cases h; done) | skip
  · obtain ⟨x, hx, h⟩ := obind h
    cases h
    exact ⟨se_not (A.e S hx), rfl, fun _ => st_not (A.t S hx)⟩
  · obtain ⟨x, hx, h⟩ := obind h
    cases h
    exact ⟨se_neg (A.e S hx), rfl, fun z => by cases z⟩
theorem all_sub {n : Nat} (A : Lower T N M Φ XR n) {X : Cx} {W : WX} {fnB sc fl a b p c} (S : Site T Φ XR N sc fnB X W) (h : trE T N M (n + 1) sc fl (.Subscript a b p) = some c) :
    SE Φ XR M X W fl (.Subscript a b p) c ∧ newC c = false := by
  have A := A n (Nat.le_refl n)
  simp only [trE] at h
  split at h
  all_goals first | (cases h; done) | (rename_i heq; cases heq; done) | skip
  all_goals rename_i heq
  all_goals first | (cases heq; done) | skip
  · cases heq
    obtain ⟨x, hx, h⟩ := obind h
    obtain ⟨l, hl, h⟩ := obind h
    obtain ⟨u, hu, h⟩ := obind h
    cases h
    exact ⟨se_slc (A.e S hx) (A.o S hl) (A.o S hu), rfl⟩
  · cases heq
    obtain ⟨x, hx, h⟩ := obind h
    cases h
    exact ⟨se_rev (A.e S hx), rfl⟩
  · cases heq
    obtain ⟨x, hx, h⟩ := obind h
    obtain ⟨y, hy, h⟩ := obind h
    cases h
    refine ⟨se_ix (A.e S hx) (A.e S hy) ?_, rfl⟩
    cases b <;> first | exact fun _ _ => rfl | skip
    exfalso
    cases n <;> (simp only [trE] at hy; cases hy)
theorem all_bin {n : Nat} (A : Lower T N M Φ XR n) {X : Cx} {W : WX} {fnB sc fl a o b p c} (S : Site T Φ XR N sc fnB X W) (h : trE T N M (n + 1) sc fl (.BinOp a o b p) = some c) :
    SE Φ XR M X W fl (.BinOp a o b p) c ∧ (newC c = true → SN Φ XR M X W (.BinOp a o b p) c) := by
  have A := A n (Nat.le_refl n)
  simp only [trE] at h
  split at h
  all_goals first | (cases h; done) | (rename_i heq; cases heq; done) | skip
  all_goals rename_i heq
  all_goals first | (cases heq; done) | skip
  · cases heq
    obtain ⟨xs, hx, h⟩ := obind h
    obtain ⟨y, hy, h⟩ := obind h
    cases h
    exact ⟨(sn_rep (A.l S hx) (A.e S hy)).se, fun _ => sn_rep (A.l S hx) (A.e S hy)⟩
  · cases heq
    obtain ⟨op, ho, h⟩ := obind h
    obtain ⟨x, hx, h⟩ := obind h
    obtain ⟨y, hy, h⟩ := obind h
    cases h
    exact ⟨se_bin ho (A.e S hx) (A.e S hy), fun z => by cases z⟩
theorem all_e {n : Nat} (A : Lower T N M Φ XR n) (A' : Lower T.noTb N M Φ XR n) {X : Cx} {W : WX} {fnB sc fl e c} (S : Site T Φ XR N sc fnB X W) (h : trE T N M (n + 1) sc fl e = some c) : SE Φ XR M X W fl e c := by
  have A0 := A n (Nat.le_refl n)
  cases e
  case Name x p =>
    simp only [trE] at h
    split at h
    · rename_i i hs
      obtain ⟨h1, h⟩ := oifn h
      cases h
      exact se_var S hs fun hf hm => h1 (by rw [hf, Bool.true_and]; exact Ow.contains_iff.mpr hm)
    · obtain ⟨h1, h⟩ := oif h
      cases hl : T.consts.lookup x with
      | none => rw [hl] at h; cases h
      | some d => rw [hl] at h; cases h; exact se_glob S h1 hl
  case Constant k j p =>
    simp only [trE] at h
    cases hc : constOf k with
    | none => rw [hc] at h; cases h
    | some d => rw [hc] at h; cases h; exact se_cst hc
  case BinOp a o b p => exact (all_bin A S h).1
  case UnaryOp o a p => exact (all_un A S h).1
  case BoolOp o vs p => exact all_bool A S h
  case Compare a os bs p => exact (all_cmp A S h).1
  case IfExp t a b p =>
    simp only [trE] at h
    obtain ⟨k, hk, h⟩ := obind h
    obtain ⟨x, hx, h⟩ := obind h
    obtain ⟨y, hy, h⟩ := obind h
    cases h
    exact se_ite (A0.t S hk) (A0.e S hx) (A0.e S hy)
  case Tuple es k p =>
    simp only [trE] at h
    obtain ⟨xs, hx, h⟩ := obind h
    cases h
    exact se_tup (A0.l S hx)
  case Dict ks vs p =>
    cases ks with
    | nil =>
      cases vs with
      | nil =>
        simp only [trE] at h
        cases h
        exact sn_dnew.se
      | cons _ _ => simp only [trE] at h <;> cases h
    | cons _ _ => simp only [trE] at h <;> cases h
  case List es p =>
    simp only [trE] at h
    obtain ⟨xs, hx, h⟩ := obind h
    cases h
    exact (sn_lst (A0.l S hx)).se
  case Subscript a b p => exact (all_sub A S h).1
  case Call f args kws p =>
    cases f
    case Name g gp =>
      cases kws with
      | nil => exact (all_call A S h).1
      | cons _ _ => exact (all_min A A' S h).1
    all_goals exact (all_join A S h (fun _ _ z => by cases z)).1
  case ListComp elt gens scope p => exact (SNA.sn (comp_new A S h).1).se
  case Attribute o f p =>
    simp only [trE] at h
    obtain ⟨q, hq, h⟩ := obind h
    cases h
    obtain ⟨i, c, g⟩ := q
    exact se_fld S hq
  all_goals (simp only [trE] at h; cases h)
theorem all_n {n : Nat} (A : Lower T N M Φ XR n) (A' : Lower T.noTb N M Φ XR n) {X : Cx} {W : WX} {fnB sc e c} (S : Site T Φ XR N sc fnB X W) (h : trE T N M (n + 1) sc true e = some c) (hn : newC c = true) : SN Φ XR M X W e c := by
  have A0 := A n (Nat.le_refl n)
  cases e
  case Name x p =>
    simp only [trE] at h
    split at h
    · obtain ⟨h1, h⟩ := oifn h
      cases h
      cases hn
    · obtain ⟨h1, h⟩ := oif h
      cases hl : T.consts.lookup x with
      | none => rw [hl] at h; cases h
      | some d => rw [hl] at h; cases h; cases hn
  case Constant k j p =>
    simp only [trE] at h
    cases hc : constOf k with
    | none => rw [hc] at h; cases h
    | some d => rw [hc] at h; cases h; cases hn
  case BinOp a o b p => exact (all_bin A S h).2 hn
  case UnaryOp o a p => rw [(all_un A S h).2.1] at hn; cases hn
  case BoolOp o vs p =>
    simp only [trE] at h
    rcases vs with _ | ⟨a, _ | ⟨b, r⟩⟩
    · cases h
    · obtain ⟨t, pe, q⟩ := A0.n S h hn
      exact ⟨_, pe_one pe, q⟩
    · obtain ⟨x, hx, h⟩ := obind h
      obtain ⟨y, hy, h⟩ := obind h
      cases h
      cases o <;> cases hn
  case Compare a os bs p => rw [(all_cmp A S h).2.2] at hn; cases hn
  case IfExp t a b p =>
    simp only [trE] at h
    obtain ⟨k, hk, h⟩ := obind h
    obtain ⟨x, hx, h⟩ := obind h
    obtain ⟨y, hy, h⟩ := obind h
    cases h
    cases hn
  case Tuple es k p =>
    simp only [trE] at h
    obtain ⟨xs, hx, h⟩ := obind h
    cases h
    cases hn
  case Dict ks vs p =>
    cases ks with
    | nil =>
      cases vs with
      | nil =>
        simp only [trE] at h
        cases h
        exact sn_dnew
      | cons _ _ => simp only [trE] at h <;> cases h
    | cons _ _ => simp only [trE] at h <;> cases h
  case List es p =>
    simp only [trE] at h
    obtain ⟨xs, hx, h⟩ := obind h
    cases h
    exact sn_lst (A0.l S hx)
  case Subscript a b p => rw [(all_sub A S h).2] at hn; cases hn
  case Call f args kws p =>
    cases f
    case Name g gp =>
      cases kws with
      | nil => exact (all_call A S h).2 hn
      | cons _ _ => rw [(all_min A A' S h).2] at hn; cases hn
    all_goals (rw [(all_join A S h (fun _ _ z => by cases z)).2] at hn; cases hn)
  case ListComp elt gens scope p => exact SNA.sn (comp_new A S h).1
  case Attribute o f p =>
    simp only [trE] at h
    obtain ⟨q, hq, h⟩ := obind h
    cases h
    cases hn
  all_goals (simp only [trE] at h; cases h)
theorem all_t {n : Nat} (A : Lower T N M Φ XR n) (A' : Lower T.noTb N M Φ XR n) {X : Cx} {W : WX} {fnB sc e c} (S : Site T Φ XR N sc fnB X W) (h : trE T N M (n + 1) sc false e = some c) : STt Φ XR M X W e c := by
  have A0 := A n (Nat.le_refl n)
  cases e
  case UnaryOp o a p =>
    cases o
    case Not => exact (all_un A S h).2.2 rfl
    all_goals exact st_val (all_e A A' S h) (fun _ => rfl)
  case BoolOp o vs p => exact (all_w A S h).st
  case Compare a os bs p => exact (all_cmp A S h).2.1
  case IfExp t a b p =>
    simp only [trE] at h
    obtain ⟨k, hk, h⟩ := obind h
    obtain ⟨x, hx, h⟩ := obind h
    obtain ⟨y, hy, h⟩ := obind h
    cases h
    exact st_ite (A0.t S hk) (A0.t S hx) (A0.t S hy)
  all_goals first | exact st_val (all_e A A' S h) (fun _ => rfl) | (simp only [trE] at h; cases h)
theorem all_comp {n : Nat} (A : Lower T N M Φ XR n) {X : Cx} {W : WX} {fnB sc fl elt gens scope pos c} (S : Site T Φ XR N sc fnB X W) (h : trE T N M (n + 1) sc fl (.ListComp elt gens scope pos) = some c) : SNA Φ XR M X W (.ListComp elt gens scope pos) c := (comp_new A S h).1
theorem all_gen : ∀ (n : Nat) (T : Tab), AllE T N M Φ XR n := by
  intro n
  induction n using Nat.strongRecOn with
  | ind n ih =>
    intro T
    cases n with
    | zero =>
      refine ⟨fun _ h => ?_, fun _ h => ?_, fun _ h => ?_, fun _ h => ?_, fun _ h => ?_, fun _ h => ?_, fun _ h => ?_⟩
      all_goals first | (simp only [trE] at h; cases h) | (simp only [trL] at h; cases h) | (simp only [trO] at h; cases h) | (simp only [trI] at h; cases h)
    | succ n =>
      have A : Lower T N M Φ XR n := fun m hm => ih m (by omega) T
      have A' : Lower T.noTb N M Φ XR n := fun m hm => ih m (by omega) T.noTb
      exact ⟨fun S h => all_e A A' S h, fun S h => all_t A A' S h, fun S h => all_w A S h, fun S h => all_l A S h, fun S h => all_o A S h, fun S h => all_i A S h, fun S h hn => all_n A A' S h hn⟩
theorem all (n : Nat) : AllE T N M Φ XR n := all_gen n T
end
end Ps
end
section
set_option maxHeartbeats 4000000
/-! PsSS: the small language's statements do what the model does. -/
namespace Ps
open PySem PySem.Spec PyProof.Rows L2
variable [Tbs]
/-- more objects that never change: what is raised lies as before -/
def XMono (XR : XRel) : Prop := ∀ R R' H c ps cls dx, Same R R' → Same R' H → XR R H c ps cls dx → XR R' H c ps cls dx
section
variable {K : PySem.W.Frag} {M : Ow} {R0 H0 R H R1 H1 : Hp} {σ : L2.St} {ρ : Rho}
theorem SR.congr {m' : List Nat} (s : SR K M R0 H0 R H σ ρ) (hm : ∀ i, i ∈ m' ↔ i ∈ M.m) : SR K (M.w m') R0 H0 R H σ ρ := by
  refine ⟨s.ext, s.len, fun i d h => ?_, fun i j a d e hij hi hj => s.sep i j a d e hij ((hm i).mp hi) ((hm j).mp hj), ?_, fun i hi => ⟨fun z => (s.dis i hi).1 ((hm i).mp z), (s.dis i hi).2⟩, s.pin, s.tab⟩
  · obtain ⟨v, h1, h2, h3, h4⟩ := s.val i d h
    exact ⟨v, h1, fun n => h2 fun z => n (z.elim (fun q => .inl ((hm i).mpr q)) .inr), fun n => h3 ((hm i).mp n), h4⟩
  · obtain ⟨F, h1, h2, h3⟩ := s.own
    exact ⟨F, h1, h2, fun i hi j hj => h3 i hi j ((hm j).mp hj)⟩
/-- one list is held fast from here on -/
theorem SR.drop1 (s : SR K M R0 H0 R H σ ρ) (i : Nat) : ∃ R', Same R R' ∧ SR K (M.w (M.m.filter (· != i))) R0 H0 R' H σ ρ := by
  have mem : ∀ j, j ∈ M.m.filter (· != i) ↔ j ∈ M.m ∧ j ≠ i := fun j => by simp
  have dis0 : ∀ j ∈ (M.w (M.m.filter (· != i))).oq, j ∉ (M.w (M.m.filter (· != i))).m ∧ j ∉ (M.w (M.m.filter (· != i))).s := fun j hj => ⟨fun z => (s.dis j hj).1 ((mem j).mp z).1, (s.dis j hj).2⟩
  have own0 : OwnO K (M.w (M.m.filter (· != i))) H0 R H σ ρ := by
    obtain ⟨F, h1, h2, h3⟩ := s.own
    exact ⟨F, h1, h2, fun i hi j hj => h3 i hi j ((mem j).mp hj).1⟩
  by_cases hi : i ∈ M.m
  · cases hd : ρ[i]? with
    | none =>
      refine ⟨R, Same.refl _, s.ext, s.len, fun j d h => ?_, fun j k a d e hjk hj hk => s.sep j k a d e hjk ((mem j).mp hj).1 ((mem k).mp hk).1, own0, dis0, s.pin, s.tab⟩
      have hji : j ≠ i := fun z => by rw [z, hd] at h; cases h
      obtain ⟨v, h1, h2, h3, h4⟩ := s.val j d h
      exact ⟨v, h1, fun n => h2 fun z => n (z.elim (fun q => .inl ((mem j).mpr ⟨q, hji⟩)) .inr), fun n => h3 ((mem j).mp n).1, h4⟩
    | some o =>
      cases o with
      | none =>
        refine ⟨R, Same.refl _, s.ext, s.len, fun j d h => ?_, fun j k a d e hjk hj hk => s.sep j k a d e hjk ((mem j).mp hj).1 ((mem k).mp hk).1, own0, dis0, s.pin, s.tab⟩
        have hji : j ≠ i := fun z => by rw [z, hd] at h; cases h
        obtain ⟨v, h1, h2, h3, h4⟩ := s.val j d h
        exact ⟨v, h1, fun n => h2 fun z => n (z.elim (fun q => .inl ((mem j).mpr ⟨q, hji⟩)) .inr), fun n => h3 ((mem j).mp n).1, h4⟩
      | some d0 =>
        obtain ⟨v0, e0, _, p3, _⟩ := s.val i d0 hd
        obtain ⟨a, rfl, q0, qr, o, hh, rr⟩ := p3 hi
        have sm : Same R (upd R a o) := same_upd qr
        refine ⟨upd R a o, sm, s.ext.froze q0 hh qr, s.len, fun j d h => ?_, fun j k b d e hjk hj hk => s.sep j k b d e hjk ((mem j).mp hj).1 ((mem k).mp hk).1, ?_, dis0, s.pin, fun p hp => ⟨(s.tab p hp).1, by rw [upd_ne (fun z => tab_ne (s.tab p hp).1 (by rw [z]; exact hh) rr.nt)]; exact (s.tab p hp).2⟩⟩
        · obtain ⟨v, h1, h2, h3, h4⟩ := s.val j d h
          by_cases hji : j = i
          · subst hji
            rw [hd] at h
            cases h
            rw [e0] at h1
            cases h1
            exact ⟨_, e0, fun _ => (rr.mono sm).rep upd_same, fun n => absurd rfl ((mem j).mp n).2, fun n => (h4 n).mono sm (SameN.refl _)⟩
          · refine ⟨v, h1, fun n => (h2 fun z => n (z.elim (fun q => .inl ((mem j).mpr ⟨q, hji⟩)) .inr)).mono sm, fun n => ?_, fun n => (h4 n).mono sm (SameN.refl _)⟩
            obtain ⟨b, rfl, q0', qr', o', hh', rr'⟩ := h3 ((mem j).mp n).1
            have hba : b ≠ a := fun z => by
              subst z
              exact s.sep j i b _ _ hji ((mem j).mp n).1 hi h hd h1 e0
            exact ⟨b, rfl, q0', by rw [upd_ne hba]; exact qr', o', hh', rr'.mono sm⟩
        · obtain ⟨F, h1, h2, h3⟩ := s.own
          refine ⟨F, fun j hj d h => ?_, h2, fun k hk j hj => h3 k hk j ((mem j).mp hj).1⟩
          obtain ⟨b, e1, e2, e3⟩ := h1 j hj d h
          refine ⟨b, e1, e2.mono sm (SameN.refl _), fun x hx => ⟨(e3 x hx).1, ?_⟩⟩
          have hxa : x ≠ a := fun z => by
            subst z
            exact h3 j hj i hi d d0 x h hd e0 hx
          rw [upd_ne hxa]
          exact (e3 x hx).2
  · exact ⟨R, Same.refl _, s.congr (fun j => by rw [mem]; exact ⟨fun z => z.1, fun z => ⟨z, fun e => hi (e ▸ z)⟩⟩)⟩
theorem SR.dropL : ∀ (l : List Nat) {M : Ow} {R : Hp}, SR K M R0 H0 R H σ ρ → ∃ R', Same R R' ∧ SR K (M.w (M.m.filter (fun j => !l.contains j))) R0 H0 R' H σ ρ
  | [], M, R, s => ⟨R, Same.refl _, s.congr (fun j => by simp)⟩
  | i :: l, M, R, s => by
    obtain ⟨R1, h1, s1⟩ := s.drop1 i
    obtain ⟨R2, h2, s2⟩ := SR.dropL l s1
    refine ⟨R2, h1.trans h2, s2.congr (m' := M.m.filter (fun j => !(i :: l).contains j)) (fun j => ?_)⟩
    simp only [Ow.w_m, List.mem_filter, List.contains_cons, Bool.not_or, Bool.and_eq_true]
    constructor
    · rintro ⟨p, q, r⟩
      exact ⟨⟨p, q⟩, r⟩
    · rintro ⟨⟨p, q⟩, r⟩
      exact ⟨p, q, r⟩
theorem SR.weak (s : SR K M R0 H0 R H σ ρ) {m' : List Nat} (h : ∀ i ∈ m', i ∈ M.m) : ∃ R', Same R R' ∧ SR K (M.w m') R0 H0 R' H σ ρ := by
  obtain ⟨R', h1, s1⟩ := s.dropL (M.m.filter fun j => !m'.contains j)
  refine ⟨R', h1, s1.congr (m' := m') (fun j => ?_)⟩
  simp only [Ow.w_m, List.mem_filter]
  constructor
  · intro hj
    refine ⟨h j hj, ?_⟩
    rw [Bool.not_eq_true']
    rw [← Bool.not_eq_true]
    intro z
    have z := List.contains_iff_mem.mp z
    have z := (List.mem_filter.mp z).2
    rw [List.contains_iff_mem.mpr hj] at z
    cases z
  · rintro ⟨h1, h2⟩
    by_cases hj : j ∈ m'
    · exact hj
    · exfalso
      have z : (M.m.filter fun j => !m'.contains j).contains j = true := List.contains_iff_mem.mpr (List.mem_filter.mpr ⟨h1, by simp [hj]⟩)
      rw [z] at h2
      cases h2
theorem mem_insM {i j : Nat} {m : List Nat} : j ∈ insM i m ↔ j = i ∨ j ∈ m := by
  unfold insM
  by_cases h : m.contains i = true
  · rw [if_pos h]
    exact ⟨.inr, fun z => z.elim (fun q => q ▸ List.contains_iff_mem.mp h) id⟩
  · rw [if_neg h]
    exact List.mem_cons
/-- a new list of the def's own -/
theorem SR.setOwn {i : Nat} {a : Addr} {o : HO} {d0 : D} (s : SR K M R0 H0 R H σ ρ) (e : Ext R H R1 H1) (hi : i ∉ M.w []) (ha : H a = none) (hr : R1 a = none) (hh : H1 a = some o) (r : OwnC K R1 o d0) :
    SR K (M.w (insM i M.m)) R0 H0 R1 H1 (σ.set i (some (.ref a))) (ρ.set i (some d0)) := by
  have s1 := s.later e
  have mem : ∀ j, j ∈ insM i M.m ↔ j = i ∨ j ∈ M.m := fun j => mem_insM
  have noq : i ∉ M.oq := fun z => hi (Ow.of_oq (M := M.w []) z)
  have apart : ∀ j d, j ∈ M.m → ρ[j]? = some (some d) → σ[j]? = some (some (.ref a)) → False := fun j d hj h1 h2 => by
    obtain ⟨v, e1, _, h3, _⟩ := s.val j d h1
    rw [h2] at e1
    cases e1
    obtain ⟨b, eb, _, _, _, hb, _⟩ := h3 hj
    cases eb
    rw [ha] at hb
    cases hb
  refine ⟨s1.ext, by rw [List.length_set, List.length_set, s1.len], fun j d h => ?_, fun j k b d' e' hjk hj hk h1 h2 h3 h4 => ?_, ?_, fun j hj => ⟨fun z => ((mem j).mp z).elim (fun z => noq (z ▸ hj)) (s.dis j hj).1, (s.dis j hj).2⟩, fun j hj => ?_, s1.tab⟩
  · by_cases hj : i = j
    · subst hj
      by_cases hl : i < ρ.length
      · rw [List.getElem?_set_self hl] at h
        cases h
        refine ⟨_, List.getElem?_set_self (by rw [s1.len]; exact hl), fun n => absurd (.inl ((mem i).mpr (.inl rfl))) n, fun _ => ⟨a, rfl, ?_, hr, o, hh, r⟩, fun n => absurd (.inr (.inl n)) hi⟩
        exact s.ext.hh.free ha
      · rw [List.getElem?_eq_none (by rw [List.length_set]; omega)] at h
        cases h
    · rw [List.getElem?_set_ne hj] at h
      rw [List.getElem?_set_ne hj]
      obtain ⟨v, h1, h2, h3, h4⟩ := s1.val j d h
      exact ⟨v, h1, fun n => h2 fun z => n (z.elim (fun q => .inl ((mem j).mpr (.inr q))) .inr), fun n => h3 (((mem j).mp n).resolve_left fun z => hj z.symm), h4⟩
  · by_cases nj : i = j
    · subst nj
      have nk : i ≠ k := hjk
      rw [List.getElem?_set_ne nk] at h2 h4
      by_cases hl : i < σ.length
      · rw [List.getElem?_set_self hl] at h3
        cases h3
        exact apart k _ (((mem k).mp hk).resolve_left fun z => nk z.symm) h2 h4
      · rw [List.getElem?_eq_none (by rw [List.length_set]; omega)] at h3
        cases h3
    · rw [List.getElem?_set_ne nj] at h1 h3
      have jm := ((mem j).mp hj).resolve_left fun z => nj z.symm
      by_cases nk : i = k
      · subst nk
        by_cases hl : i < σ.length
        · rw [List.getElem?_set_self hl] at h4
          cases h4
          exact apart j _ jm h1 h3
        · rw [List.getElem?_eq_none (by rw [List.length_set]; omega)] at h4
          cases h4
      · rw [List.getElem?_set_ne nk] at h2 h4
        exact s1.sep j k b _ _ hjk jm (((mem k).mp hk).resolve_left fun z => nk z.symm) h1 h2 h3 h4
  · obtain ⟨F, h1, h2, h3⟩ := s.own
    have l := s.own.later e
    have nq : ∀ j ∈ M.oq, i ≠ j := fun j hj z => noq (z ▸ hj)
    refine ⟨F, fun j hj d h => ?_, fun j hj k hk hjk d e' hd he => ?_, fun j hj k hk d e' b hd he hb => ?_⟩
    · rw [List.getElem?_set_ne (nq j hj)] at h ⊢
      obtain ⟨b, e1, e2, e3⟩ := h1 j hj d h
      have dom := e2.dom
      refine ⟨b, e1, e2.mono e.rr e.hh, fun x hx => ⟨(e3 x hx).1, e.new x (e3 x hx).2 (dom x hx)⟩⟩
    · rw [List.getElem?_set_ne (nq j hj)] at hd
      rw [List.getElem?_set_ne (nq k hk)] at he
      exact h2 j hj k hk hjk d e' hd he
    · rw [List.getElem?_set_ne (nq j hj)] at hd
      by_cases nk : i = k
      · subst nk
        by_cases hl : i < σ.length
        · rw [List.getElem?_set_self hl] at hb
          cases hb
          intro z
          obtain ⟨_, _, e2, _⟩ := h1 j hj d hd
          exact e2.dom _ z ha
        · rw [List.getElem?_eq_none (by rw [List.length_set]; omega)] at hb
          cases hb
      · rw [List.getElem?_set_ne nk] at he hb
        exact h3 j hj k (((mem k).mp hk).resolve_left fun z => nk z.symm) d e' b hd he hb
  · have nj : i ≠ j := fun z => hi (z ▸ .inr (.inr (.inr hj)))
    rw [List.getElem?_set_ne nj]
    exact s.pin j hj
/-- an own list changes -/
theorem SR.mutate {i : Nat} {a : Addr} {d0 d1 : D} {o : HO} (s : SR K M R0 H0 R H σ ρ) (hi : i ∈ M.m) (his : i ∉ M.w []) (hd : ρ[i]? = some (some d0)) (hσ : σ[i]? = some (some (.ref a))) (r : OwnC K R o d1) :
    SR K M R0 H0 R (upd H a o) σ (ρ.set i (some d1)) := by
  obtain ⟨v0, e0, _, p3, _⟩ := s.val i d0 hd
  rw [hσ] at e0
  cases e0
  obtain ⟨b, eb, q0, qr, o', hh, rr⟩ := p3 hi
  cases eb
  have ex : Ext R0 H0 R (upd H a o) := ⟨s.ext.hh.put q0 (fun u q => by rw [hh] at q; cases q; exact ⟨rr.nt, rr.nc⟩), s.ext.rr, fun b u e => by rw [upd_ne (ne_of_none e qr)]; exact s.sub b u e, s.ext.new⟩
  have nq : ∀ j ∈ M.oq, i ≠ j := fun j hj z => his (z ▸ Ow.of_oq (M := M.w []) hj)
  refine ⟨ex, by rw [List.length_set, s.len], fun j d h => ?_, fun j k b d' e' hjk hj hk h1 h2 h3 h4 => ?_, ?_, s.dis, s.pin, fun p hp => ⟨tabS_upd (fun u q => by rw [hh] at q; cases q; exact ⟨rr.nt, rr.nc⟩) (s.tab p hp).1, (s.tab p hp).2⟩⟩
  · by_cases hj : i = j
    · subst hj
      have hl : i < ρ.length := (List.getElem?_eq_some_iff.mp hd).1
      rw [List.getElem?_set_self hl] at h
      cases h
      exact ⟨_, hσ, fun n => absurd (.inl hi) n, fun _ => ⟨a, rfl, q0, qr, o, upd_same, r⟩, fun n => absurd (.inr (.inl n)) his⟩
    · rw [List.getElem?_set_ne hj] at h
      obtain ⟨v, h1, h2, h3, h4⟩ := s.val j d h
      refine ⟨v, h1, h2, fun n => ?_, h4⟩
      obtain ⟨b, rfl, z0, zr, o2, hb, r'⟩ := h3 n
      have hba : b ≠ a := fun z => by
        subst z
        exact s.sep j i b _ _ (fun z => hj z.symm) n hi h hd h1 hσ
      exact ⟨b, rfl, z0, zr, o2, by rw [upd_ne hba]; exact hb, r'⟩
  · have g : ∀ {l : Nat} {d : D}, (ρ.set i (some d1))[l]? = some (some d) → ∃ d2, ρ[l]? = some (some d2) := fun {l d} h => by
      by_cases hl : i = l
      · subst hl; exact ⟨d0, hd⟩
      · rw [List.getElem?_set_ne hl] at h
        exact ⟨d, h⟩
    obtain ⟨_, g1⟩ := g h1
    obtain ⟨_, g2⟩ := g h2
    exact s.sep j k b _ _ hjk hj hk g1 g2 h3 h4
  · obtain ⟨F, h1, h2, h3⟩ := s.own
    refine ⟨F, fun j hj d h => ?_, fun j hj k hk hjk d e' hd' he => ?_, fun j hj k hk d e' b hd' he hb => ?_⟩
    · rw [List.getElem?_set_ne (nq j hj)] at h
      obtain ⟨b, e1, e2, e3⟩ := h1 j hj d h
      have na := h3 j hj i hi d d0 a h hd hσ
      exact ⟨b, e1, e2.keep (Same.refl _) fun x hx o q => by rw [upd_ne (fun z : x = a => na (by rw [← z]; exact hx))]; exact q, e3⟩
    · rw [List.getElem?_set_ne (nq j hj)] at hd'
      rw [List.getElem?_set_ne (nq k hk)] at he
      exact h2 j hj k hk hjk d e' hd' he
    · rw [List.getElem?_set_ne (nq j hj)] at hd'
      by_cases nk : i = k
      · subst nk
        exact h3 j hj i hi d d0 b hd' hd hb
      · rw [List.getElem?_set_ne nk] at he
        exact h3 j hj k hk d e' b hd' he hb
end
/-- what is wanted behind a statement, by its outcome -/
def PostS (XR : XRel) (K : PySem.W.Frag) (m h : List Nat) (s : Ow) (R0 H0 R : Hp) (o : Out) (D : Ends) (W : WX) : Prop :=
  match o with
  | .nx ρ' => ∀ σ' R' H', Same R R' → SR K (s.w m) R0 H0 R' H' σ' ρ' → D.nx σ' H'
  | .rt d ρ' => ∀ v σ' R' H', Same R R' → SR K (s.w []) R0 H0 R' H' σ' ρ' → Rep K R' v d → D.rt v H'
  | .bk ρ' => ∀ σ' R' H', Same R R' → SR K (s.w h) R0 H0 R' H' σ' ρ' → D.bk σ' H'
  | .ct ρ' => ∀ σ' R' H', Same R R' → SR K (s.w h) R0 H0 R' H' σ' ρ' → D.ct σ' H'
  | .exc c ps ρ' => ∀ cls dx σ' R' H', Same R R' → SR K (s.w []) R0 H0 R' H' σ' ρ' → XR R' H' c ps cls dx → W cls dx σ' H'
  | .stuck => False
section
variable {XR : XRel} {K : PySem.W.Frag} {m m' h : List Nat} {s : Ow} {R0 H0 R R1 : Hp} {o : Out} {D : Ends} {W : WX}
theorem PostS.later (p : PostS XR K m h s R0 H0 R o D W) (e : Same R R1) : PostS XR K m h s R0 H0 R1 o D W := by
  cases o with
  | nx ρ => exact fun σ' R' H' q => p σ' R' H' (e.trans q)
  | rt d ρ => exact fun v σ' R' H' q => p v σ' R' H' (e.trans q)
  | bk ρ => exact fun σ' R' H' q => p σ' R' H' (e.trans q)
  | ct ρ => exact fun σ' R' H' q => p σ' R' H' (e.trans q)
  | exc c ps ρ => exact fun cls dx σ' R' H' q => p cls dx σ' R' H' (e.trans q)
  | stuck => exact p
/-- more own lists behind it -/
theorem PostS.up (p : PostS XR K m h s R0 H0 R o D W) (e : ∀ i ∈ m, i ∈ m') : PostS XR K m' h s R0 H0 R o D W := by
  cases o with
  | nx ρ =>
    intro σ' R' H' q sr
    obtain ⟨R2, h1, s2⟩ := sr.weak e
    exact p σ' R2 H' (q.trans h1) s2
  | rt d ρ => exact p
  | bk ρ => exact p
  | ct ρ => exact p
  | exc c ps ρ => exact p
  | stuck => exact p
/-- first an expression -/
theorem PostS.first {α β : Type} {r : Res α} {f : α → Out} {rep : Hp → Hp → β → α → Prop} {Q : β → Hp → Prop} {M : Ow} {H : Hp} {σ : L2.St} {ρ : Rho} (XM : XMono XR) (sr : SR K M R0 H0 R H σ ρ)
    (p : PostS XR K m h M R0 H0 R (r.out ρ f) D W) (k : ∀ a b R1 H1, Ext R H R1 H1 → rep R1 H1 b a → PostS XR K m h M R0 H0 R1 (f a) D W → Q b H1) :
    PostE XR R H rep r Q (fun cls dx H' => W cls dx σ H') := by
  cases r with
  | ok a => exact fun b R' H' e y => k a b R' H' e y (PostS.later p e.rr)
  | exc c ps =>
    intro cls dx R' H' e x
    obtain ⟨R2, h1, s2⟩ := (sr.later e).weak (m' := []) (fun i hi => by cases hi)
    exact p cls dx σ R2 H' (e.rr.trans h1) s2 (XM _ _ _ _ _ _ _ h1 s2.sub x)
  | stuck => exact p
end
/-- where a def's statements stand -/
structure SiteS (T : Tab) (Φ : FEnv) (XR : XRel) (N : List Str) (sc : Scope) (X : Cx) (W : WX) : Prop where
  site : Site T Φ XR N sc (fun _ => true) X W
  own : PassesOwn (model X.prog X.w) X.A X.env X.xe
  kind : sc.kind = .function
  mono : XMono XR
  exc : ExcS T Φ XR X
  stk : X.stack = X.env :: X.outer
  frm : X.env.frame = some X.env.locals
def SSt (Φ : FEnv) (XR : XRel) (M : Ow) (m h : List Nat) (X : Cx) (W : WX) (st : Stmt) (c : CS) : Prop :=
  ∃ t : TS, PS X st t ∧ ∀ R0 H0 R H σ ρ D, SR X.K M R0 H0 R H σ ρ → PostS XR X.K m h M R0 H0 R (ex Φ c ρ) D W → t D σ H
def SSs (Φ : FEnv) (XR : XRel) (M : Ow) (m h : List Nat) (X : Cx) (W : WX) (st : List Stmt) (c : CS) : Prop :=
  ∃ t : TS, PSs X st t ∧ ∀ R0 H0 R H σ ρ D, SR X.K M R0 H0 R H σ ρ → PostS XR X.K m h M R0 H0 R (ex Φ c ρ) D W → t D σ H
section
variable {Φ : FEnv} {XR : XRel} {M : Ow} {X : Cx} {W : WX} {T : Tab} {N : List Str} {sc : Scope} {m h : List Nat}
theorem getv_some {ρ : Rho} {i : Nat} {d : D} (h : getv ρ i = .ok d) : ρ[i]? = some (some d) := by
  unfold getv at h
  split at h
  · rename_i d' e
    injection h with h
    rw [e, h]
  · cases h
theorem getv_n {ρ : Rho} {i : Nat} {c ps} : getv ρ i ≠ .exc c ps := by
  unfold getv
  intro h
  split at h <;> cases h
/-- an own slot is read -/
theorem ss_get {R0 H0 R H : Hp} {σ : L2.St} {ρ : Rho} {D : Ends} {i : Nat} {f : Ps.D → Out} (sr : SR X.K M R0 H0 R H σ ρ) (p : PostS XR X.K m h M R0 H0 R ((getv ρ i).out ρ f) D W) :
    ∃ d, ρ[i]? = some (some d) ∧ PostS XR X.K m h M R0 H0 R (f d) D W := by
  cases hg : getv ρ i with
  | ok d => rw [hg] at p; exact ⟨d, getv_some hg, p⟩
  | exc c ps => exact absurd hg getv_n
  | stuck => rw [hg] at p; exact p.elim
theorem ownOfS_ok {x : Str} {i : Nat} (h : ownOfS sc N M x = some i) : slotOf sc N x = some i ∧ i ∈ M.m ∧ i ∉ M.w [] := by
  obtain ⟨j, h1, h⟩ := obind h
  obtain ⟨h2, h⟩ := oif h
  cases h
  rw [Bool.and_eq_true] at h2
  have h3 : (M.w []).contains i = false := by simpa using h2.2
  exact ⟨h1, List.contains_iff_mem.mp h2.1, Ow.contains_not.mp h3⟩
theorem slot_pe (S : Site T Φ XR N sc (fun _ => true) X W) {x : Str} {i : Nat} {p : Pos} (h : slotOf sc N x = some i) : PE X (.Name x p) (tVar i) := by
  obtain ⟨h1, h2, h3, h4⟩ := slot_ok S h
  exact pe_var h1 h2 h3 h4
theorem notComp_sw {e : Expr} {tg : Option Expr} {l : Nat} {env : PySem.Env} (h : notComp e = true) : swapsWith e tg l env = pure false := by
  cases e <;> first | rfl | (cases h; done)
theorem ss_nope {st : Stmt} {m h : List Nat} : SSt Φ XR M m h X W st .nope := ⟨fun _ _ _ => False, ⟨fun pins s σ H D I h => h.elim⟩, fun R0 H0 R H σ ρ D sr p => p.elim⟩
theorem ss_ret (S : SiteS T Φ XR N sc X W) {e : Expr} {y : CE} {pos : Pos} (he : SE Φ XR M X W true e y) : SSt Φ XR M m h X W (.Return (some e) pos) (.ret y) := by
  obtain ⟨t, pe, q⟩ := he
  refine ⟨_, ps_ret pe, fun R0 H0 R H σ ρ D sr p => ?_⟩
  refine q R0 H0 R H σ ρ _ sr (PostS.first S.mono sr p fun a b R1 H1 e1 r1 p1 => ?_)
  obtain ⟨R2, h1, s2⟩ := (sr.later e1).weak (m' := []) (fun i hi => by cases hi)
  exact p1 b σ R2 H1 h1 s2 (Rep.mono h1 _ _ r1)
/-- name = e, e no new list -/
theorem ss_asg (S : SiteS T Φ XR N sc X W) {x : Str} {i : Nat} {e : Expr} {y : CE} {p0 pos : Pos} (he : SE Φ XR M X W true e y) (hx : locOf sc (fun _ => true) N M x = some i) (hn : notComp e = true) :
    SSt Φ XR M M.m h X W (.Assign [.Name x p0] e pos) (.asg (.nm i) y) := by
  obtain ⟨t, pe, q⟩ := he
  obtain ⟨q1, q2, q3, q4⟩ := loc_ok S.site hx
  refine ⟨_, ps_set (by rw [S.site.nE]; exact S.site.nd) q1 q2 pe (notComp_sw hn) q3, fun R0 H0 R H σ ρ D sr p => ?_⟩
  exact q R0 H0 R H σ ρ _ sr (PostS.first S.mono sr p fun a b R1 H1 e1 r1 p1 => p1 _ R1 H1 (Same.refl _) ((sr.later e1).set q4 r1))
/-- name = a new list -/
theorem ss_own (S : SiteS T Φ XR N sc X W) {x : Str} {i : Nat} {e : Expr} {y : CE} {p0 pos : Pos} (he : SN Φ XR M X W e y) (hx : locOf sc (fun _ => true) N (M.w []) x = some i)
    (ha : ∃ t : TE, PS X (.Assign [.Name x p0] e pos) (tAsg t (gName i)) ∧ ∀ R0 H0 R H σ ρ Q, SR X.K M R0 H0 R H σ ρ → PostE XR R H (RepN X.K H) (ev Φ y ρ) Q (fun cls dx H' => W cls dx σ H') → t σ H Q) :
    SSt Φ XR M (insM i M.m) h X W (.Assign [.Name x p0] e pos) (.asg (.nm i) y) := by
  obtain ⟨t, ps, q⟩ := ha
  obtain ⟨q1, q2, q3, q4⟩ := loc_ok S.site hx
  refine ⟨_, ps, fun R0 H0 R H σ ρ D sr p => ?_⟩
  refine q R0 H0 R H σ ρ _ sr (PostS.first S.mono sr p fun a b R1 H1 e1 r1 p1 => ?_)
  obtain ⟨l, o, rfl, h1, h2, h3, h4⟩ := r1
  exact p1 _ R1 H1 (Same.refl _) (sr.setOwn e1 q4 h1 h2 h3 h4)
theorem setT_post {R0 H0 R H : Hp} {σ : L2.St} {ρ : Rho} {D : Ends} {t : Tg} {d : Ps.D} {v : V} {f : Rho → Out} (sr : SR X.K M R0 H0 R H σ ρ) (hm : ∀ i ∈ slotsT t, i ∉ M) (r : Rep X.K R v d) {Q : L2.St → Hp → Prop}
    (p : PostS XR X.K m h M R0 H0 R ((setT ρ t d).next f) D W) (k : ∀ ρ' σ', SR X.K M R0 H0 R H σ' ρ' → PostS XR X.K m h M R0 H0 R (f ρ') D W → Q σ' H) : tgG X.K t v σ H Q := by
  unfold setT at p
  cases hb : bindT ρ t d with
  | none => rw [hb] at p; exact p.elim
  | some ρ' =>
    rw [hb] at p
    exact bind_ok (own := []) sr hb hm r fun σ' s' _ => k ρ' σ' s' p
/-- a, b = e -/
theorem ss_asgT (S : SiteS T Φ XR N sc X W) {tg e : Expr} {t : Tg} {y : CE} {pos : Pos} (he : SE Φ XR M X W true e y) (ht : trG sc (fun _ => true) N M tg = some t) (hn : notComp e = true) (hw : swappedStores [tg] e X.env = pure none)
    (h1 : (assignEach [tg] X.env).map (·.2) = [assign tg X.env]) : SSt Φ XR M M.m h X W (.Assign [tg] e pos) (.asg t y) := by
  obtain ⟨te, pe, q⟩ := he
  obtain ⟨g1, g2⟩ := pg_ok S.site ht
  refine ⟨_, ps_asg pe g1 (by show swapsWith e (some tg) pos.line X.env = pure false; exact notComp_sw hn) hw h1, fun R0 H0 R H σ ρ D sr p => ?_⟩
  refine q R0 H0 R H σ ρ _ sr (PostS.first S.mono sr p fun a b R1 H1 e1 r1 p1 => ?_)
  have p2 : PostS XR X.K M.m h M R0 H0 R1 ((setT ρ t a).next fun ρ' => .nx ρ') D W := by
    generalize setT ρ t a = o at p1 ⊢
    cases o <;> exact p1
  exact setT_post (sr.later e1) g2 r1 p2 fun ρ' σ' s' p' => p' σ' R1 H1 (Same.refl _) s'
/-- an own list is read -/
theorem ss_lst {R0 H0 R H : Hp} {σ : L2.St} {ρ : Rho} {D : Ends} {i : Nat} {f : List Ps.D → Out} (sr : SR X.K M R0 H0 R H σ ρ) (hi : i ∈ M.m) (p : PostS XR X.K m h M R0 H0 R ((getv ρ i).out ρ fun x => (lstD x).out ρ f) D W) :
    ∃ ds vs l, ρ[i]? = some (some (.lst ds)) ∧ σ[i]? = some (some (.ref l)) ∧ H l = some (.lst vs) ∧ Reps X.K R vs ds ∧ PostS XR X.K m h M R0 H0 R (f ds) D W := by
  obtain ⟨d, hd, p⟩ := ss_get sr p
  obtain ⟨v, e1, _, e3, _⟩ := sr.val i d hd
  obtain ⟨l, rfl, q0, qr, o, hh, rr⟩ := e3 hi
  rcases rr with ⟨ds, vs, rfl, rfl, rr⟩ | ⟨kvs, tv, rfl, rfl, rr⟩
  · exact ⟨ds, vs, l, hd, e1, hh, rr, p⟩
  · exact p.elim
/-- x.append(e) -/
theorem ss_app (S : SiteS T Φ XR N sc X W) {x : Str} {i : Nat} {a : Expr} {y : CE} {p ap cpos pos : Pos} (hx : ownOfS sc N M x = some i) (ha : SE Φ XR M X W true a y) (hl : (ap.endLine == cpos.line) = true) (hs : starEach [a] X.env = [(false, eval a X.env)]) :
    SSt Φ XR M M.m h X W (.Expr (.Call (.Attribute (.Name x p) "append" ap) [a] [] cpos) pos) (.app i y) := by
  obtain ⟨h1, h2, h3⟩ := ownOfS_ok hx
  obtain ⟨t, pe, q⟩ := ha
  refine ⟨_, ps_expr (pe_bm PySem.F.plainAttrs_list PySem.F.slot_list_append PySem.F.type_list_append mt_append (slot_pe S.site h1) (pa_cons pe pa_nil hs) (hline := hl) (hfew := by rw [hs]; rfl) (hs := hs)), fun R0 H0 R H σ ρ D sr p => ?_⟩
  obtain ⟨ds, vs, l, hd, e1, hh, rr, p⟩ := ss_lst sr h2 p
  refine ⟨_, e1, .inl ⟨rfl, _, SqL.of hh⟩, ?_⟩
  refine q R0 H0 R H σ ρ _ sr (PostS.first S.mono sr p fun a b R1 H1 x1 r1 p1 => ?_)
  unfold appO at p1
  by_cases hz : ds.length < SZ
  · simp only [hz, if_true] at p1
    refine ⟨l, vs, b, rfl, rfl, x1.hh.at hh, by rw [rr.length, ← SZ_line]; exact hz, ?_⟩
    exact p1 σ R1 _ (Same.refl _) ((sr.later x1).mutate h2 h3 hd e1 (.inl ⟨_, _, rfl, rfl, (rr.mono x1.rr).append (.one r1)⟩))
  · simp only [hz, if_false] at p1
    exact p1.elim
/-- x.insert(a, b) -/
theorem ss_ins (S : SiteS T Φ XR N sc X W) {x : Str} {i : Nat} {a b : Expr} {ya yb : CE} {p ap cpos pos : Pos} (hx : ownOfS sc N M x = some i) (ha : SE Φ XR M X W false a ya) (hb : SE Φ XR M X W true b yb) (hl : (ap.endLine == cpos.line) = true)
    (hs1 : starEach [a, b] X.env = (false, eval a X.env) :: starEach [b] X.env) (hs2 : starEach [b] X.env = (false, eval b X.env) :: starEach [] X.env) :
    SSt Φ XR M M.m h X W (.Expr (.Call (.Attribute (.Name x p) "insert" ap) [a, b] [] cpos) pos) (.ins i ya yb) := by
  obtain ⟨h1, h2, h3⟩ := ownOfS_ok hx
  obtain ⟨ta, pa, qa⟩ := ha
  obtain ⟨tb, pb, qb⟩ := hb
  refine ⟨_, ps_expr (pe_bm PySem.F.plainAttrs_list PySem.F.slot_list_insert PySem.F.type_list_insert mt_insert (slot_pe S.site h1) (pa_cons pa (pa_cons pb pa_nil hs2) hs1) (hline := hl) (hfew := by rw [hs1, hs2]; rfl) (hs := hs1) (hplain := by rw [hs2]; rfl)), fun R0 H0 R H σ ρ D sr p => ?_⟩
  obtain ⟨ds, vs, l, hd, e1, hh, rr, p⟩ := ss_lst sr h2 p
  refine ⟨_, e1, .inl ⟨rfl, _, SqL.of hh⟩, ?_⟩
  refine qa R0 H0 R H σ ρ _ sr (PostS.first S.mono sr p fun j vj R1 H1 x1 r1 p1 => ?_)
  refine qb R0 H0 R1 H1 σ ρ _ (sr.later x1) (PostS.first S.mono (sr.later x1) p1 fun b vb R2 H2 x2 r2 p2 => ?_)
  unfold insO at p2
  cases j with
  | int j =>
    cases r1.shal.int_inv
    by_cases hz : 0 ≤ j ∧ j ≤ 1000000 ∧ ds.length < SZ
    · simp only [hz, and_self, if_true] at p2
      have x3 := x1.trans x2
      have r3 := rr.mono x3.rr
      refine ⟨l, vs, j, vb, rfl, rfl, x3.hh.at hh, by rw [rr.length, ← SZ_line]; exact hz.2.2, hz.1, by omega, ?_⟩
      exact p2 σ R2 _ (Same.refl _) (((sr.later x1).later x2).mutate h2 h3 hd e1 (.inl ⟨_, _, rfl, rfl, ((r3.take _).append (.one r2)).append (r3.drop _)⟩))
    · simp only [hz, if_false] at p2
      exact p2.elim
  | _ => exact p2.elim
/-- x.extend(e), e a new list -/
theorem ss_ext (S : SiteS T Φ XR N sc X W) {x : Str} {i : Nat} {a : Expr} {y : CE} {p ap cpos pos : Pos} (hx : ownOfS sc N M x = some i) (ha : SN Φ XR M X W a y) (hl : (ap.endLine == cpos.line) = true) (hs : starEach [a] X.env = [(false, eval a X.env)]) :
    SSt Φ XR M M.m h X W (.Expr (.Call (.Attribute (.Name x p) "extend" ap) [a] [] cpos) pos) (.ext i y) := by
  obtain ⟨h1, h2, h3⟩ := ownOfS_ok hx
  obtain ⟨t, pe, q⟩ := ha
  refine ⟨_, ps_expr (pe_bm PySem.F.plainAttrs_list PySem.F.slot_list_extend PySem.F.type_list_extend mt_extend (slot_pe S.site h1) (pa_cons pe pa_nil hs) (hline := hl) (hfew := by rw [hs]; rfl) (hs := hs)), fun R0 H0 R H σ ρ D sr p => ?_⟩
  obtain ⟨ds, vs, l, hd, e1, hh, rr, p⟩ := ss_lst sr h2 p
  refine ⟨_, e1, .inl ⟨rfl, _, SqL.of hh⟩, ?_⟩
  refine q R0 H0 R H σ ρ _ sr (PostS.first S.mono sr p fun a b R1 H1 x1 r1 p1 => ?_)
  obtain ⟨l2, o, rfl, g1, g2, g3, g4⟩ := r1
  rcases g4 with ⟨es, ws, rfl, rfl, g4⟩ | ⟨kvs, tv, rfl, rfl, g4⟩
  · unfold extO at p1
    by_cases hz : ds.length + es.length ≤ SZ
    · simp only [hz, if_true] at p1
      refine ⟨l, l2, vs, ws, rfl, rfl, x1.hh.at hh, g3, by rw [rr.length, g4.length, ← SZ_line]; exact hz, ?_⟩
      exact p1 σ R1 _ (Same.refl _) ((sr.later x1).mutate h2 h3 hd e1 (.inl ⟨_, _, rfl, rfl, (rr.mono x1.rr).append g4⟩))
    · simp only [hz, if_false] at p1
      exact p1.elim
  · exact p1.elim
/-- x.extend(e), e a list that is held fast -/
theorem list_extendL (l : Addr) (items : Array Value) (n : Nat) (b : Addr) (items2 : Array Value) (n2 : Nat) (sl : Array (Option Value)) (hc0 : ¬(!items.isEmpty && Builtin.List.listTooLong (items.size + items2.size)) = true) (hc1 : items.size ≤ sizeLine) (hs2 : items.size + items2.size ≤ sizeLine + 1 := by seq_fits) :
    Meets (Builtin.«list.extend» ⟨[.ref l, .ref b], []⟩) (fun _ R s => s.heap.get? l = some { cls := .type "list", dict := none, data := .seq items n, slots := #[] } ∧ s.heap.get? b = some { cls := .type "list", dict := none, data := .seq items2 n2, slots := sl } ∧ R (.ok (.ret Value.none)) { s with heap := s.heap.update l (Obj.mapSeq fun x => x ++ items2), toks := s.toks }) :=
  .of_wp fun prog w A R s h => by
    obtain ⟨hp, g, d, tk, os⟩ := s; obtain ⟨hl, hb, h⟩ := h; have f1 := AutoSeq1.idx_int; have f2 := AutoSeq1.sub_tuple_tuple; have f3 := AutoSeq1.sub_list_list; have f4 := AutoSeq1.sub_tuple_list; have f5 := AutoSeq1.sub_list_tuple;
    have hz' : (items ++ items2).size ≤ sizeLine + 1 := by rw [Array.size_append]; exact hs2
    wp_walk using (wpAny_updateSeq hl rfl (hz := hc1) (_hz' := hz')), AutoSeq1.wpAny_loadPart' hl, AutoSeq1.wpAny_loadPart' hb; exact ⟨_, rfl, h⟩
def rExtendL (K : PySem.W.Frag) : V → List V → Hp → VK → Prop := fun x vs H Q => ∃ l b xs zs, x = .ref l ∧ vs = [.ref b] ∧ H l = some (.lst xs) ∧ SqL K H b zs ∧ xs.length + zs.length ≤ sizeLine ∧ Q .non (upd H l (.lst (xs ++ zs)))
theorem mt_extendL {X : Cx} : MtM X "list.extend" (rExtendL X.K) := by
  intro pins s σ H x vs v us Q I rx rv h
  obtain ⟨l, b, xs, zs, rfl, rfl, hH, hB, hz, q⟩ := h
  cases rx
  obtain ⟨u, rfl, ru⟩ := rv.one
  cases ru
  obtain ⟨z, its, n, r, hl, e⟩ := I.lstM hH
  obtain ⟨its2, r2, pl, z2⟩ := I.list hB
  obtain ⟨⟨c1, c2, c3, c4⟩, n2, e2, f1, f2, f3⟩ := pl
  simp only at f1 f2 f3
  subst f1 f2 f3
  have hl2 := r2.length
  have hsz : its.toArray.size + its2.toArray.size ≤ sizeLine := by rw [List.size_toArray, List.size_toArray]; omega
  have hlong : ¬ (!its.toArray.isEmpty && Builtin.List.listTooLong (its.toArray.size + its2.toArray.size)) = true := by
    rw [notLongL hsz, Bool.and_false]
    exact Bool.false_ne_true
  refine call_meets F.slot_list_extend ⟨_, e, rfl⟩ F.entry_list_extend (F.args_list_extend_2 _ _)
    (list_extendL l its.toArray n b its2.toArray n2 c4 hlong (by rw [List.size_toArray]; omega) (by omega)) ⟨e, e2, ?_⟩
  refine ⟨.non, _, I.lset (its' := its ++ its2) hH e (by simp) (r.append r2) ?_, rfl, q⟩
  rw [List.length_append]
  omega
theorem ss_extL (S : SiteS T Φ XR N sc X W) {x : Str} {i : Nat} {a : Expr} {y : CE} {p ap cpos pos : Pos} (hx : ownOfS sc N M x = some i) (ha : SE Φ XR M X W true a y) (hl : (ap.endLine == cpos.line) = true) (hs : starEach [a] X.env = [(false, eval a X.env)]) :
    SSt Φ XR M M.m h X W (.Expr (.Call (.Attribute (.Name x p) "extend" ap) [a] [] cpos) pos) (.ext i y) := by
  obtain ⟨h1, h2, h3⟩ := ownOfS_ok hx
  obtain ⟨t, pe, q⟩ := ha
  refine ⟨_, ps_expr (pe_bm PySem.F.plainAttrs_list PySem.F.slot_list_extend PySem.F.type_list_extend mt_extendL (slot_pe S.site h1) (pa_cons pe pa_nil hs) (hline := hl) (hfew := by rw [hs]; rfl) (hs := hs)), fun R0 H0 R H σ ρ D sr p => ?_⟩
  obtain ⟨ds, vs, l, hd, e1, hh, rr, p⟩ := ss_lst sr h2 p
  refine ⟨_, e1, .inl ⟨rfl, _, SqL.of hh⟩, ?_⟩
  refine q R0 H0 R H σ ρ _ sr (PostS.first S.mono sr p fun a b R1 H1 x1 r1 p1 => ?_)
  cases a with
  | lst es =>
    obtain ⟨l2, ws, rfl, g3, g4⟩ := r1.shal.lst_inv x1.sub
    unfold extO at p1
    by_cases hz : ds.length + es.length ≤ SZ
    · simp only [hz, if_true] at p1
      refine ⟨l, l2, vs, ws, rfl, rfl, x1.hh.at hh, g3, by rw [rr.length, g4.length, ← SZ_line]; exact hz, ?_⟩
      exact p1 σ R1 _ (Same.refl _) ((sr.later x1).mutate h2 h3 hd e1 (.inl ⟨_, _, rfl, rfl, (rr.mono x1.rr).append g4⟩))
    · simp only [hz, if_false] at p1
      exact p1.elim
  | _ => exact p1.elim
/-- what x[k] = e asks: a list or a dict -/
def rSetLD : TSet := fun o i v H Q => rSetL o i v H Q ∨ rSetD o i v H Q
theorem set_ld {X : Cx} (hu : X.A.units + 1 < cLine) : PSet X rSetLD := by
  intro pins s σ H o i v ov iv u Q I ro ri rv h
  rcases h with h | h
  · exact set_list pins s σ H o i v ov iv u Q I ro ri rv h
  · exact set_dict hu pins s σ H o i v ov iv u Q I ro ri rv h
theorem Reps.eraseIdx {K : PySem.W.Frag} {R : Hp} {vs : List V} {ds : List Ps.D} (n : Nat) (r : Reps K R vs ds) : Reps K R (vs.eraseIdx n) (ds.eraseIdx n) := by
  rw [List.eraseIdx_eq_take_drop_succ, List.eraseIdx_eq_take_drop_succ]
  exact (r.take n).append (r.drop (n + 1))
theorem ixP_seq {n : Nat} {j : Int} {p : Nat} (hn : n < sizeLine) (h : ixP n j = some p) : -(2 ^ 63) ≤ j ∧ j < 2 ^ 63 ∧ seqIndex? j n = some p := by
  have h2 : sizeLine ≤ 2 ^ 63 := by decide
  unfold ixP at h
  unfold seqIndex?
  split at h
  · rename_i c
    split at h
    · rename_i c2
      cases h
      refine ⟨by omega, by omega, ?_⟩
      rw [if_neg (by omega : ¬ j < 0)]
      simp only [c, c2, decide_true, Bool.and_self, if_true]
    · cases h
  · rename_i c
    split at h
    · rename_i c2
      cases h
      refine ⟨by omega, by omega, ?_⟩
      rw [if_pos (by omega : j < 0)]
      have c3 : 0 ≤ j + (n : Int) := by omega
      have c4 : j + (n : Int) < n := by omega
      simp only [c3, c4, decide_true, Bool.and_self, if_true]
    · cases h
/-- x = y.pop(a) -/
theorem ss_pop (S : SiteS T Φ XR N sc X W) {x y : Str} {i k : Nat} {a : Expr} {z : CE} {p0 p ap cpos pos : Pos} (hx : locOf sc (fun _ => true) N M x = some k) (hy : ownOfS sc N M y = some i) (ha : SE Φ XR M X W false a z) (hl : (ap.endLine == cpos.line) = true) (hs : starEach [a] X.env = [(false, eval a X.env)]) :
    SSt Φ XR M M.m h X W (.Assign [.Name x p0] (.Call (.Attribute (.Name y p) "pop" ap) [a] [] cpos) pos) (.pop k i z) := by
  obtain ⟨h1, h2, h3⟩ := ownOfS_ok hy
  obtain ⟨q1, q2, q3, q4⟩ := loc_ok S.site hx
  obtain ⟨t, pe, q⟩ := ha
  refine ⟨_, ps_set (by rw [S.site.nE]; exact S.site.nd) q1 q2 (pe_bm PySem.F.plainAttrs_list PySem.F.slot_list_pop PySem.F.type_list_pop mt_popAt (slot_pe S.site h1) (pa_cons pe pa_nil hs) (hline := hl) (hfew := by rw [hs]; rfl) (hs := hs)) (notComp_sw rfl) q3, fun R0 H0 R H σ ρ D sr p => ?_⟩
  obtain ⟨ds, vs, l, hd, e1, hh, rr, p⟩ := ss_lst sr h2 p
  refine ⟨_, e1, .inl ⟨rfl, _, SqL.of hh⟩, ?_⟩
  refine q R0 H0 R H σ ρ _ sr (PostS.first S.mono sr p fun a b R1 H1 x1 r1 p1 => ?_)
  cases a with
  | int j =>
    cases r1.shal.int_inv
    simp only [popR] at p1
    by_cases hz : ds.length < SZ
    · simp only [hz, if_true] at p1
      unfold ofOpt at p1
      cases hi : ixP ds.length j with
      | none => rw [hi] at p1; exact p1.elim
      | some n =>
        rw [hi] at p1
        cases hg : ds[n]? with
        | none => simp only [Res.bind, hg] at p1; exact p1.elim
        | some g =>
          simp only [Res.bind, hg] at p1
          obtain ⟨w, hw, rw'⟩ := rr.get hg
          obtain ⟨b1, b2, b3⟩ := ixP_seq (by rw [← SZ_line]; exact hz) hi
          refine ⟨l, vs, j, n, w, rfl, rfl, x1.hh.at hh, b1, b2, by rw [rr.length]; exact b3, hw, ?_⟩
          exact p1 _ R1 _ (Same.refl _) (((sr.later x1).mutate h2 h3 hd e1 (.inl ⟨_, _, rfl, rfl, Reps.eraseIdx n (rr.mono x1.rr)⟩)).set q4 (rw'.mono x1.rr))
    · simp only [hz, if_false] at p1
      exact p1.elim
  | _ => exact p1.elim
/-- x[k] = e -/
theorem ss_put (S : SiteS T Φ XR N sc X W) {x : Str} {i : Nat} {k e : Expr} {y z : CE} {p p2 pos : Pos} (hx : ownOfS sc N M x = some i) (he : SE Φ XR M X W true e y) (hk : SE Φ XR M X W false k z) (hn : notComp e = true)
    (ha : ∀ v, assign (.Subscript (.Name x p) k p2) X.env v = (do
      let ov ← holding [v] (eval (.Name x p) X.env)
      let iv ← holding [v, ov] (eval k X.env)
      standAt p2
      holding [v, ov, iv] (setItem ov iv v)
      release [v, ov, iv] [])) :
    SSt Φ XR M M.m h X W (.Assign [.Subscript (.Name x p) k p2] e pos) (.put i z y) := by
  obtain ⟨h1, h2, h3⟩ := ownOfS_ok hx
  obtain ⟨t, pe, q⟩ := he
  obtain ⟨t2, pk, q2⟩ := hk
  refine ⟨_, ps_asg pe (pg_sub (slot_pe S.site h1) pk (set_ld (by have := S.site.room; omega)) ha) (by show swapsWith e (some (.Subscript (.Name x p) k p2)) pos.line X.env = pure false; exact notComp_sw hn), fun R0 H0 R H σ ρ D sr p => ?_⟩
  refine q R0 H0 R H σ ρ _ sr (PostS.first S.mono sr p fun a b R1 H1 x1 r1 p1 => ?_)
  have sr1 := sr.later x1
  obtain ⟨d, hd, p1⟩ := ss_get sr1 p1
  obtain ⟨v, e1, _, e3, _⟩ := sr1.val i d hd
  obtain ⟨l, rfl, q0, qr, o, hh, rr⟩ := e3 h2
  refine ⟨_, e1, ?_⟩
  refine q2 R0 H0 R1 H1 σ ρ _ sr1 (PostS.first S.mono sr1 p1 fun j vj R2 H2 x2 r2 p2 => ?_)
  rcases rr with ⟨ds, vs, rfl, rfl, rr⟩ | ⟨kvs, tv, rfl, rfl, rr⟩
  · cases j with
    | int j =>
      cases r2.shal.int_inv
      unfold putO at p2
      simp only at p2
      unfold ofOpt at p2
      cases hi : ixP ds.length j with
      | none => rw [hi] at p2; exact p2.elim
      | some n =>
        rw [hi] at p2
        refine .inl ⟨l, vs, j, n, rfl, rfl, x2.hh.at hh, by rw [rr.length]; exact hi, ?_⟩
        exact p2 σ R2 _ (Same.refl _) ((sr1.later x2).mutate h2 h3 hd e1 (.inl ⟨_, _, rfl, rfl, Reps.set (r1.mono x2.rr) n (rr.mono x2.rr)⟩))
    | _ => exact p2.elim
  · cases j with
    | tup ks =>
      cases a with
      | bl bb =>
        cases r1.shal.bl_inv
        simp only [putO] at p2
        by_cases hz : keyB (.tup ks) = true ∧ kvs.length < SZ
        · simp only [hz, and_self, if_true] at p2
          obtain ⟨is, e⟩ := key_ints hz.1
          injection e with e
          subst e
          obtain ⟨a2, us, rfl, hu, ru⟩ := r2.shal.tup_inv'
          have ev := ints_V ru
          subst ev
          refine .inr ⟨l, _, rfl, DPut.t (k := is.map Sum.inl) (x2.hh.at hh) (by rw [x2.sub _ _ hu, List.map_map]; rfl) (by rw [rr.length, ← SZ_line]; exact hz.2), ?_⟩
          exact p2 σ R2 _ (Same.refl _) ((sr1.later x2).mutate h2 h3 hd e1 (.inr ⟨_, _, rfl, rfl, rr.put is bb⟩))
        · simp only [hz, if_false] at p2
          exact p2.elim
      | _ => exact p2.elim
    | _ => exact p2.elim
/-- x += e, whole numbers -/
theorem ss_aug (S : SiteS T Φ XR N sc X W) {x : Str} {i : Nat} {e : Expr} {y : CE} {p pos : Pos} (hx : locOf sc (fun _ => true) N M x = some i) (he : SE Φ XR M X W false e y) :
    SSt Φ XR M M.m h X W (.AugAssign (.Name x p) .Add e pos) (.aug i y) := by
  obtain ⟨t, pe, q⟩ := he
  obtain ⟨q1, q2, q3, q4⟩ := loc_ok S.site hx
  refine ⟨_, ps_aug (by rw [S.site.nE]; exact S.site.nd) q1 q2 pe ip_add q3, fun R0 H0 R H σ ρ D sr p => ?_⟩
  obtain ⟨d, hd, p⟩ := ss_get sr p
  obtain ⟨v, e1, hv⟩ := sr.shalV hd
  refine ⟨v, e1, ?_⟩
  refine q R0 H0 R H σ ρ _ sr (PostS.first S.mono sr p fun b vb R1 H1 x1 r1 p1 => ?_)
  cases d with
  | int a =>
    cases b with
    | int b =>
      cases hv.int_inv
      cases r1.shal.int_inv
      exact ⟨a, b, rfl, rfl, p1 _ R1 H1 (Same.refl _) ((sr.later x1).set q4 (.int _))⟩
    | _ => exact p1.elim
  | _ => exact p1.elim
theorem ss_if (S : SiteS T Φ XR N sc X W) {c : Expr} {a b : List Stmt} {k : CE} {x y : CS} {m1 m2 : List Nat} {pos : Pos} (hc : STt Φ XR M X W c k) (ha : SSs Φ XR M m1 h X W a x) (hb : SSs Φ XR M m2 h X W b y)
    (h1 : ∀ i ∈ m, i ∈ m1) (h2 : ∀ i ∈ m, i ∈ m2) : SSt Φ XR M m h X W (.If c a b pos) (.cond k x y) := by
  obtain ⟨tc, pc, qc⟩ := hc
  obtain ⟨ta, pa, qa⟩ := ha
  obtain ⟨tb, pb, qb⟩ := hb
  refine ⟨_, ps_if pc pa pb, fun R0 H0 R H σ ρ D sr p => ?_⟩
  refine qc R0 H0 R H σ ρ _ sr (PostS.first (rep := fun _ _ b k => b = k) S.mono sr p fun k b R1 H1 x1 r1 p1 => ?_)
  subst r1
  cases b with
  | true => rw [if_pos rfl]; exact qa R0 H0 R1 H1 σ ρ D (sr.later x1) (PostS.up p1 h1)
  | false => rw [if_neg Bool.false_ne_true]; exact qb R0 H0 R1 H1 σ ρ D (sr.later x1) (PostS.up p1 h2)
theorem SSs.nil : SSs Φ XR M M.m h X W [] .skip := ⟨_, pss_nil, fun R0 H0 R H σ ρ D sr p => p σ R H (Same.refl _) sr⟩
theorem SSs.one {st : Stmt} {c : CS} (a : SSt Φ XR M m h X W st c) : SSs Φ XR M m h X W [st] c := let ⟨t, p, q⟩ := a; ⟨t, pss_one p, q⟩
theorem SSs.cons {st : Stmt} {r : List Stmt} {c d : CS} {m1 : List Nat} (a : SSt Φ XR M m1 h X W st c) (b : SSs Φ XR (M.w m1) m h X W r d) : SSs Φ XR M m h X W (st :: r) (.seq c d) := by
  obtain ⟨ta, pa, qa⟩ := a
  obtain ⟨tb, pb, qb⟩ := b
  refine ⟨_, pss_cons pa pb, fun R0 H0 R H σ ρ D sr p => ?_⟩
  refine qa R0 H0 R H σ ρ _ sr ?_
  simp only [ex] at p
  generalize ex Φ c ρ = o at p ⊢
  cases o with
  | nx ρ' => exact fun σ' R' H' e s' => qb R0 H0 R' H' σ' ρ' D s' (PostS.later p e)
  | rt d ρ => exact p
  | bk ρ => exact p
  | ct ρ => exact p
  | exc c ps ρ => exact p
  | stuck => exact p
/-- some lists are held fast first -/
theorem SSt.weak {st : Stmt} {c : CS} {m1 : List Nat} (a : SSt Φ XR (M.w m1) m h X W st c) (h1 : ∀ i ∈ m1, i ∈ M.m) : SSt Φ XR M m h X W st c := by
  obtain ⟨t, p, q⟩ := a
  refine ⟨t, p, fun R0 H0 R H σ ρ D sr pp => ?_⟩
  obtain ⟨R1, e1, s1⟩ := sr.weak h1
  exact q R0 H0 R1 H σ ρ D s1 (PostS.later pp e1)
/-- a loop's turn and what is behind it -/
theorem loop_turn {f : Ps.D → Rho → Out} {R0 H0 R : Hp} {D : Ends} {x : Ps.D} {xs : List Ps.D} {ρ : Rho} {s : Ow} {K : PySem.W.Frag} (p : PostS XR K m h s R0 H0 R (forL f (x :: xs) ρ) D W) (Nx : L2.St → Hp → Prop)
    (k : ∀ ρ' σ' R' H', Same R R' → SR K (s.w m) R0 H0 R' H' σ' ρ' → PostS XR K m h s R0 H0 R' (forL f xs ρ') D W → Nx σ' H') :
    PostS XR K m m s R0 H0 R (f x ρ) { D with nx := Nx, ct := Nx, bk := D.nx } W := by
  simp only [forL] at p
  generalize f x ρ = o at p ⊢
  cases o with
  | nx ρ' => exact fun σ' R' H' e s' => k ρ' σ' R' H' e s' (PostS.later p e)
  | ct ρ' => exact fun σ' R' H' e s' => k ρ' σ' R' H' e s' (PostS.later p e)
  | bk ρ' => exact p
  | rt d ρ => exact p
  | exc c ps ρ => exact p
  | stuck => exact p
theorem ss_for (S : SiteS T Φ XR N sc X W) {tg it : Expr} {body : List Stmt} {t : Tg} {ci : CI} {b : CS} {m1 : List Nat} {pos : Pos} (hi : SI Φ XR M X W true tg it ci) (ht : trG sc (fun _ => true) N M tg = some t) (hm : ∀ i ∈ m, i ∈ M.m)
    (hb : SSs Φ XR (M.w m) m1 m X W body b) (h1 : ∀ i ∈ m, i ∈ m1) (hs : ∀ x, foldedSetIterable it X.env x = pure x) : SSt Φ XR M m h X W (.For tg it body [] pos) (.loop t ci b) := by
  obtain ⟨wi, pi, qi⟩ := hi
  obtain ⟨tb, pb, qb⟩ := hb
  obtain ⟨g1, g2⟩ := pg_ok S.site ht
  refine ⟨_, ps_for S.own S.site.calm pi g1 pb hs, fun R0 H0 R H σ ρ D sr p => ?_⟩
  refine qi R0 H0 R H σ ρ _ sr (PostS.first S.mono sr p fun xs J R1 H1 x1 hJ p1 => ?_)
  obtain ⟨G, Y, wk, hG, hY⟩ := hJ
  obtain ⟨R2, e2, s2⟩ := (sr.later x1).weak hm
  refine for_it wk (fun i σ' H' => ∃ R' ρ', Same R1 R' ∧ SR X.K (M.w m) R0 H0 R' H' σ' ρ' ∧ PostS XR X.K m h M R0 H0 R' (forL (fun x ρ => (setT ρ t x).next (ex Φ b)) (xs.drop i) ρ') D W)
    ⟨R2, ρ, e2, s2, PostS.later p1 e2⟩ (fun i σ' H' _ ⟨R', ρ', e', s', _⟩ => hG H' (SameN.of (e'.trans s'.sub)) s'.ext.hh) ?_ ?_
  · rintro i x σ' H' H2 hlt ⟨R', ρ', e', s', p'⟩ yy
    have hxi : xs[i]? = some xs[i] := by simp [hlt]
    have hdrop : xs.drop i = xs[i] :: xs.drop (i + 1) := List.drop_eq_getElem_cons hlt
    rw [hdrop] at p'
    obtain ⟨R3, x3, rx⟩ := hY i _ hxi R' H' x H2 e' s'.sub yy
    have s3 := s'.later x3
    have p3 := loop_turn (PostS.later p' x3.rr) (fun σ'' H'' => ∃ R' ρ', Same R1 R' ∧ SR X.K (M.w m) R0 H0 R' H'' σ'' ρ' ∧ PostS XR X.K m h M R0 H0 R' (forL (fun x ρ => (setT ρ t x).next (ex Φ b)) (xs.drop (i + 1)) ρ') D W)
      (fun ρ'' σ'' R'' H'' e'' s'' p'' => ⟨R'', ρ'', (e'.trans x3.rr).trans e'', s'', p''⟩)
    exact setT_post (M := (M.w m)) s3 (fun j hj z => g2 j hj (z.elim (fun q => .inl (hm j q)) .inr)) rx p3 fun ρ'' σ'' s'' p'' => qb R0 H0 R3 H2 σ'' ρ'' _ s'' (PostS.up p'' h1)
  · rintro σ' H' ⟨R', ρ', e', s', p'⟩
    rw [List.drop_length] at p'
    exact p' σ' R' H' (Same.refl _) s'
theorem ss_while (S : SiteS T Φ XR N sc X W) {c : Expr} {body : List Stmt} {k : CE} {b : CS} {m1 : List Nat} {pos : Pos} (hm : ∀ i ∈ m, i ∈ M.m) (hc : STt Φ XR (M.w m) X W c k)
    (hb : SSs Φ XR (M.w m) m1 m X W body b) (h1 : ∀ i ∈ m, i ∈ m1) : SSt Φ XR M m h X W (.While c body [] pos) (.whil k b) := by
  obtain ⟨tc, pc, qc⟩ := hc
  obtain ⟨tb, pb, qb⟩ := hb
  refine ⟨_, ps_while S.own pc pb, fun R0 H0 R H σ ρ D sr p => ?_⟩
  obtain ⟨R2, e2, s2⟩ := sr.weak hm
  refine ⟨fun n σ' H' => ∃ R' ρ', Same R R' ∧ SR X.K (M.w m) R0 H0 R' H' σ' ρ' ∧ PostS XR X.K m h M R0 H0 R' (whiL (fun ρ => (ev Φ k ρ).bind truR) (ex Φ b) n ρ') D W, ⟨TURNS, R2, ρ, e2, s2, PostS.later p e2⟩, ?_⟩
  rintro n σ' H' ⟨R', ρ', e', s', p'⟩
  cases n with
  | zero => exact p'.elim
  | succ n =>
    simp only [whiL] at p'
    refine qc R0 H0 R' H' σ' ρ' _ s' (PostS.first (M := (M.w m)) (rep := fun _ _ b k => b = k) S.mono s' p' fun k2 b2 R1 H1 x1 r1 p1 => ?_)
    subst r1
    cases b2 with
    | false =>
      show if false = true then _ else _
      rw [if_neg Bool.false_ne_true]
      exact p1 σ' R1 H1 (Same.refl _) (s'.later x1)
    | true =>
      show if true = true then _ else _
      rw [if_pos rfl]
      refine ⟨fun σ'' H'' => ∃ R' ρ', Same R R' ∧ SR X.K (M.w m) R0 H0 R' H'' σ'' ρ' ∧ PostS XR X.K m h M R0 H0 R' (whiL (fun ρ => (ev Φ k ρ).bind truR) (ex Φ b) n ρ') D W, fun σ'' H'' z => ⟨n, Nat.lt_succ_self n, z⟩, ?_⟩
      refine qb R0 H0 R1 H1 σ' ρ' _ (s'.later x1) (PostS.up ?_ h1)
      simp only at p1
      generalize ex Φ b ρ' = o at p1 ⊢
      cases o with
      | nx ρ3 => exact fun σ3 R3 H3 e3 s3 => ⟨R3, ρ3, (e'.trans x1.rr).trans e3, s3, PostS.later p1 e3⟩
      | ct ρ3 => exact fun σ3 R3 H3 e3 s3 => ⟨R3, ρ3, (e'.trans x1.rr).trans e3, s3, PostS.later p1 e3⟩
      | bk ρ3 => exact p1
      | rt d ρ => exact p1
      | exc c ps ρ => exact p1
      | stuck => exact p1
end
end Ps
end
section
set_option maxHeartbeats 4000000
/-! PsEE: expressions that change what objects hold. -/
namespace Ps
open PySem PySem.Spec PyProof.Rows L2
variable [Tbs]
/-- what is wanted behind such an expression -/
def PostEE (XR : XRel) (K : PySem.W.Frag) (M : Ow) (R0 H0 R : Hp) (o : Out) (σ : L2.St) (Q : VK) (W : WX) : Prop :=
  match o with
  | .rt d ρ' => ∀ v R' H', Same R R' → SR K M R0 H0 R' H' σ ρ' → Rep K R' v d → Q v H'
  | .exc c ps ρ' => ∀ cls dx R' H', Same R R' → SR K (M.w []) R0 H0 R' H' σ ρ' → XR R' H' c ps cls dx → W cls dx σ H'
  | _ => False
def PostEL (XR : XRel) (K : PySem.W.Frag) (M : Ow) (R0 H0 R : Hp) (o : Out) (σ : L2.St) (Q : List V → Hp → Prop) (W : WX) : Prop :=
  match o with
  | .rt d ρ' => ∀ vs ds R' H', d = .tup ds → Same R R' → SR K M R0 H0 R' H' σ ρ' → Reps K R' vs ds → Q vs H'
  | .exc c ps ρ' => ∀ cls dx R' H', Same R R' → SR K (M.w []) R0 H0 R' H' σ ρ' → XR R' H' c ps cls dx → W cls dx σ H'
  | _ => False
section
variable {XR : XRel} {K : PySem.W.Frag} {M : Ow} {R0 H0 R R1 H : Hp} {o : Out} {σ : L2.St} {ρ : Rho} {Q : VK} {W : WX}
theorem PostEE.later (p : PostEE XR K M R0 H0 R o σ Q W) (e : Same R R1) : PostEE XR K M R0 H0 R1 o σ Q W := by
  cases o with
  | rt d ρ => exact fun v R' H' q => p v R' H' (e.trans q)
  | exc c ps ρ => exact fun cls dx R' H' q => p cls dx R' H' (e.trans q)
  | _ => exact p
theorem PostEL.later {Q : List V → Hp → Prop} (p : PostEL XR K M R0 H0 R o σ Q W) (e : Same R R1) : PostEL XR K M R0 H0 R1 o σ Q W := by
  cases o with
  | rt d ρ => exact fun vs ds R' H' h q => p vs ds R' H' h (e.trans q)
  | exc c ps ρ => exact fun cls dx R' H' q => p cls dx R' H' (e.trans q)
  | _ => exact p
theorem PostEE.first {f : D → Rho → Out} {Q' : VK} (p : PostEE XR K M R0 H0 R (o.thn f) σ Q' W)
    (k : ∀ d ρ1 v R1 H1, Same R R1 → SR K M R0 H0 R1 H1 σ ρ1 → Rep K R1 v d → PostEE XR K M R0 H0 R1 (f d ρ1) σ Q' W → Q v H1) : PostEE XR K M R0 H0 R o σ Q W := by
  cases o with
  | rt d ρ => exact fun v R' H' e s r => k d ρ v R' H' e s r (PostEE.later p e)
  | exc c ps ρ => exact p
  | _ => exact p
theorem PostEE.firstL {f : D → Rho → Out} {Q' : List V → Hp → Prop} (p : PostEL XR K M R0 H0 R (o.thn f) σ Q' W)
    (k : ∀ d ρ1 v R1 H1, Same R R1 → SR K M R0 H0 R1 H1 σ ρ1 → Rep K R1 v d → PostEL XR K M R0 H0 R1 (f d ρ1) σ Q' W → Q v H1) : PostEE XR K M R0 H0 R o σ Q W := by
  cases o with
  | rt d ρ => exact fun v R' H' e s r => k d ρ v R' H' e s r (PostEL.later p e)
  | exc c ps ρ => exact p
  | _ => exact p
theorem PostEL.first {f : D → Rho → Out} {Q' : List V → Hp → Prop} {Q : VK} {Q : List V → Hp → Prop} (p : PostEL XR K M R0 H0 R (o.thn f) σ Q' W)
    (k : ∀ ds ρ1 vs R1 H1, Same R R1 → SR K M R0 H0 R1 H1 σ ρ1 → Reps K R1 vs ds → PostEL XR K M R0 H0 R1 (f (.tup ds) ρ1) σ Q' W → Q vs H1) : PostEL XR K M R0 H0 R o σ Q W := by
  cases o with
  | rt d ρ => exact fun vs ds R' H' h e s r => k ds ρ vs R' H' e s r (h ▸ PostEL.later p e)
  | exc c ps ρ => exact p
  | _ => exact p
theorem PostEL.firstE {f : D → Rho → Out} {Q' : VK} {Q : List V → Hp → Prop} (p : PostEE XR K M R0 H0 R (o.thn f) σ Q' W)
    (k : ∀ ds ρ1 vs R1 H1, o = .rt (.tup ds) ρ1 → Same R R1 → SR K M R0 H0 R1 H1 σ ρ1 → Reps K R1 vs ds → PostEE XR K M R0 H0 R1 (f (.tup ds) ρ1) σ Q' W → Q vs H1) : PostEL XR K M R0 H0 R o σ Q W := by
  cases o with
  | rt d ρ => exact fun vs ds R' H' h e s r => k ds ρ vs R' H' (by rw [h]) e s r (h ▸ PostEE.later p e)
  | exc c ps ρ => exact p
  | _ => exact p
/-- from an answer that changes nothing -/
theorem PostEE.pure {r : Res D} (XM : XMono XR) (sr : SR K M R0 H0 R H σ ρ) (p : PostEE XR K M R0 H0 R (r.out ρ fun d => .rt d ρ) σ Q W) : PostE XR R H (RepF K true) r Q (fun cls dx H' => W cls dx σ H') := by
  cases r with
  | ok d => exact fun v R' H' e r => p v R' H' e.rr (sr.later e) r
  | exc c ps =>
    intro cls dx R' H' e x
    obtain ⟨R2, h1, s2⟩ := (sr.later e).weak (m' := []) (fun i hi => by cases hi)
    exact p cls dx R2 H' (e.rr.trans h1) s2 (XM _ _ _ _ _ _ _ h1 s2.sub x)
  | stuck => exact p
end
def SEE (Φ : FEnv) (XR : XRel) (M : Ow) (X : Cx) (W : WX) (e : Expr) (c : EE) : Prop :=
  ∃ t : TE, PE X e t ∧ ∀ R0 H0 R H σ ρ Q, SR X.K M R0 H0 R H σ ρ → PostEE XR X.K M R0 H0 R (eve Φ c ρ) σ Q W → t σ H Q
def SEL (Φ : FEnv) (XR : XRel) (M : Ow) (X : Cx) (W : WX) (es : List Expr) (c : EL) : Prop :=
  ∃ t : TA, PA X es t ∧ ∀ R0 H0 R H σ ρ Q, SR X.K M R0 H0 R H σ ρ → PostEL XR X.K M R0 H0 R (eves Φ c ρ) σ Q W → t σ H Q
/-- arguments of a def that changes some of them: data, or a slot that is own -/
inductive ArgR (K : PySem.W.Frag) (M : Ow) (io : List Nat) (σ : L2.St) (ρ : Rho) (R : Hp) : Nat → List V → List D → List (Nat × Nat) → Prop
  | nil (j : Nat) : ArgR K M io σ ρ R j [] [] []
  | dat {j : Nat} {v : V} {d : D} {vs : List V} {ds : List D} {os : List (Nat × Nat)} (hj : j ∉ io) (h : Rep K R v d) (t : ArgR K M io σ ρ R (j + 1) vs ds os) : ArgR K M io σ ρ R j (v :: vs) (d :: ds) os
  | own {j i : Nat} {v : V} {d : D} {vs : List V} {ds : List D} {os : List (Nat × Nat)} (hj : j ∈ io) (hi : i ∈ M.oq) (h : σ[i]? = some (some v)) (hd : ρ[i]? = some (some d)) (t : ArgR K M io σ ρ R (j + 1) vs ds os) : ArgR K M io σ ρ R j (v :: vs) (d :: ds) ((j, i) :: os)
section
variable {K : PySem.W.Frag} {M : Ow} {io : List Nat} {σ : L2.St} {ρ : Rho} {R R' : Hp}
theorem ArgR.mono {j : Nat} {vs : List V} {ds : List D} {os : List (Nat × Nat)} (e : Same R R') (h : ArgR K M io σ ρ R j vs ds os) : ArgR K M io σ ρ R' j vs ds os := by
  induction h with
  | nil j => exact .nil j
  | dat hj h t ih => exact .dat hj (h.mono e) ih
  | own hj hi h hd t ih => exact .own hj hi h hd ih
theorem ArgR.length {j : Nat} {vs : List V} {ds : List D} {os : List (Nat × Nat)} (h : ArgR K M io σ ρ R j vs ds os) : vs.length = ds.length := by
  induction h with
  | nil j => rfl
  | dat hj h t ih => simp [ih]
  | own hj hi h hd t ih => simp [ih]
theorem ArgR.dats {j : Nat} {vs : List V} {ds : List D} {os : List (Nat × Nat)} (h : ArgR K M io σ ρ R j vs ds os) : ∀ k v d, vs[k]? = some v → ds[k]? = some d → j + k ∉ io → Rep K R v d := by
  induction h with
  | nil j => intro k v d h; simp at h
  | @dat j _ _ _ _ _ hj h t ih =>
    intro k v d h1 h2 h3
    cases k with
    | zero => cases h1; cases h2; exact h
    | succ k => exact ih k v d (by simpa using h1) (by simpa using h2) (by rw [show j + 1 + k = j + (k + 1) by omega]; exact h3)
  | @own j _ _ _ _ _ _ hj hi h hd t ih =>
    intro k v d h1 h2 h3
    cases k with
    | zero => exact absurd (by simpa using hj) h3
    | succ k => exact ih k v d (by simpa using h1) (by simpa using h2) (by rw [show j + 1 + k = j + (k + 1) by omega]; exact h3)
theorem ArgR.owns {j : Nat} {vs : List V} {ds : List D} {os : List (Nat × Nat)} (h : ArgR K M io σ ρ R j vs ds os) : ∀ p i, (p, i) ∈ os → j ≤ p ∧ i ∈ M.oq ∧ p ∈ io ∧ ∃ v d, vs[p - j]? = some v ∧ ds[p - j]? = some d ∧ σ[i]? = some (some v) ∧ ρ[i]? = some (some d) := by
  induction h with
  | nil j => intro p i h; cases h
  | @dat j _ _ _ _ _ hj h t ih =>
    intro p i hp
    obtain ⟨h1, h2, h3, v, d, h4, h5, h6⟩ := ih p i hp
    refine ⟨by omega, h2, h3, v, d, ?_, ?_, h6⟩
    · rw [show p - j = (p - (j + 1)) + 1 by omega]; simpa using h4
    · rw [show p - j = (p - (j + 1)) + 1 by omega]; simpa using h5
  | @own j i' v' d' vs ds os hj hi h hd t ih =>
    intro p i hp
    rcases List.mem_cons.mp hp with hp | hp
    · cases hp
      refine ⟨Nat.le_refl _, hi, hj, v', d', ?_, ?_, h, hd⟩
      · rw [Nat.sub_self]; rfl
      · rw [Nat.sub_self]; rfl
    · obtain ⟨h1, h2, h3, v, d, h4, h5, h6⟩ := ih p i hp
      refine ⟨by omega, h2, h3, v, d, ?_, ?_, h6⟩
      · rw [show p - j = (p - (j + 1)) + 1 by omega]; simpa using h4
      · rw [show p - j = (p - (j + 1)) + 1 by omega]; simpa using h5
end
/-- the heap without these -/
def cutH (H : Hp) (fp : List Addr) : Hp := fun b => if fp.contains b = true then none else H b
theorem cutH_in {H : Hp} {fp : List Addr} {b : Addr} (h : b ∈ fp) : cutH H fp b = none := by
  unfold cutH
  rw [if_pos (List.contains_iff_mem.mpr h)]
theorem cutH_out {H : Hp} {fp : List Addr} {b : Addr} (h : b ∉ fp) : cutH H fp b = H b := by
  unfold cutH
  rw [if_neg (fun z => h (List.contains_iff_mem.mp z))]
theorem cutH_some {H : Hp} {fp : List Addr} {b : Addr} {o : HO} (h : cutH H fp b = some o) : H b = some o ∧ b ∉ fp := by
  by_cases c : b ∈ fp
  · rw [cutH_in c] at h
    cases h
  · rw [cutH_out c] at h
    exact ⟨h, c⟩
theorem setAll_get {os : List (Nat × Nat)} : ∀ {ρ ρ' : Rho} {ds : List D}, setAll ρ os ds = some ρ' → (os.map (·.2)).Nodup → ρ'.length = ρ.length ∧ ds.length = os.length ∧ (∀ i, i ∉ os.map (·.2) → ρ'[i]? = ρ[i]?) ∧
    ∀ (k p i : Nat) (d : D), os[k]? = some (p, i) → ds[k]? = some d → i < ρ.length → ρ'[i]? = some (some d) := by
  induction os with
  | nil =>
    intro ρ ρ' ds h _
    cases ds with
    | nil => cases h; exact ⟨rfl, rfl, fun _ _ => rfl, fun k p i d h => by simp at h⟩
    | cons _ _ => cases h
  | cons o os ih =>
    intro ρ ρ' ds h nd
    cases ds with
    | nil => cases h
    | cons d ds =>
      simp only [List.map_cons, List.nodup_cons] at nd
      obtain ⟨h1, h2, h3, h4⟩ := ih (ρ := ρ.set o.2 (some d)) h nd.2
      rw [List.length_set] at h1
      refine ⟨h1, by simp [h2], fun i hi => ?_, fun k p i d' e1 e2 hl => ?_⟩
      · simp only [List.map_cons, List.mem_cons, not_or] at hi
        rw [h3 i hi.2, List.getElem?_set_ne (fun z => hi.1 z.symm)]
      · cases k with
        | zero =>
          cases e1
          cases e2
          rw [h3 _ nd.1]
          exact List.getElem?_set_self hl
        | succ k => exact h4 k p i d' (by simpa using e1) (by simpa using e2) (by rw [List.length_set]; exact hl)
def pickF (os : List (Nat × Nat)) (G F : Nat → List Addr) (i : Nat) : List Addr := if (os.map (·.2)).contains i = true then G i else F i
theorem pickF_in {os : List (Nat × Nat)} {G F : Nat → List Addr} {i : Nat} (h : i ∈ os.map (·.2)) : pickF os G F i = G i := by
  unfold pickF
  rw [if_pos (List.contains_iff_mem.mpr h)]
theorem pickF_out {os : List (Nat × Nat)} {G F : Nat → List Addr} {i : Nat} (h : i ∉ os.map (·.2)) : pickF os G F i = F i := by
  unfold pickF
  rw [if_neg (fun z => h (List.contains_iff_mem.mp z))]
theorem tabS_cut {H : Hp} {fp : List Addr} {P : Addr} {q : Str} (n : ∀ b ∈ fp, ∀ o, H b = some o → NT o ∧ NC o) (t : LamX.TabS H P q) : LamX.TabS (cutH H fp) P q ∧ P ∉ fp := by
  obtain ⟨ps, h1, h2, h3⟩ := t
  have hP : P ∉ fp := fun z => (n P z _ h1).1 ps rfl
  refine ⟨⟨ps, by rw [cutH_out hP]; exact h1, h2, fun pos cv hc => ?_⟩, hP⟩
  obtain ⟨c, e1, e2⟩ := h3 pos cv hc
  exact ⟨c, e1, by rw [cutH_out fun z => (n c z _ e2).2 _ _ rfl]; exact e2⟩
/-- behind a call that changed some of what is own -/
theorem SR.outs {K : PySem.W.Frag} {M : Ow} {R0 H0 R H R' H' : Hp} {σ : L2.St} {ρ ρ' : Rho} {F G : Nat → List Addr} {os : List (Nat × Nat)} {ds : List D} (s : SR K M R0 H0 R H σ ρ)
    (hF1 : ∀ i ∈ M.oq, ∀ d, ρ[i]? = some (some d) → ∃ a, σ[i]? = some (some (.ref a)) ∧ OwnT K R H a d (F i) ∧ ∀ b ∈ F i, H0 b = none ∧ R b = none)
    (hF2 : ∀ i ∈ M.oq, ∀ j ∈ M.oq, i ≠ j → ∀ d e, ρ[i]? = some (some d) → ρ[j]? = some (some e) → ∀ b ∈ F i, b ∉ F j)
    (hF3 : ∀ i ∈ M.oq, ∀ j ∈ M.m, ∀ d e a, ρ[i]? = some (some d) → ρ[j]? = some (some e) → σ[j]? = some (some (.ref a)) → a ∉ F i)
    (hos : ∀ p i, (p, i) ∈ os → i ∈ M.oq ∧ ∃ d, ρ[i]? = some (some d)) (nd : (os.map (·.2)).Nodup) (x : Ext R (cutH H (os.flatMap fun p => F p.2)) R' H') (hset : setAll ρ os ds = some ρ')
    (hG1 : ∀ (k p i : Nat) (d : D), os[k]? = some (p, i) → ds[k]? = some d → ∃ a, σ[i]? = some (some (.ref a)) ∧ OwnT K R' H' a d (G i) ∧ ∀ b ∈ G i, cutH H (os.flatMap fun p => F p.2) b = none ∧ R' b = none)
    (hG2 : ∀ p i q j, (p, i) ∈ os → (q, j) ∈ os → i ≠ j → ∀ b ∈ G i, b ∉ G j) : SR K M R0 H0 R' H' σ ρ' := by
  obtain ⟨l1, l2, g1, g2⟩ := setAll_get hset nd
  have fpi : ∀ b, b ∈ (os.flatMap fun p => F p.2) ↔ ∃ p i, (p, i) ∈ os ∧ b ∈ F i := fun b => by
    rw [List.mem_flatMap]
    exact ⟨fun ⟨q, h1, h2⟩ => ⟨q.1, q.2, h1, h2⟩, fun ⟨p, i, h1, h2⟩ => ⟨(p, i), h1, h2⟩⟩
  have out0 : ∀ b, H0 b ≠ none → b ∉ (os.flatMap fun p => F p.2) := fun b h z => by
    obtain ⟨p, i, h1, h2⟩ := (fpi b).mp z
    obtain ⟨hi, d, hd⟩ := hos p i h1
    obtain ⟨a, _, _, e⟩ := hF1 i hi d hd
    exact h (e b h2).1
  have keep : ∀ b o, NT o → H b = some o → b ∉ (os.flatMap fun p => F p.2) → H' b = some o := fun b o nt h n => x.hh.at (by rw [cutH_out n]; exact h) nt
  have fpn : ∀ b ∈ (os.flatMap fun p => F p.2), ∀ o, H b = some o → NT o ∧ NC o := fun b hb o ho => by
    obtain ⟨p, i, h1, h2⟩ := (fpi b).mp hb
    obtain ⟨hi, d, hd⟩ := hos p i h1
    obtain ⟨a, _, e, _⟩ := hF1 i hi d hd
    exact ⟨e.nt h2 ho, e.nc h2 ho⟩
  have keepR : ∀ b, R b = none → H b ≠ none → b ∉ (os.flatMap fun p => F p.2) → R' b = none := fun b h1 h2 n => x.new b h1 (by rw [cutH_out n]; exact h2)
  have ioq : ∀ i, i ∈ os.map (·.2) → ∃ k p d, os[k]? = some (p, i) ∧ ds[k]? = some d ∧ (p, i) ∈ os := fun i hi => by
    obtain ⟨q, hq, e⟩ := List.mem_map.mp hi
    obtain ⟨k, hk, e2⟩ := List.mem_iff_getElem.mp hq
    refine ⟨k, q.1, ds[k], ?_, ?_, ?_⟩
    · rw [List.getElem?_eq_getElem hk, e2, ← e]
    · rw [List.getElem?_eq_getElem (by omega)]
    · rw [← e]; exact hq
  have lt : ∀ i d, ρ[i]? = some (some d) → i < ρ.length := fun i d h => (List.getElem?_eq_some_iff.mp h).1
  have notos : ∀ i, i ∈ M.m → i ∉ os.map (·.2) := fun i hi z => by
    obtain ⟨k, p, d, _, _, e⟩ := ioq i z
    exact (s.dis i (hos p i e).1).1 hi
  refine ⟨⟨⟨fun b o h nt => ?_, fun b h => x.hh.dm b (by rw [cutH_out (out0 b h)]; exact s.ext.hh.dm b h), fun p hp t => x.hh.tb p hp (tabS_cut fpn (s.ext.hh.tb p hp t)).1⟩, s.ext.rr.trans x.rr, x.sub, fun b h1 h2 => ?_⟩, by rw [l1]; exact s.len, fun i d h => ?_, fun i j a d e hij hi hj h1 h2 h3 h4 => ?_, ⟨pickF os G F, fun i hi d h => ?_, fun i hi j hj hij d e h1 h2 b hb => ?_, fun i hi j hj d e a h1 h2 h3 => ?_⟩, s.dis, s.pin, fun p hp => ⟨x.hh.tb p hp (tabS_cut fpn (s.tab p hp).1).1, keepR _ (s.tab p hp).2 (tab_dom (s.tab p hp).1) (tabS_cut fpn (s.tab p hp).1).2⟩⟩
  · exact keep b o nt (s.ext.hh.at h nt) (out0 b (by rw [h]; simp))
  · exact keepR b (s.ext.new b h1 h2) (s.ext.hh.dm b h2) (out0 b h2)
  · by_cases hi : i ∈ os.map (·.2)
    · obtain ⟨k, p, d', e1, e2, e3⟩ := ioq i hi
      obtain ⟨hq, d0, hd0⟩ := hos p i e3
      obtain ⟨a, q1, q2, q3⟩ := hG1 k p i d' e1 e2
      exact ⟨_, q1, fun n => absurd (Ow.of_oq hq) n, fun n => absurd n (s.dis i hq).1, fun n => absurd n (s.dis i hq).2⟩
    · rw [g1 i hi] at h
      obtain ⟨v, h1, h2, h3, h4⟩ := s.val i d h
      refine ⟨v, h1, fun n => (h2 n).mono x.rr, fun n => ?_, fun n => (h4 n).mono x.rr (SameN.refl _)⟩
      obtain ⟨a, rfl, z0, zr, o, ho, r⟩ := h3 n
      have na : a ∉ (os.flatMap fun p => F p.2) := fun z => by
        obtain ⟨p, j, j1, j2⟩ := (fpi a).mp z
        obtain ⟨hq, d0, hd0⟩ := hos p j j1
        exact hF3 j hq i n d0 d a hd0 h h1 j2
      exact ⟨a, rfl, z0, keepR a zr (by rw [ho]; simp) na, o, keep a o r.nt ho na, r.mono x.rr⟩
  · rw [g1 i (notos i hi)] at h1
    rw [g1 j (notos j hj)] at h2
    exact s.sep i j a d e hij hi hj h1 h2 h3 h4
  · by_cases hc : i ∈ os.map (·.2)
    · rw [pickF_in hc]
      obtain ⟨k, p, d', e1, e2, e3⟩ := ioq i hc
      obtain ⟨hq, d0, hd0⟩ := hos p i e3
      have := g2 k p i d' e1 e2 (lt i d0 hd0)
      rw [this] at h
      cases h
      obtain ⟨a, q1, q2, q3⟩ := hG1 k p i d e1 e2
      refine ⟨a, q1, q2, fun b hb => ⟨?_, (q3 b hb).2⟩⟩
      cases hh : H0 b with
      | none => rfl
      | some o =>
        have h1 := (q3 b hb).1
        rw [cutH_out (out0 b (by rw [hh]; simp))] at h1
        exact absurd h1 (s.ext.hh.dm b (by rw [hh]; simp))
    · rw [pickF_out hc]
      rw [g1 i hc] at h
      obtain ⟨a, e1, e2, e3⟩ := hF1 i hi d h
      have dom := e2.dom
      have nf : ∀ b ∈ F i, b ∉ (os.flatMap fun p => F p.2) := fun b hb z => by
        obtain ⟨p, j, j1, j2⟩ := (fpi b).mp z
        obtain ⟨hq, d0, hd0⟩ := hos p j j1
        exact hF2 i hi j hq (fun z => hc (z ▸ List.mem_map.mpr ⟨(p, j), j1, rfl⟩)) d d0 h hd0 b hb j2
      exact ⟨a, e1, e2.keep x.rr fun b hb o q => keep b o (e2.nt hb q) q (nf b hb), fun b hb => ⟨(e3 b hb).1, keepR b (e3 b hb).2 (dom b hb) (nf b hb)⟩⟩
  · have inF : ∀ k ∈ M.oq, k ∉ os.map (·.2) → ∀ d, ρ'[k]? = some (some d) → ∀ b ∈ F k, cutH H (os.flatMap fun p => F p.2) b ≠ none := fun k hk hc d h b hb => by
      rw [g1 k hc] at h
      obtain ⟨a, e1, e2, e3⟩ := hF1 k hk d h
      have nf : b ∉ (os.flatMap fun p => F p.2) := fun z => by
        obtain ⟨p, j, j1, j2⟩ := (fpi b).mp z
        obtain ⟨hq, d0, hd0⟩ := hos p j j1
        exact hF2 k hk j hq (fun z => hc (z ▸ List.mem_map.mpr ⟨(p, j), j1, rfl⟩)) d d0 h hd0 b hb j2
      rw [cutH_out nf]
      exact e2.dom b hb
    have inG : ∀ k, k ∈ os.map (·.2) → ∀ b ∈ G k, cutH H (os.flatMap fun p => F p.2) b = none := fun k hk b hb => by
      obtain ⟨n, p, d', e1, e2, e3⟩ := ioq k hk
      obtain ⟨a, q1, q2, q3⟩ := hG1 n p k d' e1 e2
      exact (q3 b hb).1
    by_cases ci : i ∈ os.map (·.2)
    · rw [pickF_in ci] at hb
      by_cases cj : j ∈ os.map (·.2)
      · rw [pickF_in cj]
        obtain ⟨_, p, _, _, _, e3⟩ := ioq i ci
        obtain ⟨_, q, _, _, _, e4⟩ := ioq j cj
        exact hG2 p i q j e3 e4 hij b hb
      · rw [pickF_out cj]
        exact fun z => inF j hj cj e h2 b z (inG i ci b hb)
    · rw [pickF_out ci] at hb
      by_cases cj : j ∈ os.map (·.2)
      · rw [pickF_in cj]
        exact fun z => inF i hi ci d h1 b hb (inG j cj b z)
      · rw [pickF_out cj]
        rw [g1 i ci] at h1
        rw [g1 j cj] at h2
        exact hF2 i hi j hj hij d e h1 h2 b hb
  · rw [g1 j (notos j hj)] at h2
    by_cases ci : i ∈ os.map (·.2)
    · rw [pickF_in ci]
      intro z
      obtain ⟨n, p, d', e1, e2, e3⟩ := ioq i ci
      obtain ⟨a', q1, q2, q3⟩ := hG1 n p i d' e1 e2
      have hn := (q3 a z).1
      obtain ⟨v, w1, _, w3, _⟩ := s.val j e h2
      rw [h3] at w1
      cases w1
      obtain ⟨b, eb, z0, zr, o, ho, r⟩ := w3 hj
      cases eb
      have na : a ∉ (os.flatMap fun p => F p.2) := fun z => by
        obtain ⟨p, k, j1, j2⟩ := (fpi a).mp z
        obtain ⟨hq, d0, hd0⟩ := hos p k j1
        exact hF3 k hq j hj d0 e a hd0 h2 h3 j2
      rw [cutH_out na, ho] at hn
      cases hn
    · rw [pickF_out ci]
      rw [g1 i ci] at h1
      exact hF3 i hi j hj d e a h1 h2 h3
end Ps
end
section
set_option maxHeartbeats 4000000
/-! PsEF: such expressions, and statements of them, are told rightly. -/
namespace Ps
open PySem PySem.Spec PyProof.Rows L2
variable [Tbs]
theorem find_fst {p i : Nat} : ∀ {os : List (Nat × Nat)}, (os.map (·.1)).Nodup → (p, i) ∈ os → os.find? (fun q => q.1 == p) = some (p, i)
  | [], _, h => by cases h
  | o :: os, nd, h => by
    simp only [List.map_cons, List.nodup_cons] at nd
    rcases List.mem_cons.mp h with h | h
    · subst h
      simp
    · have : (o.1 == p) = false := by
        simp only [beq_eq_false_iff_ne, ne_eq]
        exact fun z => nd.1 (z ▸ List.mem_map.mpr ⟨(p, i), h, rfl⟩)
      rw [List.find?_cons, this]
      exact find_fst nd.2 h
theorem find_snd {p i : Nat} : ∀ {os : List (Nat × Nat)}, (os.map (·.2)).Nodup → (p, i) ∈ os → os.find? (fun q => q.2 == i) = some (p, i)
  | [], _, h => by cases h
  | o :: os, nd, h => by
    simp only [List.map_cons, List.nodup_cons] at nd
    rcases List.mem_cons.mp h with h | h
    · subst h
      simp
    · have : (o.2 == i) = false := by
        simp only [beq_eq_false_iff_ne, ne_eq]
        exact fun z => nd.1 (z ▸ List.mem_map.mpr ⟨(p, i), h, rfl⟩)
      rw [List.find?_cons, this]
      exact find_snd nd.2 h
/-- a call that changes what some of its arguments hold: what the def asks -/
theorem io_ask {Φ : FEnv} {XR : XRel} {K : PySem.W.Frag} {M : Ow} {W : WX} {R0 H0 R H : Hp} {σ : L2.St} {ρ : Rho} {Q : VK} {key : String} {par : Nat} {md : List Bool} {io : List Nat} {vs : List V} {ds : List D} {os : List (Nat × Nat)} (XM : XMono XR)
    (s : SR K M R0 H0 R H σ ρ) (ha : ArgR K M io σ ρ R 0 vs ds os) (hf : os.map (·.1) = io) (n1 : (os.map (·.1)).Nodup) (n2 : (os.map (·.2)).Nodup) (hp : vs.length = par) (p : PostEE XR K M R0 H0 R (ioO ρ os (Φ key ds)) σ Q W) :
    spIo XR K Φ key par md io vs H Q (fun cls dx H' => W cls dx σ H') := by
  obtain ⟨F, hF1, hF2, hF3⟩ := s.own
  have ow := ha.owns
  have inos : ∀ j, j ∈ io → ∃ i, (j, i) ∈ os := fun j hj => by
    rw [← hf] at hj
    obtain ⟨q, hq, e⟩ := List.mem_map.mp hj
    exact ⟨q.2, by rw [← e]; exact hq⟩
  have hos : ∀ p i, (p, i) ∈ os → i ∈ M.oq ∧ ∃ d, ρ[i]? = some (some d) := fun p i h => by
    obtain ⟨_, h2, _, v, d, _, _, _, h6⟩ := ow p i h
    exact ⟨h2, d, h6⟩
  have fpn : ∀ b ∈ (os.flatMap fun p => F p.2), ∀ o, H b = some o → NT o ∧ NC o := fun b hb o ho => by
    obtain ⟨p, h1, h2⟩ := List.mem_flatMap.mp hb
    obtain ⟨hi, d, hd⟩ := hos p.1 p.2 h1
    obtain ⟨a, _, e, _⟩ := hF1 p.2 hi d hd
    exact ⟨e.nt h2 ho, e.nc h2 ho⟩
  have sl : ∀ p i, (p, i) ∈ os → F (((os.find? fun q => q.1 == p).map (·.2)).getD 0) = F i := fun p i h => by rw [find_fst n1 h]; rfl
  have lo : os.length = io.length := by rw [← hf, List.length_map]
  have outs : ∀ (R' H' : Hp) (ds' : List D) (ρ' : Rho), Ext R (cutH H (os.flatMap fun p => F p.2)) R' H' → OutsR K (cutH H (os.flatMap fun p => F p.2)) io vs R' H' ds' → setAll ρ os ds' = some ρ' → SR K M R0 H0 R' H' σ ρ' := fun R' H' ds' ρ' x o hset => by
    obtain ⟨hl, G, g1, g2⟩ := o
    have pr : ∀ p i, (p, i) ∈ os → ((os.find? fun q => q.2 == i).map (·.1)).getD 0 = p := fun p i h => by rw [find_snd n2 h]; rfl
    refine SR.outs (F := F) (G := fun i => G (((os.find? fun q => q.2 == i).map (·.1)).getD 0)) s hF1 hF2 hF3 hos n2 x hset (fun k p i d e1 e2 => ?_) fun p i q j h1 h2 hij b hb => ?_
    · have hm : (p, i) ∈ os := List.mem_of_getElem? e1
      obtain ⟨_, h2, h3, v, d0, h4, h5, h6, h7⟩ := ow p i hm
      have hk : io[k]? = some p := by rw [← hf, List.getElem?_map, e1]; rfl
      obtain ⟨a, q1, q2, q3⟩ := g1 k p d hk e2
      rw [Nat.sub_zero, q1] at h4
      cases h4
      rw [pr p i hm]
      exact ⟨a, h6, q2, q3⟩
    · rw [pr p i h1] at hb
      rw [pr q j h2]
      have hpq : p ≠ q := fun z => by
        subst z
        have e1 := find_fst n1 h1
        have e2 := find_fst n1 h2
        rw [e1] at e2
        cases e2
        exact hij rfl
      exact g2 p (by rw [← hf]; exact List.mem_map.mpr ⟨_, h1, rfl⟩) q (by rw [← hf]; exact List.mem_map.mpr ⟨_, h2, rfl⟩) hpq b hb
  refine ⟨R, cutH H (os.flatMap fun p => F p.2), ds, fun j => F (((os.find? fun q => q.1 == j).map (·.2)).getD 0), ⟨fun b o h => ?_, fun p hp => ⟨(tabS_cut fpn (s.tab p hp).1).1, (s.tab p hp).2⟩⟩, fun b o h => (cutH_some h).1, hp, by rw [← ha.length]; exact hp, fun j v d h1 h2 h3 => RepF.of (ha.dats j v d h1 h2 (by rw [Nat.zero_add]; exact h3)) _, fun j hj d hd => ?_, fun i hi j hj hij b hb => ?_, ?_⟩
  · rw [cutH_out]
    · exact s.sub b o h
    · intro z
      obtain ⟨q, hq, hb⟩ := List.mem_flatMap.mp z
      obtain ⟨q1, d, q2⟩ := hos q.1 q.2 hq
      obtain ⟨_, _, _, e⟩ := hF1 q.2 q1 d q2
      have := (e b hb).2
      rw [h] at this
      cases this
  · obtain ⟨i, hi⟩ := inos j hj
    obtain ⟨_, h2, h3, v, d0, h4, h5, h6, h7⟩ := ow j i hi
    rw [Nat.sub_zero] at h4 h5
    rw [hd] at h5
    cases h5
    obtain ⟨a, e1, e2, e3⟩ := hF1 i h2 d h7
    rw [h6] at e1
    cases e1
    simp only [sl j i hi]
    exact ⟨a, h4, e2, fun b hb => ⟨cutH_in (List.mem_flatMap.mpr ⟨(j, i), hi, hb⟩), (e3 b hb).2⟩⟩
  · obtain ⟨i', hi'⟩ := inos i hi
    obtain ⟨j', hj'⟩ := inos j hj
    simp only [sl i i' hi'] at hb
    simp only [sl j j' hj']
    obtain ⟨a1, d1, a2⟩ := hos i i' hi'
    obtain ⟨b1, d2, b2⟩ := hos j j' hj'
    have hne : i' ≠ j' := fun z => by
      subst z
      have e1 := find_snd n2 hi'
      have e2 := find_snd n2 hj'
      rw [e1] at e2
      cases e2
      exact hij rfl
    exact hF2 i' a1 j' b1 hne d1 d2 a2 b2 b hb
  · generalize Φ key ds = r at p ⊢
    unfold ioO at p
    cases r with
    | ok z =>
      cases z with
      | tup zs =>
        cases zs with
        | nil => exact p.elim
        | cons d ds' =>
          simp only at p
          cases hset : setAll ρ os ds' with
          | none => rw [hset] at p; exact p.elim
          | some ρ' =>
            rw [hset] at p
            exact fun v R' H' x r o => p v R' H' x.rr (outs R' H' ds' ρ' x o hset) r
      | _ => exact p.elim
    | exc c ps =>
      simp only at p
      rw [lo] at p
      cases hset : setAll ρ os (ps.take io.length) with
      | none => rw [hset] at p; exact p.elim
      | some ρ' =>
        rw [hset] at p
        intro cls dx R' H' x o xr
        obtain ⟨R2, h1, s2⟩ := (outs R' H' _ ρ' x o hset).weak (m' := []) (fun i hi => by cases hi)
        exact p cls dx R2 H' (x.rr.trans h1) s2 (XM _ _ _ _ _ _ _ h1 s2.sub xr)
    | stuck => exact p.elim
section
variable {Φ : FEnv} {XR : XRel} {M : Ow} {X : Cx} {W : WX} {T : Tab} {N : List Str} {sc : Scope}
theorem see_pu (S : SiteS T Φ XR N sc X W) {e : Expr} {c : CE} (h : SE Φ XR M X W true e c) : SEE Φ XR M X W e (.pu c) := by
  obtain ⟨t, pt, q⟩ := h
  refine ⟨t, pt, fun R0 H0 R H σ ρ Q s p => q R0 H0 R H σ ρ Q s ?_⟩
  simp only [eve] at p
  exact PostEE.pure S.mono s p
theorem sel_nil : SEL Φ XR M X W [] .nil := ⟨_, pa_nil, fun R0 H0 R H σ ρ Q s p => by
  simp only [eves] at p
  exact p [] [] R H rfl (Same.refl _) s .nil⟩
theorem sel_cons {e : Expr} {es : List Expr} {c : EE} {cs : EL} (h : SEE Φ XR M X W e c) (t : SEL Φ XR M X W es cs) (hs : starEach (e :: es) X.env = (false, eval e X.env) :: starEach es X.env) : SEL Φ XR M X W (e :: es) (.cons c cs) := by
  obtain ⟨te, pe, h⟩ := h
  obtain ⟨tr, pr, t⟩ := t
  refine ⟨_, pa_cons pe pr hs, fun R0 H0 R H σ ρ Q s p => ?_⟩
  simp only [eves] at p
  refine h R0 H0 R H σ ρ _ s (PostEE.firstL p fun x ρ1 vx R1 H1 e1 s1 r1 p1 => ?_)
  refine t R0 H0 R1 H1 σ ρ1 _ s1 (PostEL.first (Q := fun _ _ => True) p1 fun ds ρ2 vs R2 H2 e2 s2 r2 p2 => ?_)
  exact p2 (vx :: vs) (x :: ds) R2 H2 rfl (Same.refl _) s2 (.cons (r1.mono e2) r2)
theorem see_tup {es : List Expr} {cs : EL} {k : Nat} {pos : Pos} (h : SEL Φ XR M X W es cs) : SEE Φ XR M X W (.Tuple es k pos) (.tup cs) := by
  obtain ⟨t, pt, h⟩ := h
  refine ⟨_, pe_tup pt, fun R0 H0 R H σ ρ Q s p => ?_⟩
  simp only [eve] at p
  refine h R0 H0 R H σ ρ _ s (PostEL.firstE p fun ds ρ1 vs R1 H1 _ e1 s1 r1 p1 => ?_)
  by_cases hz : ds.length ≤ SZ
  · simp only [hz, if_true] at p1
    refine ⟨by rw [r1.length, ← SZ_line]; exact hz, fun a na => ?_⟩
    have x := Ext.laid (o := .tup vs) s1.sub na
    exact p1 _ _ _ x.rr (s1.later x) (.tup upd_same (r1.mono x.rr))
  · simp only [hz, if_false] at p1
    exact p1.elim
theorem see_call (S : SiteS T Φ XR N sc X W) {sg : Sig} {e : Expr} {es : List Expr} {cs : EL} {p pos : Pos} (hm : sg ∈ T.sigs) (hg : isG sc sg.name = true) (hdfl : sg.dfl = []) (hpar : (e :: es).length = sg.par) (hio : sg.io = []) (hcls : sg.cls = none) (h : SEL Φ XR M X W (e :: es) cs)
    (hl : ∀ ρ ds ρ1, eves Φ cs ρ = .rt (.tup ds) ρ1 → ds.length = (e :: es).length)
    (he : starEach (e :: es) X.env = (false, eval e X.env) :: starEach es X.env) (hpl : (backTo pos (starEach es X.env)).any (·.1) = false) : SEE Φ XR M X W (.Call (.Name sg.name p) (e :: es) [] pos) (.call sg.key cs) := by
  obtain ⟨t, pt, h⟩ := h
  obtain ⟨k, hr, hS⟩ := S.site.sigs
  have hr := hr.mono (Nat.le_succ k)
  obtain ⟨f, fd, ps, mf, kf, F, bnd⟩ := hS sg hm
  unfold AtF at mf
  rw [hcls] at mf
  unfold spS at F
  rw [if_pos hio] at F
  obtain ⟨dvs, ds, rv, rd, hb⟩ := bnd 0 (Nat.zero_le _)
  have ed : dvs = [] := by
    have := (rd (fun _ => none))
    rw [hdfl] at this
    cases this
    rfl
  subst ed
  obtain ⟨g1, g2, _⟩ := glob_ok S.site hg
  refine ⟨_, pe_callSD F hr g1 mf kf hb rv (fun σ => passAt S.site.takes σ) pt g2 he hpl, fun R0 H0 R H σ ρ Q s p => ?_⟩
  simp only [eve] at p
  refine h R0 H0 R H σ ρ _ s (PostEL.firstE p fun ds ρ1 vs R1 H1 ho e1 s1 r1 p1 => ?_)
  refine ⟨R1, ds, ⟨s1.sub, s1.tab⟩, by rw [List.append_nil]; exact r1.fulls, by rw [List.append_nil, r1.length, hl ρ ds ρ1 ho, hpar], ?_⟩
  exact PostEE.pure S.mono s1 p1
/-- arguments of a call that changes some of them -/
def SIO (Φ : FEnv) (XR : XRel) (M : Ow) (X : Cx) (W : WX) (io : List Nat) (j : Nat) (es : List Expr) (c : CL) (os : List (Nat × Nat)) : Prop :=
  ∃ t : TA, PA X es t ∧ ∀ R0 H0 R H σ ρ Q, SR X.K M R0 H0 R H σ ρ → PostE XR R H (fun R' _ vs ds => ArgR X.K M io σ ρ R' j vs ds os) (evs Φ c ρ) Q (fun cls dx H' => W cls dx σ H') → t σ H Q
theorem sio_nil {io : List Nat} {j : Nat} : SIO Φ XR M X W io j [] .nil [] := ⟨_, pa_nil, fun R0 H0 R H σ ρ Q s p => PostE.here s.sub p (.nil j)⟩
theorem sio_dat {io : List Nat} {j : Nat} {e : Expr} {es : List Expr} {c : CE} {cs : CL} {os : List (Nat × Nat)} (hj : j ∉ io) (h : SE Φ XR M X W true e c) (t : SIO Φ XR M X W io (j + 1) es cs os) (hs : starEach (e :: es) X.env = (false, eval e X.env) :: starEach es X.env) :
    SIO Φ XR M X W io j (e :: es) (.cons c cs) os := by
  obtain ⟨te, pe, h⟩ := h
  obtain ⟨tr, pr, t⟩ := t
  refine ⟨_, pa_cons pe pr hs, fun R0 H0 R H σ ρ Q s p => ?_⟩
  simp only [evs] at p
  refine h R0 H0 R H σ ρ _ s (p.first fun x vx R1 H1 e1 r1 p1 => ?_)
  refine t R0 H0 R1 H1 σ ρ _ (s.later e1) (p1.first fun xs vxs R2 H2 e2 r2 p2 => ?_)
  exact PostE.here e2.sub p2 (.dat hj (Rep.mono e2.rr _ _ r1) r2)
theorem sio_own {fnB : Str → Bool} (S : Site T Φ XR N sc fnB X W) {io : List Nat} {j i : Nat} {x : Str} {px : Pos} {es : List Expr} {cs : CL} {os : List (Nat × Nat)} (hj : j ∈ io) (hi : i ∈ M.oq) (hx : slotOf sc N x = some i) (t : SIO Φ XR M X W io (j + 1) es cs os) :
    SIO Φ XR M X W io j (.Name x px :: es) (.cons (.var i) cs) ((j, i) :: os) := by
  obtain ⟨tr, pr, t⟩ := t
  obtain ⟨h1, h2, h3, h4⟩ := slot_ok S hx
  refine ⟨_, pa_cons (pe_var h1 h2 h3 h4) pr (star_cons rfl), fun R0 H0 R H σ ρ Q s p => ?_⟩
  simp only [evs, ev] at p
  cases hv : getv ρ i with
  | exc _ _ => exact absurd hv getv_nx
  | stuck => rw [hv] at p; exact p.elim
  | ok d =>
    rw [hv] at p
    simp only [Res.bind_ok] at p
    have hd := getv_inv hv
    obtain ⟨v, e1, _⟩ := s.val i d hd
    refine ⟨v, e1, ?_⟩
    refine t R0 H0 R H σ ρ _ s (PostE.first p fun xs vxs R2 H2 e2 r2 p2 => ?_)
    exact PostE.here e2.sub p2 (.own hj hi e1 hd r2)
theorem trIO_ok (S : SiteS T Φ XR N sc X W) {sg : Sig} : ∀ {es : List Expr} {j : Nat} {os : List (Nat × Nat)} {cs : CL}, trIO T N sc M sg j es = some (os, cs) →
    SIO Φ XR M X W sg.io j es cs os ∧ (∀ ρ xs, evs Φ cs ρ = .ok xs → xs.length = es.length) ∧ ∀ e r, es = e :: r → starEach (e :: r) X.env = (false, eval e X.env) :: starEach r X.env ∧ ∀ pos, (backTo pos (starEach r X.env)).any (·.1) = false
  | [], j, os, cs, h => by
    simp only [trIO] at h
    cases h
    exact ⟨sio_nil, fun ρ xs h => by simp only [evs] at h; cases h; rfl, fun e r h => by cases h⟩
  | e :: es, j, os, cs, h => by
    have lens : ∀ {c : CE} {cs : CL}, (∀ ρ xs, evs Φ cs ρ = .ok xs → xs.length = es.length) → ∀ ρ xs, evs Φ (.cons c cs) ρ = .ok xs → xs.length = (e :: es).length := fun {c cs} h ρ xs hx => by
      simp only [evs] at hx
      cases h1 : ev Φ c ρ with
      | ok x =>
        rw [h1] at hx
        simp only [Res.bind_ok] at hx
        cases h2 : evs Φ cs ρ with
        | ok ys =>
          rw [h2] at hx
          cases hx
          simp [h ρ ys h2]
        | exc _ _ => rw [h2] at hx; cases hx
        | stuck => rw [h2] at hx; cases hx
      | exc _ _ => rw [h1] at hx; cases hx
      | stuck => rw [h1] at hx; cases hx
    have plain : ∀ {cs' : CL} {os' : List (Nat × Nat)} {j' : Nat}, trIO T N sc M sg j' es = some (os', cs') → ∀ pos, (backTo pos (starEach es X.env)).any (·.1) = false := fun {cs' os' j'} h pos => by
      cases es with
      | nil => rfl
      | cons a as =>
        obtain ⟨_, _, q⟩ := trIO_ok S h
        obtain ⟨q1, q2⟩ := q a as rfl
        rw [q1]
        show ((false, _) :: backTo pos (starEach as X.env)).any (·.1) = false
        rw [List.any_cons, q2]
        rfl
    have hst : notStar e = true ∨ False := by
      cases e <;> first | exact .inl rfl | (simp only [trIO] at h; cases h; done)
    have hst := hst.resolve_right id
    have h : (if sg.io.contains j = true then
      (match e with
      | .Name x _ => (slotOf sc N x).bind fun i => if M.oq.contains i = true then (trIO T N sc M sg (j + 1) es).bind fun r => some ((j, i) :: r.1, CL.cons (.var i) r.2) else none
      | _ => none)
    else (trE T N M EF sc true e).bind fun y => (trIO T N sc M sg (j + 1) es).bind fun r => some (r.1, CL.cons y r.2)) = some (os, cs) := by
      cases e <;> first | exact h | (cases hst; done)
    by_cases hj : sg.io.contains j = true
    · rw [if_pos hj] at h
      cases e with
      | Name x px =>
        simp only at h
        obtain ⟨i, hx, h⟩ := obind h
        obtain ⟨hi, h⟩ := oif h
        obtain ⟨r, hr, h⟩ := obind h
        cases h
        obtain ⟨a, b, c⟩ := trIO_ok S hr
        refine ⟨sio_own S.site (List.contains_iff_mem.mp hj) (List.contains_iff_mem.mp hi) hx a, lens b, fun e' r' q => ?_⟩
        cases q
        exact ⟨star_cons hst, plain hr⟩
      | _ => cases h
    · rw [if_neg hj] at h
      obtain ⟨y, hy, h⟩ := obind h
      obtain ⟨r, hr, h⟩ := obind h
      cases h
      obtain ⟨a, b, c⟩ := trIO_ok S hr
      refine ⟨sio_dat (fun z => hj (List.contains_iff_mem.mpr z)) ((all EF).e S.site hy) a (star_cons hst), lens b, fun e' r' q => ?_⟩
      cases q
      exact ⟨star_cons hst, plain hr⟩
end
end Ps
end
section
set_option maxHeartbeats 4000000
/-! PsEG: calls that change objects; statements of such expressions. -/
namespace Ps
open PySem PySem.Spec PyProof.Rows L2
variable [Tbs]
section
variable {XR : XRel} {K : PySem.W.Frag} {M : Ow} {R0 H0 R R1 H : Hp} {o : Out} {σ : L2.St} {ρ : Rho} {Q : VK} {W : WX}
theorem PostEE.out {α β : Type} {rep : Hp → Hp → β → α → Prop} {r : Res α} {f : α → Out} {Q : β → Hp → Prop} {Q' : VK} (XM : XMono XR) (sr : SR K M R0 H0 R H σ ρ) (p : PostEE XR K M R0 H0 R (r.out ρ f) σ Q' W)
    (k : ∀ a b R1 H1, r = .ok a → Ext R H R1 H1 → rep R1 H1 b a → PostEE XR K M R0 H0 R1 (f a) σ Q' W → Q b H1) : PostE XR R H rep r Q (fun cls dx H' => W cls dx σ H') := by
  cases r with
  | ok a => exact fun b R' H' e y => k a b R' H' rfl e y (PostEE.later p e.rr)
  | exc c ps =>
    intro cls dx R' H' e x
    obtain ⟨R2, h1, s2⟩ := (sr.later e).weak (m' := []) (fun i hi => by cases hi)
    exact p cls dx R2 H' (e.rr.trans h1) s2 (XM _ _ _ _ _ _ _ h1 s2.sub x)
  | stuck => exact p
theorem PostS.firstEE {m h : List Nat} {f : Ps.D → Rho → Out} {D : Ends} (p : PostS XR K m h M R0 H0 R (o.thn f) D W)
    (k : ∀ d ρ1 v R1 H1, Same R R1 → SR K M R0 H0 R1 H1 σ ρ1 → Rep K R1 v d → PostS XR K m h M R0 H0 R1 (f d ρ1) D W → Q v H1) : PostEE XR K M R0 H0 R o σ Q W := by
  cases o with
  | rt d ρ => exact fun v R' H' e s r => k d ρ v R' H' e s r (PostS.later p e)
  | exc c ps ρ => exact fun cls dx R' H' e s x => p cls dx σ R' H' e s x
  | _ => exact p
/-- an own object changes, within its part of the heap -/
theorem SR.mutO {H' : Hp} {i : Nat} {a : Addr} {d0 d1 : D} {fp : List Addr} {F : Nat → List Addr} (s : SR K M R0 H0 R H σ ρ)
    (hF1 : ∀ i ∈ M.oq, ∀ d, ρ[i]? = some (some d) → ∃ a, σ[i]? = some (some (.ref a)) ∧ OwnT K R H a d (F i) ∧ ∀ b ∈ F i, H0 b = none ∧ R b = none)
    (hF2 : ∀ i ∈ M.oq, ∀ j ∈ M.oq, i ≠ j → ∀ d e, ρ[i]? = some (some d) → ρ[j]? = some (some e) → ∀ b ∈ F i, b ∉ F j)
    (hF3 : ∀ i ∈ M.oq, ∀ j ∈ M.m, ∀ d e a, ρ[i]? = some (some d) → ρ[j]? = some (some e) → σ[j]? = some (some (.ref a)) → a ∉ F i)
    (hi : i ∈ M.oq) (hd : ρ[i]? = some (some d0)) (hσ : σ[i]? = some (some (.ref a))) (hH : ∀ b, b ∉ F i → H' b = H b) (ow : OwnT K R H' a d1 fp) (sub : ∀ b ∈ fp, b ∈ F i) : SR K M R0 H0 R H' σ (ρ.set i (some d1)) := by
  obtain ⟨a0, _, _, e3⟩ := hF1 i hi d0 hd
  have fm : ([(0, i)] : List (Nat × Nat)).flatMap (fun p => F p.2) = F i := by simp
  refine SR.outs (F := F) (G := fun _ => fp) (os := [(0, i)]) (ds := [d1]) s hF1 hF2 hF3 (fun p j h => ?_) (by simp) ⟨.of fun b o h => ?_, Same.refl _, fun b o h => ?_, fun b h _ => h⟩ rfl (fun k p j d e1 e2 => ?_) fun p j q j' h1 h2 hne => ?_
  · cases List.mem_singleton.mp h
    exact ⟨hi, d0, hd⟩
  · rw [fm] at h
    obtain ⟨q1, q2⟩ := cutH_some h
    rw [hH b q2]
    exact q1
  · have nb : b ∉ F i := fun z => by
      have := (e3 b z).2
      rw [h] at this
      cases this
    rw [hH b nb]
    exact s.sub b o h
  · cases k with
    | zero =>
      cases e1
      cases e2
      exact ⟨a, hσ, ow, fun b hb => ⟨by rw [fm]; exact cutH_in (sub b hb), (e3 b (sub b hb)).2⟩⟩
    | succ k => simp at e1
  · cases List.mem_singleton.mp h1
    cases List.mem_singleton.mp h2
    exact absurd rfl hne
/-- a new object -/
theorem SR.setO {R' H' : Hp} {i : Nat} {a : Addr} {d : D} {fp : List Addr} (s : SR K M R0 H0 R H σ ρ) (e : Ext R H R' H') (hi : i ∈ M.o) (hq : i ∉ M.q) (ow : OwnT K R' H' a d fp) (hfp : ∀ b ∈ fp, H b = none ∧ R' b = none) :
    SR K M R0 H0 R' H' (σ.set i (some (.ref a))) (ρ.set i (some d)) := by
  have ioq : i ∈ M.oq := List.mem_append_left _ hi
  obtain ⟨nm, ns⟩ := s.dis i ioq
  obtain ⟨F, h1, h2, h3⟩ := s.own
  have s1 := s.later e
  refine ⟨s1.ext, by rw [List.length_set, List.length_set, s1.len], fun j d' h => ?_, fun j k b d' e' hjk hj hk q1 q2 q3 q4 => ?_, ⟨fun j => if j = i then fp else F j, fun j hj d' h => ?_, fun j hj k hk hjk d' e' q1 q2 b hb => ?_, fun j hj k hk d' e' b q1 q2 q3 => ?_⟩, s.dis, fun j hj => ?_, s1.tab⟩
  · by_cases hj : i = j
    · subst hj
      by_cases hl : i < ρ.length
      · rw [List.getElem?_set_self hl] at h
        cases h
        exact ⟨_, List.getElem?_set_self (by rw [s.len]; exact hl), fun n => absurd (Ow.of_oq ioq) n, fun n => absurd n nm, fun n => absurd n ns⟩
      · rw [List.getElem?_eq_none (by rw [List.length_set]; omega)] at h
        cases h
    · rw [List.getElem?_set_ne hj] at h
      rw [List.getElem?_set_ne hj]
      exact s1.val j d' h
  · have nj : i ≠ j := fun z => nm (z ▸ hj)
    have nk : i ≠ k := fun z => nm (z ▸ hk)
    rw [List.getElem?_set_ne nj] at q1 q3
    rw [List.getElem?_set_ne nk] at q2 q4
    exact s1.sep j k b d' e' hjk hj hk q1 q2 q3 q4
  · by_cases hji : j = i
    · subst hji
      simp only [if_true]
      by_cases hl : j < ρ.length
      · rw [List.getElem?_set_self hl] at h
        cases h
        refine ⟨a, List.getElem?_set_self (by rw [s.len]; exact hl), ow, fun b hb => ⟨?_, (hfp b hb).2⟩⟩
        exact s.ext.hh.free (hfp b hb).1
      · rw [List.getElem?_eq_none (by rw [List.length_set]; omega)] at h
        cases h
    · simp only [hji, if_false]
      rw [List.getElem?_set_ne (fun z => hji z.symm)] at h ⊢
      obtain ⟨b, e1, e2, e3⟩ := h1 j hj d' h
      have dom := e2.dom
      exact ⟨b, e1, e2.mono e.rr e.hh, fun x hx => ⟨(e3 x hx).1, e.new x (e3 x hx).2 (dom x hx)⟩⟩
  · have dom : ∀ k ∈ M.oq, k ≠ i → ∀ d', (ρ.set i (some d))[k]? = some (some d') → ∀ b ∈ F k, H b ≠ none := fun k hk hki d' h b hb => by
      rw [List.getElem?_set_ne (fun z => hki z.symm)] at h
      obtain ⟨_, _, e2, _⟩ := h1 k hk d' h
      exact e2.dom b hb
    by_cases hji : j = i
    · have hki : k ≠ i := fun z => hjk (by rw [hji, z])
      simp only [hji, if_true] at hb
      simp only [hki, if_false]
      exact fun z => dom k hk hki e' q2 b z (hfp b hb).1
    · simp only [hji, if_false] at hb
      by_cases hki : k = i
      · simp only [hki, if_true]
        exact fun z => dom j hj hji d' q1 b hb (hfp b z).1
      · simp only [hki, if_false]
        rw [List.getElem?_set_ne (fun z => hji z.symm)] at q1
        rw [List.getElem?_set_ne (fun z => hki z.symm)] at q2
        exact h2 j hj k hk hjk d' e' q1 q2 b hb
  · have nk : i ≠ k := fun z => nm (z ▸ hk)
    rw [List.getElem?_set_ne nk] at q2 q3
    by_cases hji : j = i
    · simp only [hji, if_true]
      intro z
      obtain ⟨v, w1, _, w3, _⟩ := s.val k e' q2
      rw [q3] at w1
      cases w1
      obtain ⟨b', eb, _, _, o, ho, _⟩ := w3 hk
      cases eb
      rw [(hfp b z).1] at ho
      cases ho
    · simp only [hji, if_false]
      rw [List.getElem?_set_ne (fun z => hji z.symm)] at q1
      exact h3 j hj k hk d' e' b q1 q2 q3
  · have nj : i ≠ j := fun z => hq (z ▸ hj)
    rw [List.getElem?_set_ne nj]
    exact s.pin j hj
end
section
variable {Φ : FEnv} {XR : XRel} {M : Ow} {X : Cx} {W : WX} {T : Tab} {N : List Str} {sc : Scope}
theorem ioOf_ok {w : Option (Nat × String × String)} {sg : Sig} {args : List Expr} {c : EE} (h : ioOf T N sc M w sg args = some c) :
    sg.io ≠ [] ∧ sg.dfl = [] ∧ args.length = sg.par ∧ ∃ os cs, trIO T N sc M sg 0 args = some (os, cs) ∧ os.map (·.1) = sg.io ∧ (os.map (·.1)).Nodup ∧ (os.map (·.2)).Nodup ∧ c = .io w sg.key os cs := by
  unfold ioOf at h
  obtain ⟨⟨h1, h2, h3⟩, h⟩ := oif h
  obtain ⟨r, hr, h⟩ := obind h
  obtain ⟨⟨h4, h5, h6⟩, h⟩ := oif h
  cases h
  exact ⟨h1, h2, h3, r.1, r.2, hr, h4, h5, h6, rfl⟩
theorem dvs_nil {dfl : List D} {dvs : List V} (h : ∀ R, Reps X.K R dvs (dfl.drop 0)) (e : dfl = []) : dvs = [] := by
  have := h (fun _ => none)
  rw [e] at this
  cases this
  rfl
/-- f(..) -/
theorem see_ioP (S : SiteS T Φ XR N sc X W) {sg : Sig} {e : Expr} {es : List Expr} {c : EE} {p pos : Pos} (hm : sg ∈ T.sigs) (hg : isG sc sg.name = true) (hcls : sg.cls = none) (h : ioOf T N sc M none sg (e :: es) = some c) : SEE Φ XR M X W (.Call (.Name sg.name p) (e :: es) [] pos) c := by
  obtain ⟨hio, hdfl, hpar, os, cs, hr, hf, n1, n2, rfl⟩ := ioOf_ok h
  obtain ⟨⟨t, pt, q⟩, hl, hst⟩ := trIO_ok S hr
  obtain ⟨he, hpl⟩ := hst e es rfl
  obtain ⟨k, hr', hS⟩ := S.site.sigs
  have hr' := hr'.mono (Nat.le_succ k)
  obtain ⟨f, fd, ps, mf, kf, F, bnd⟩ := hS sg hm
  unfold AtF at mf
  rw [hcls] at mf
  unfold spS at F
  rw [if_neg hio] at F
  obtain ⟨dvs, ds, rv, rd, hb⟩ := bnd 0 (Nat.zero_le _)
  have ed := dvs_nil (X := X) rd hdfl
  subst ed
  obtain ⟨g1, g2, _⟩ := glob_ok S.site hg
  refine ⟨_, pe_callSD F hr' g1 mf kf hb rv (fun σ => passAt S.site.takes σ) pt g2 he (hpl pos), fun R0 H0 R H σ ρ Q s p => ?_⟩
  simp only [eve, ioM, if_true] at p
  refine q R0 H0 R H σ ρ _ s (PostEE.out S.mono s p fun xs vs R1 H1 hx e1 r1 p1 => ?_)
  have lv : vs.length = sg.par := by rw [r1.length, hl ρ xs hx, hpar]
  exact io_ask S.mono (s.later e1) (by rw [List.append_nil]; exact r1) hf n1 n2 (by rw [List.append_nil]; exact lv) p1
/-- o.m(..) -/
theorem see_ioM (S : SiteS T Φ XR N sc X W) {sg : Sig} {x m : Str} {i : Nat} {k : ClsT} {as : List Expr} {c : EE} {px ap pos : Pos} (hm : methOf T sc N M (.Name x px) m = some (i, k, sg)) (hline : (ap.endLine == pos.line) = true) (hn20 : as.length < 20) (h0 : sg.io.headD 1 = 0)
    (h : ioOf T N sc M (some (i, k.key, sg.mth)) sg (.Name x px :: as) = some c) : SEE Φ XR M X W (.Call (.Attribute (.Name x px) m ap) as [] pos) c := by
  obtain ⟨hio, hdfl, hpar, os, cs, hr, hf, n1, n2, rfl⟩ := ioOf_ok h
  obtain ⟨x', p', n, lv, f, fd, ps, ds, e0, hs, hk, hmth, hn, cl, mf, hr', F, hb, rv⟩ := meth_at S.site hm hdfl
  cases e0
  unfold spS at F
  rw [if_neg hio] at F
  have i0 : sg.io.contains 0 = true := by
    cases e : sg.io with
    | nil => exact absurd e hio
    | cons a l =>
      rw [e] at h0
      have : a = 0 := h0
      rw [this]
      simp
  simp only [trIO, i0, if_true] at hr
  obtain ⟨i', hi', hr⟩ := obind hr
  rw [hs] at hi'
  cases hi'
  obtain ⟨hoq, hr1⟩ := oif hr
  obtain ⟨⟨os1, cs1⟩, hr2, hc⟩ := obind hr1
  cases hc
  have hoq := List.contains_iff_mem.mp hoq
  obtain ⟨⟨t, pt, q⟩, hl, hst⟩ := trIO_ok S hr2
  obtain ⟨h1, h2, h3, h4⟩ := slot_ok S.site hs
  have pl : (backTo pos (starEach as X.env)).any (·.1) = false := by
    cases as with
    | nil => rfl
    | cons a as' =>
      obtain ⟨q1, q2⟩ := hst a as' rfl
      rw [q1]
      show ((false, _) :: backTo pos (starEach as' X.env)).any (·.1) = false
      rw [List.any_cons, q2]
      rfl
  have reading : ∀ R0 H0 R H σ ρ Q, SR X.K M R0 H0 R H σ ρ → PostEE XR X.K M R0 H0 R (eve Φ (.io (some (i, k.key, sg.mth)) sg.key ((0, i) :: os1) (.cons (.var i) cs1)) ρ) σ Q W →
      ∃ v a dx fs, σ[i]? = some (some v) ∧ v = .ref a ∧ H a = some (.ins (He.ga X.K (Str.ofString k.key)) dx fs) ∧ fs.lookup m = none ∧
        PostE XR R H (fun R' _ vs ds => ArgR X.K M sg.io σ ρ R' 1 vs ds os1) (evs Φ cs1 ρ) (fun vs H2 => spIo XR X.K Φ sg.key sg.par sg.md sg.io (v :: (vs ++ [])) H2 Q (WE W σ)) (fun cls dx H' => W cls dx σ H') := by
    intro R0 H0 R H σ ρ Q s p
    simp only [eve] at p
    have c0 : ioM ρ (some (i, k.key, sg.mth)) = true := by
      by_cases c : ioM ρ (some (i, k.key, sg.mth)) = true
      · exact c
      · rw [if_neg c] at p
        exact p.elim
    rw [if_pos c0] at p
    unfold ioM at c0
    simp only at c0
    split at c0
    · rename_i d hd
      obtain ⟨gs, rfl, hl0⟩ := obM_inv c0
      obtain ⟨v, e1, _⟩ := s.val i _ hd
      obtain ⟨FF, hF1, _, _⟩ := s.own
      obtain ⟨a, e2, ow, _⟩ := hF1 i hoq _ hd
      rw [e1] at e2
      cases e2
      obtain ⟨dx, fs, fq, _, ha, hdx, fr⟩ := ow.obj_inv
      refine ⟨_, a, dx, fs, e1, rfl, ha, ?_, ?_⟩
      · have := (fr.get sg.mth).1 hl0
        rw [hmth, hn] at this
        exact this
      · have gv : getv ρ i = .ok (.obj k.key gs) := by unfold getv; rw [hd]
        simp only [evs, ev, gv, Res.bind_ok] at p
        generalize hx : evs Φ cs1 ρ = z at p ⊢
        have p2 : PostEE XR X.K M R0 H0 R (z.out ρ fun xs => ioO ρ ((0, i) :: os1) (Φ sg.key (.obj k.key gs :: xs))) σ Q W := by
          cases z <;> exact p
        refine PostEE.out S.mono s p2 fun xs vs R1 H1 hz x1 r1 p1 => ?_
        subst hz
        have lv : (V.ref a :: vs).length = sg.par := by
          rw [List.length_cons, r1.length, hl ρ xs hx, ← hpar]
          rfl
        rw [List.append_nil]
        exact io_ask S.mono (s.later x1) (.own (List.contains_iff_mem.mp i0) hoq e1 hd r1) hf n1 n2 lv p1
    · cases c0
  cases as with
  | nil =>
    refine ⟨_, pe_methSD0 (pe_var h1 h2 h3 h4) cl mf F hr' hb rv (fun σ => passAt S.site.takes σ) (meth_eval hline hn20 pl), fun R0 H0 R H σ ρ Q s p => ?_⟩
    obtain ⟨v, a, dx, fs, q1, q2, q3, q4, q5⟩ := reading R0 H0 R H σ ρ Q s p
    refine ⟨v, q1, a, dx, fs, q2, q3, q4, ?_⟩
    simp only [trIO] at hr2
    cases hr2
    simp only [evs] at q5
    exact PostE.here s.sub q5 (.nil 1)
  | cons a as' =>
    obtain ⟨q1, q2⟩ := hst a as' rfl
    refine ⟨_, pe_methSD (pe_var h1 h2 h3 h4) cl mf F hr' hb rv (fun σ => passAt S.site.takes σ) pt q1 (q2 pos) (meth_eval hline hn20 pl), fun R0 H0 R H σ ρ Q s p => ?_⟩
    obtain ⟨v, a, dx, fs, q1, q2, q3, q4, q5⟩ := reading R0 H0 R H σ ρ Q s p
    exact ⟨v, q1, a, dx, fs, q2, q3, q4, q R0 H0 R H σ ρ _ s q5⟩
end
end Ps
end
section
set_option maxHeartbeats 4000000
/-! PsEH: every such expression, every such statement that is told is told rightly. -/
namespace Ps
open PySem PySem.Spec PyProof.Rows L2
variable [Tbs]
section
variable {Φ : FEnv} {XR : XRel} {M : Ow} {X : Cx} {W : WX} {T : Tab} {N : List Str} {sc : Scope}
structure AllEE (T : Tab) (N : List Str) (M : Ow) (Φ : FEnv) (XR : XRel) (n : Nat) : Prop where
  e : ∀ {X : Cx} {W : WX} {sc e c}, SiteS T Φ XR N sc X W → trEE T N M n sc e = some c → SEE Φ XR M X W e c
  l : ∀ {X : Cx} {W : WX} {sc es c}, SiteS T Φ XR N sc X W → trEL T N M n sc es = some c → SEL Φ XR M X W es c
theorem trEE_star {n : Nat} {e : Expr} {c : EE} (h : trEE T N M n sc e = some c) : notStar e = true := by
  cases n with
  | zero => simp only [trEE] at h; cases h
  | succ n =>
    simp only [trEE] at h
    split at h
    · rename_i y hy
      exact trE_star hy
    · cases e <;> first | rfl | (cases h; done)
theorem trEL_len : ∀ (n : Nat) {es : List Expr} {cs : EL}, trEL T N M n sc es = some cs → ∀ ρ ds ρ1, eves Φ cs ρ = .rt (.tup ds) ρ1 → ds.length = es.length
  | 0, _, _, h => by simp only [trEL] at h; cases h
  | n + 1, [], cs, h => fun ρ ds ρ1 hx => by
    simp only [trEL] at h
    cases h
    simp only [eves] at hx
    cases hx
    rfl
  | n + 1, e :: es, cs, h => fun ρ ds ρ1 hx => by
    have h : ((trEE T N M n sc e).bind fun x => (trEL T N M n sc es).bind fun xs => some (EL.cons x xs)) = some cs := by
      cases e <;> first | exact h | (simp only [trEL] at h; first | exact h | cases h)
    obtain ⟨x, h1, h⟩ := obind h
    obtain ⟨xs, h2, h⟩ := obind h
    cases h
    simp only [eves] at hx
    cases hv : eve Φ x ρ with
    | rt v ρ2 =>
      rw [hv] at hx
      simp only [Out.thn_rt] at hx
      cases hw : eves Φ xs ρ2 with
      | rt d ρ3 =>
        rw [hw] at hx
        simp only [Out.thn_rt] at hx
        cases d with
        | tup ys =>
          cases hx
          rw [List.length_cons, List.length_cons, trEL_len n h2 ρ2 ys _ hw]
        | _ => cases hx
      | _ => rw [hw] at hx; cases hx
    | _ => rw [hv] at hx; cases hx
theorem trEL_plain : ∀ (n : Nat) {es : List Expr} {cs : EL}, trEL T N M n sc es = some cs → ∀ (env : PySem.Env) (pos : Pos), (backTo pos (starEach es env)).any (·.1) = false
  | 0, _, _, h => by simp only [trEL] at h; cases h
  | n + 1, [], cs, h => fun env pos => rfl
  | n + 1, e :: es, cs, h => fun env pos => by
    have h : ((trEE T N M n sc e).bind fun x => (trEL T N M n sc es).bind fun xs => some (EL.cons x xs)) = some cs := by
      cases e <;> first | exact h | (simp only [trEL] at h; first | exact h | cases h)
    obtain ⟨x, h1, h⟩ := obind h
    obtain ⟨xs', h2, h⟩ := obind h
    rw [star_cons (trEE_star h1)]
    show ((false, _) :: backTo pos (starEach es env)).any (·.1) = false
    rw [List.any_cons, trEL_plain n h2 env pos]
    rfl
theorem all_ee1 {n : Nat} (A : AllEE T N M Φ XR n) (S : SiteS T Φ XR N sc X W) {e : Expr} {c : EE} (h : trEE T N M (n + 1) sc e = some c) : SEE Φ XR M X W e c := by
  simp only [trEE] at h
  split at h
  · rename_i y hy
    cases h
    exact see_pu S ((all EF).e S.site hy)
  · split at h
    · obtain ⟨xs, hx, h⟩ := obind h
      cases h
      exact see_tup (A.l S hx)
    · rename_i g gp a as pos _
      obtain ⟨hg, h1⟩ := oif h
      obtain ⟨s, hs, h2⟩ := obind h1
      obtain ⟨hc, h3⟩ := oif h2
      have hm := List.mem_of_find?_eq_some hs
      have hq := List.find?_some hs
      simp only [decide_eq_true_eq] at hq
      subst hq
      by_cases hio : s.io = []
      · rw [if_pos hio] at h3
        obtain ⟨⟨hd, hl⟩, h4⟩ := oif h3
        obtain ⟨xs, hx, h5⟩ := obind h4
        cases h5
        have st : starEach (a :: as) X.env = (false, eval a X.env) :: starEach as X.env ∧ (backTo pos (starEach as X.env)).any (·.1) = false := by
          cases n with
          | zero => simp only [trEL] at hx; cases hx
          | succ m =>
            have hx : ((trEE T N M m sc a).bind fun x => (trEL T N M m sc as).bind fun xs => some (EL.cons x xs)) = some xs := by
              cases a <;> first | exact hx | (simp only [trEL] at hx; first | exact hx | cases hx)
            obtain ⟨y, q1, hx⟩ := obind hx
            obtain ⟨ys, q2, hx⟩ := obind hx
            exact ⟨star_cons (trEE_star q1), trEL_plain m q2 _ _⟩
        exact see_call S hm hg hd hl hio hc (A.l S hx) (fun ρ ds ρ1 => trEL_len n hx ρ ds ρ1) st.1 st.2
      · rw [if_neg hio] at h3
        exact see_ioP S hm hg hc h3
    · rename_i x p m ap as pos _
      obtain ⟨q, hq, h1⟩ := obind h
      obtain ⟨i, k, sg⟩ := q
      obtain ⟨⟨a, b, c0⟩, h2⟩ := oif h1
      exact see_ioM S hq a b c0 h2
    · cases h
theorem all_el1 {n : Nat} (A : AllEE T N M Φ XR n) (S : SiteS T Φ XR N sc X W) {es : List Expr} {c : EL} (h : trEL T N M (n + 1) sc es = some c) : SEL Φ XR M X W es c := by
  cases es with
  | nil =>
    simp only [trEL] at h
    cases h
    exact sel_nil
  | cons e r =>
    have h : ((trEE T N M n sc e).bind fun x => (trEL T N M n sc r).bind fun xs => some (EL.cons x xs)) = some c := by
      cases e <;> first | exact h | (simp only [trEL] at h; first | exact h | cases h)
    obtain ⟨x, h1, h⟩ := obind h
    obtain ⟨xs, h2, h⟩ := obind h
    cases h
    exact sel_cons (A.e S h1) (A.l S h2) (star_cons (trEE_star h1))
theorem all_ee : ∀ n, AllEE T N M Φ XR n
  | 0 => ⟨fun S h => (by simp only [trEE] at h; cases h), fun S h => (by simp only [trEL] at h; cases h)⟩
  | n + 1 => ⟨fun S h => all_ee1 (all_ee n) S h, fun S h => all_el1 (all_ee n) S h⟩
/-! ### statements -/
theorem ss_expE (S : SiteS T Φ XR N sc X W) {h : List Nat} {e : Expr} {y : EE} {pos : Pos} (he : SEE Φ XR M X W e y) (hn : notComp e = true) : SSt Φ XR M M.m h X W (.Expr e pos) (.expE y) := by
  obtain ⟨t, pe, q⟩ := he
  refine ⟨_, ps_expr pe (notComp_sw hn), fun R0 H0 R H σ ρ D sr p => ?_⟩
  exact q R0 H0 R H σ ρ _ sr (PostS.firstEE p fun d ρ1 v R1 H1 e1 s1 r1 p1 => p1 σ R1 H1 (Same.refl _) s1)
theorem ss_retE (S : SiteS T Φ XR N sc X W) {m h : List Nat} {e : Expr} {y : EE} {pos : Pos} (he : SEE Φ XR M X W e y) : SSt Φ XR M m h X W (.Return (some e) pos) (.retE y) := by
  obtain ⟨t, pe, q⟩ := he
  refine ⟨_, ps_ret pe, fun R0 H0 R H σ ρ D sr p => ?_⟩
  refine q R0 H0 R H σ ρ _ sr (PostS.firstEE p fun d ρ1 v R1 H1 e1 s1 r1 p1 => ?_)
  obtain ⟨R2, h1, s2⟩ := s1.weak (m' := []) (fun i hi => by cases hi)
  exact p1 v σ R2 H1 h1 s2 (Rep.mono h1 _ _ r1)
theorem ss_asgE (S : SiteS T Φ XR N sc X W) {h : List Nat} {x : Str} {i : Nat} {e : Expr} {y : EE} {p0 pos : Pos} (he : SEE Φ XR M X W e y) (hx : locOf sc (fun _ => true) N M x = some i) (hn : notComp e = true) :
    SSt Φ XR M M.m h X W (.Assign [.Name x p0] e pos) (.asgE (.nm i) y) := by
  obtain ⟨t, pe, q⟩ := he
  obtain ⟨q1, q2, q3, q4⟩ := loc_ok S.site hx
  refine ⟨_, ps_set (by rw [S.site.nE]; exact S.site.nd) q1 q2 pe (notComp_sw hn) q3, fun R0 H0 R H σ ρ D sr p => ?_⟩
  exact q R0 H0 R H σ ρ _ sr (PostS.firstEE p fun d ρ1 v R1 H1 e1 s1 r1 p1 => p1 _ R1 H1 (Same.refl _) (s1.set q4 r1))
theorem ss_asgTE (S : SiteS T Φ XR N sc X W) {h : List Nat} {tg e : Expr} {t : Tg} {y : EE} {pos : Pos} (he : SEE Φ XR M X W e y) (ht : trG sc (fun _ => true) N M tg = some t) (hn : notComp e = true) (hw : swappedStores [tg] e X.env = pure none)
    (h1 : (assignEach [tg] X.env).map (·.2) = [assign tg X.env]) : SSt Φ XR M M.m h X W (.Assign [tg] e pos) (.asgE t y) := by
  obtain ⟨te, pe, q⟩ := he
  obtain ⟨g1, g2⟩ := pg_ok S.site ht
  refine ⟨_, ps_asg pe g1 (by show swapsWith e (some tg) pos.line X.env = pure false; exact notComp_sw hn) hw h1, fun R0 H0 R H σ ρ D sr p => ?_⟩
  refine q R0 H0 R H σ ρ _ sr (PostS.firstEE p fun d ρ1 v R1 H1 e1 s1 r1 p1 => ?_)
  have p2 : PostS XR X.K M.m h M R0 H0 R1 ((setT ρ1 t d).next fun ρ' => .nx ρ') D W := by
    generalize setT ρ1 t d = o at p1 ⊢
    cases o <;> exact p1
  exact setT_post s1 g2 r1 p2 fun ρ' σ' s' p' => p' σ' R1 H1 (Same.refl _) s'
theorem ss_appE (S : SiteS T Φ XR N sc X W) {h : List Nat} {x : Str} {i : Nat} {a : Expr} {y : EE} {p ap cpos pos : Pos} (hx : ownOfS sc N M x = some i) (ha : SEE Φ XR M X W a y) (hl : (ap.endLine == cpos.line) = true) (hs : starEach [a] X.env = [(false, eval a X.env)]) :
    SSt Φ XR M M.m h X W (.Expr (.Call (.Attribute (.Name x p) "append" ap) [a] [] cpos) pos) (.appE i y) := by
  obtain ⟨h1, h2, h3⟩ := ownOfS_ok hx
  obtain ⟨t, pe, q⟩ := ha
  refine ⟨_, ps_expr (pe_bm PySem.F.plainAttrs_list PySem.F.slot_list_append PySem.F.type_list_append mt_append (slot_pe S.site h1) (pa_cons pe pa_nil hs) (hline := hl) (hfew := by rw [hs]; rfl) (hs := hs)), fun R0 H0 R H σ ρ D sr p => ?_⟩
  obtain ⟨ds, vs, l, hd, e1, hh, rr, p⟩ := ss_lst sr h2 p
  refine ⟨_, e1, .inl ⟨rfl, _, SqL.of hh⟩, ?_⟩
  refine q R0 H0 R H σ ρ _ sr (PostS.firstEE p fun d ρ1 v R1 H1 x1 s1 r1 p1 => ?_)
  obtain ⟨d1, hd1, p1⟩ := ss_get s1 p1
  obtain ⟨v1, w1, _, w3, _⟩ := s1.val i d1 hd1
  obtain ⟨l1, rfl, q0, qr, o, ho, rr1⟩ := w3 h2
  rw [e1] at w1
  cases w1
  rcases rr1 with ⟨ds1, vs1, rfl, rfl, rr1⟩ | ⟨kvs, tv, rfl, rfl, rr1⟩
  · unfold appO at p1
    by_cases hz : ds1.length < SZ
    · simp only [hz, if_true] at p1
      refine ⟨l, vs1, v, rfl, rfl, ho, by rw [rr1.length, ← SZ_line]; exact hz, ?_⟩
      exact p1 σ R1 _ (Same.refl _) (s1.mutate h2 h3 hd1 e1 (.inl ⟨_, _, rfl, rfl, rr1.append (.one r1)⟩))
    · simp only [hz, if_false] at p1
      exact p1.elim
  · exact p1.elim
theorem sw_attr {e o : Expr} {f : Str} {ap : Pos} {l : Nat} {env : PySem.Env} : swapsWith e (some (.Attribute o f ap)) l env = pure false := by cases e <;> rfl
/-- o.f = e -/
theorem ss_fset (S : SiteS T Φ XR N sc X W) {h : List Nat} {o e : Expr} {f : Str} {i : Nat} {c g : String} {y : CE} {ap pos : Pos} (ho : fldOf T sc N M o f = some (i, c, g)) (hi : i ∈ M.oq) (he : SE Φ XR M X W true e y) :
    SSt Φ XR M M.m h X W (.Assign [.Attribute o f ap] e pos) (.fset i c g y) := by
  obtain ⟨⟨x, p, rfl, hs⟩, k, hk, rfl, hf⟩ := fldOf_ok ho
  have ck := S.site.cls k hk
  obtain ⟨na, ef⟩ := ck.noat _ hf
  simp only at ef
  subst ef
  obtain ⟨t, pe, q⟩ := he
  refine ⟨_, ps_fld (slot_pe S.site hs) pe sw_attr, fun R0 H0 R H σ ρ D sr p => ?_⟩
  refine q R0 H0 R H σ ρ _ sr (PostS.first S.mono sr p fun d v R1 H1 e1 r1 p1 => ?_)
  have s1 := sr.later e1
  obtain ⟨d0, hd, p1⟩ := ss_get s1 p1
  obtain ⟨F, hF1, hF2, hF3⟩ := s1.own
  obtain ⟨a, hσ, ow, e3⟩ := hF1 i hi d0 hd
  refine ⟨_, hσ, ?_⟩
  cases d0 with
  | obj c' fs =>
    unfold fsetO at p1
    by_cases hz : c' = k.key ∧ fs.length < 100
    · simp only [hz, and_self, if_true] at p1
      obtain ⟨rfl, hlen⟩ := hz
      obtain ⟨dx, gs, fq, hfp, ha, hdx, fr⟩ := ow.obj_inv
      rw [← ck.key] at ha
      refine ⟨a, _, dx, gs, rfl, ha, ck.cl, na, by rw [fr.length]; omega, ?_⟩
      obtain ⟨fq', sub, fr'⟩ := fr.put g r1
      have fdom := fr.dom
      have nea : ∀ b ∈ fq, b ≠ a := fun b hb z => by
        obtain ⟨tv, e⟩ := fdom b hb
        rw [z, ha] at e
        cases e
      have ned : dx ≠ a := fun z => by
        rw [z, ha] at hdx
        cases hdx
      refine p1 σ R1 _ (Same.refl _) (s1.mutO (a := a) (fp := a :: dx :: fq') hF1 hF2 hF3 hi hd hσ (fun b hb => upd_ne fun z => hb (by rw [hfp, z]; exact List.mem_cons_self)) (.obj (by rw [← ck.key]; exact upd_same) (by rw [upd_ne ned]; exact hdx) (fr'.keep (Same.refl _) fun b hb o q => by rw [upd_ne (nea b (sub b hb))]; exact q)) fun b hb => ?_)
      rw [hfp]
      rcases List.mem_cons.mp hb with rfl | hb
      · exact List.mem_cons_self
      · rcases List.mem_cons.mp hb with rfl | hb
        · exact List.mem_cons_of_mem _ List.mem_cons_self
        · exact List.mem_cons_of_mem _ (List.mem_cons_of_mem _ (sub b hb))
    · simp only [hz, if_false] at p1
      exact p1.elim
  | _ => exact p1.elim
theorem PostS.firstQ {α β : Type} {K : PySem.W.Frag} {m h : List Nat} {R0 H0 R H : Hp} {σ : L2.St} {ρ : Rho} {D : Ends} {r : Res α} {f : α → Out} {rep : Hp → Hp → β → α → Prop} {Q : β → Hp → Prop} (XM : XMono XR) (sr : SR K M R0 H0 R H σ ρ)
    (p : PostS XR K m h M R0 H0 R (r.out ρ f) D W) (k : ∀ a b R1 H1, r = .ok a → Ext R H R1 H1 → rep R1 H1 b a → PostS XR K m h M R0 H0 R1 (f a) D W → Q b H1) :
    PostE XR R H rep r Q (fun cls dx H' => W cls dx σ H') := by
  cases r with
  | ok a => exact fun b R' H' e y => k a b R' H' rfl e y (PostS.later p e.rr)
  | exc c ps =>
    intro cls dx R' H' e x
    obtain ⟨R2, h1, s2⟩ := (sr.later e).weak (m' := []) (fun i hi => by cases hi)
    exact p cls dx σ R2 H' (e.rr.trans h1) s2 (XM _ _ _ _ _ _ _ h1 s2.sub x)
  | stuck => exact p
/-- x = C(..) -/
theorem ss_new (S : SiteS T Φ XR N sc X W) {h : List Nat} {x : Str} {i : Nat} {k : ClsT} {sg : Sig} {e : Expr} {es : List Expr} {cs : CL} {p0 gp cp pos : Pos} (hk : k ∈ T.cls) (hg : isG sc k.name = true) (hx : locOf sc (fun _ => true) N ⟨[], M.s, [], M.q, [], M.z⟩ x = some i) (ho : i ∈ M.o)
    (hsg : sg ∈ T.sigs) (hc : sg.cls = some (k.key, "__init__")) (hio : sg.io = [0]) (hpar : sg.par = (e :: es).length + 1) (hdfl : sg.dfl = []) (ha : SL Φ XR M X W true [] (e :: es) cs) (hl : ∀ ρ xs, evs Φ cs ρ = .ok xs → xs.length = (e :: es).length)
    (he : starEach (e :: es) X.env = (false, eval e X.env) :: starEach es X.env) (hpl : (backTo cp (starEach es X.env)).any (·.1) = false) :
    SSt Φ XR M M.m h X W (.Assign [.Name x p0] (.Call (.Name k.name gp) (e :: es) [] cp) pos) (.new i k.key sg.key cs) := by
  have ck := S.site.cls k hk
  obtain ⟨lv, hr, hS⟩ := S.site.sigs
  obtain ⟨f, fd, ps, mf, kf, F, bnd⟩ := hS sg hsg
  unfold AtF at mf
  rw [hc] at mf
  simp only at mf
  rw [← ck.key] at mf
  have mk := ck.mkr f mf.at_
  unfold spS at F
  rw [if_neg (by rw [hio]; simp)] at F
  obtain ⟨dvs, dds, rv, rd, hb⟩ := bnd 0 (Nat.zero_le _)
  have ed := dvs_nil (X := X) rd hdfl
  subst ed
  obtain ⟨g1, g2, _⟩ := glob_ok S.site hg
  obtain ⟨t, pt, q⟩ := ha
  obtain ⟨q1, q2, q3, q4⟩ := loc_ok S.site hx
  have niq : i ∉ M.q := fun z => q4 (.inr (.inr (.inr z)))
  refine ⟨_, ps_set (by rw [S.site.nE]; exact S.site.nd) q1 q2 (pe_makeSD mk F hr g1 ck.mg hb rv (fun σ => passAt S.site.takes σ) pt g2 he hpl) (notComp_sw rfl) q3, fun R0 H0 R H σ ρ D sr p => ?_⟩
  have p : PostS XR X.K M.m h M R0 H0 R ((evs Φ cs ρ).out ρ fun xs => newO ρ i (Φ sg.key (.obj k.key [] :: xs))) D W := p
  generalize hxs : evs Φ cs ρ = r at p
  refine q R0 H0 R H σ ρ _ sr ?_
  rw [hxs]
  refine PostS.firstQ (rep := RepFs X.K true []) S.mono sr p fun xs vs R1 H1 hr0 e1 r1 p1 => ?_
  subst hr0
  intro o dx no ndx ne
  have s1 := sr.later e1
  have rr : Reps X.K R1 vs xs := RepFs.full r1
  have get : ∀ (j : Nat) (v : V) (d : Ps.D), vs[j]? = some v → xs[j]? = some d → Rep X.K R1 v d := fun j v d h1 h2 => by
    obtain ⟨v', q1, q2⟩ := rr.get h2
    rw [h1] at q1
    cases q1
    exact q2
  have eC : He.ga X.K k.name = He.ga X.K (Str.ofString k.key) := by rw [← ck.key]
  have lx : (V.ref o :: (vs ++ [])).length = sg.par := by
    rw [List.append_nil, List.length_cons, rr.length, hl ρ xs hxs, hpar]
  refine ⟨R1, H1, .obj k.key [] :: xs, fun _ => [o, dx], ⟨s1.sub, s1.tab⟩, fun b u z => ?_, lx, by rw [← lx, List.append_nil, List.length_cons, List.length_cons, rr.length], fun j v d h1 h2 h3 => ?_, fun j hj d hd => ?_, fun a ha b hb hab => ?_, ?_⟩
  · rw [upd_ne (ne_of_none z no), upd_ne (ne_of_none z ndx)]
    exact z
  · rw [List.append_nil] at h1
    cases j with
    | zero => exact absurd (by rw [hio]; simp) h3
    | succ j => exact RepF.of (get j v d (by simpa using h1) (by simpa using h2)) _
  · rw [hio] at hj
    cases List.mem_singleton.mp hj
    cases hd
    refine ⟨o, rfl, .obj (by rw [← eC]; exact upd_same) (by rw [upd_ne ne]; exact upd_same) .nil, fun b hb => ?_⟩
    have : b = o ∨ b = dx := by simpa using hb
    rcases this with rfl | rfl
    · exact ⟨no, s1.sub.free no⟩
    · exact ⟨ndx, s1.sub.free ndx⟩
  · rw [hio] at ha hb
    rw [List.mem_singleton.mp ha, List.mem_singleton.mp hb] at hab
    exact absurd rfl hab
  · rw [hio]
    generalize Φ sg.key (.obj k.key [] :: xs) = r at p1 ⊢
    cases r with
    | stuck => exact p1.elim
    | exc c ps =>
      intro cls dx' R' H' x' o' xr
      obtain ⟨R2, z1, z2⟩ := (s1.later x').weak (m' := []) (fun i hi => by cases hi)
      exact p1 cls dx' σ R2 H' (x'.rr.trans z1) z2 (S.mono _ _ _ _ _ _ _ z1 z2.sub xr)
    | ok z =>
      cases z with
      | tup ws =>
        rcases ws with _ | ⟨d, _ | ⟨o', _ | ⟨w, ws⟩⟩⟩
        · exact p1.elim
        · cases d <;> exact p1.elim
        · cases d with
          | non =>
            intro v R' H' x' rv' ho'
            obtain ⟨_, G, g1, _⟩ := ho'
            obtain ⟨a, w1, w2, w3⟩ := g1 0 0 o' rfl rfl
            cases w1
            cases rv'
            exact ⟨rfl, p1 _ R' H' x'.rr (s1.setO x' ho niq w2 w3)⟩
          | _ => exact p1.elim
        · cases d <;> exact p1.elim
      | _ => exact p1.elim
/-- a statement that changes what an object holds -/
theorem all_trX (S : SiteS T Φ XR N sc X W) {h : List Nat} {st : Stmt} {c : CS} (e : trX T N sc M st = some c) : SSt Φ XR M M.m h X W st c := by
  have EE : ∀ {e : Expr} {y : EE}, trEE T N M EF sc e = some y → SEE Φ XR M X W e y := fun hy => (all_ee EF).e S hy
  unfold trX at e
  split at e
  · rename_i x xp m ap a pos _
    by_cases c1 : m = ("append" : Str) ∧ (ap.endLine == pos.line) = true
    · rw [if_pos c1] at e
      obtain ⟨rfl, hl⟩ := c1
      obtain ⟨i, hi, e⟩ := obind e
      obtain ⟨y, hy, e⟩ := obind e
      cases e
      exact ss_appE S hi (EE hy) hl (star_cons (es := []) (trEE_star hy))
    · rw [if_neg c1] at e
      obtain ⟨y, hy, e⟩ := obind e
      cases e
      exact ss_expE S (EE hy) rfl
  · obtain ⟨hn, e⟩ := oif e
    obtain ⟨y, hy, e⟩ := obind e
    cases e
    exact ss_expE S (EE hy) hn
  · obtain ⟨y, hy, e⟩ := obind e
    cases e
    exact ss_retE S (EE hy)
  · obtain ⟨q, hq, e⟩ := obind e
    obtain ⟨ho, e⟩ := oif e
    obtain ⟨y, hy, e⟩ := obind e
    cases e
    obtain ⟨i, c, g⟩ := q
    exact ss_fset S hq (List.contains_iff_mem.mp ho) ((all EF).e S.site hy)
  · rename_i x xp g gp args cp _
    obtain ⟨hg, e1⟩ := oif e
    obtain ⟨k, hk, e2⟩ := obind e1
    obtain ⟨i, hx, e3⟩ := obind e2
    obtain ⟨sg, hs, e4⟩ := obind e3
    obtain ⟨⟨h1, h2, h3, h4, h5⟩, e5⟩ := oif e4
    obtain ⟨xs, hxs, e6⟩ := obind e5
    cases e6
    have hq := List.find?_some hk
    simp only [decide_eq_true_eq] at hq
    subst hq
    have hq2 := List.find?_some hs
    simp only [decide_eq_true_eq] at hq2
    cases args with
    | nil => exact absurd rfl h5
    | cons a as =>
      have st : starEach (a :: as) X.env = (false, eval a X.env) :: starEach as X.env ∧ (backTo cp (starEach as X.env)).any (·.1) = false := by
        have he : ∃ n, EF = n + 1 := ⟨119, rfl⟩
        obtain ⟨n, en⟩ := he
        rw [en] at hxs
        have hxs : ((trE T N M n sc (([] : List Bool).headD true) a).bind fun x => (trL T N M n sc true [] as).bind fun xs => some (CL.cons x xs)) = some xs := by
          cases a <;> first | exact hxs | (simp only [trL] at hxs; first | exact hxs | cases hxs)
        obtain ⟨y, q1, hxs⟩ := obind hxs
        obtain ⟨ys, q2, hxs⟩ := obind hxs
        exact ⟨star_cons (trE_star q1), trL_plain n q2 _ _⟩
      exact ss_new S (List.mem_of_find?_eq_some hk) hg hx (List.contains_iff_mem.mp h1) (List.mem_of_find?_eq_some hs) hq2 h2 h3 h4 ((all EF).l S.site hxs) (fun ρ xs' h' => trL_len EF hxs Φ ρ xs' h') st.1 st.2
  · obtain ⟨hn, e⟩ := oif e
    obtain ⟨i, hx, e⟩ := obind e
    obtain ⟨y, hy, e⟩ := obind e
    cases e
    exact ss_asgE S (EE hy) hx hn
  · rename_i ts k p ee _
    obtain ⟨h1, e⟩ := oifn e
    obtain ⟨t, ht, e⟩ := obind e
    obtain ⟨y, hy, e⟩ := obind e
    cases e
    have h1 : (isTup ee || !notComp ee) = false := Bool.eq_false_iff.mpr h1
    rw [Bool.or_eq_false_iff] at h1
    refine ss_asgTE S (EE hy) ht (by simpa using h1.2) ?_ rfl
    cases ee <;> first | rfl | (cases h1.1; done)
  · cases e
end
end Ps
end
section
set_option maxHeartbeats 4000000
/-! PsX: raise, try, what an except suite tells of what it caught. -/
namespace Ps
open PySem PySem.Spec PyProof.Rows L2
variable [Tbs]
/-- a suite's place -/
structure XSite (T : Tab) (Φ : FEnv) (N : List Str) (sc : Scope) (M : Ow) (Y : Cx) (en : Str) (ei : Nat) (a : Addr) (oe : Obj) (c : String) (dx : Option Addr) : Prop where
  nE : Y.N = N
  nd : N.Nodup
  scE : Y.env.scope = sc
  fnE : Y.fn = fun _ => true
  pin : XPin T Y a oe c dx
  exc : ExcS T Φ (XRd T Y.K) Y
  blt : ∀ x ∈ bltNames, Y.mg x = none
  ei : odd en = false → N[ei]? = some en ∧ Vis Y.env.scope en
/-- how a suite's state stands -/
def XSt (T : Tab) (M : Ow) (K : PySem.W.Frag) (en : Str) (ei : Nat) (a : Addr) (c : String) (ps : List D) (dx : Option Addr) (R0 H0 R H : Hp) (σ : L2.St) (ρ : Rho) : Prop :=
  SR K M R0 H0 R H σ ρ ∧ (odd en = false → σ[ei]? = some (some (.ref a))) ∧ XRd T K R H c ps (.ref (xa K c)) dx
theorem XSt.later {T : Tab} {M : Ow} {K : PySem.W.Frag} {en : Str} {ei : Nat} {a : Addr} {c : String} {ps : List D} {dx : Option Addr} {R0 H0 R H R1 H1 : Hp} {σ : L2.St} {ρ : Rho} (s : XSt T M K en ei a c ps dx R0 H0 R H σ ρ) (e : Ext R H R1 H1) :
    XSt T M K en ei a c ps dx R0 H0 R1 H1 σ ρ := ⟨s.1.later e, s.2.1, s.2.2.step e.rr e.hh⟩
theorem XSt.dict {T : Tab} {M : Ow} {K : PySem.W.Frag} {en : Str} {ei : Nat} {a : Addr} {c : String} {ps : List D} {dx : Option Addr} {R0 H0 R H : Hp} {σ : L2.St} {ρ : Rho} (s : XSt T M K en ei a c ps dx R0 H0 R H σ ρ) : ∀ d, dx = some d → ∃ fs, H d = some (.xd fs) := by
  intro d hd
  obtain ⟨_, _, vs, _, _, h5, h6⟩ := s.2.2
  by_cases n : xflds c = []
  · rw [h5 n] at hd
    cases hd
  · obtain ⟨d', fs, e1, e2, _⟩ := h6 n
    rw [e1] at hd
    cases hd
    exact ⟨fs, e2⟩
abbrev PostX (T : Tab) (K : PySem.W.Frag) (R H : Hp) (r : Res D) (Q : VK) : Prop := PostE (XRd T K) R H (fun R' _ v d => Rep K R' v d) r Q (fun _ _ _ => False)
section
variable {T : Tab} {Φ : FEnv} {N : List Str} {sc : Scope} {M : Ow} {Y : Cx} {en : Str} {ei : Nat} {a : Addr} {oe : Obj} {c : String} {ps : List D} {dx : Option Addr}
/-- e is told by x -/
def SX (T : Tab) (Φ : FEnv) (M : Ow) (Y : Cx) (en : Str) (ei : Nat) (a : Addr) (c : String) (ps : List D) (dx : Option Addr) (e : Expr) (x : XE) : Prop :=
  ∃ t : TE, PE Y e t ∧ ∀ R0 H0 R H σ ρ Q, XSt T M Y.K en ei a c ps dx R0 H0 R H σ ρ → PostX T Y.K R H (xv Φ c ((xflds c).zip ps) x ρ) Q → t σ H Q
def SXL (T : Tab) (Φ : FEnv) (M : Ow) (Y : Cx) (en : Str) (ei : Nat) (a : Addr) (c : String) (ps : List D) (dx : Option Addr) (es : List Expr) (x : XL) : Prop :=
  ∃ t : TA, PA Y es t ∧ ∀ R0 H0 R H σ ρ Q, XSt T M Y.K en ei a c ps dx R0 H0 R H σ ρ → PostE (XRd T Y.K) R H (fun R' _ vs ds => Reps Y.K R' vs ds) (xvs Φ c ((xflds c).zip ps) x ρ) Q (fun _ _ _ => False) → t σ H Q
theorem XSite.glob (S : XSite T Φ N sc M Y en ei a oe c dx) {x : Str} (h : isG sc x = true) : Gl Y x ∧ (x == ("__debug__" : Str)) = false ∧ x ≠ "__name__" := by
  unfold isG at h
  rw [Bool.and_eq_true] at h
  obtain ⟨o1, _, o3⟩ := odd_no (x := x) (by simpa using h.1)
  refine ⟨?_, o1, o3⟩
  show Y.env.scope.names.lookup x = _
  rw [S.scE]
  exact of_decide_eq_true h.2
theorem XSite.slot (S : XSite T Φ N sc M Y en ei a oe c dx) {x : Str} {i : Nat} (h : slotOf sc N x = some i) :
    Y.N[i]? = some x ∧ Vis Y.env.scope x ∧ (x == ("__debug__" : Str)) = false ∧ (x == ("__classdict__" : Str)) = false := by
  unfold slotOf at h
  by_cases ho : odd x = true
  · rw [if_pos ho] at h
    cases h
  · rw [if_neg ho] at h
    obtain ⟨o1, o2, _⟩ := odd_no (by simpa using ho)
    rw [S.nE, S.scE]
    unfold Vis
    split at h
    · rename_i e
      exact ⟨find_at h, .inl e, o1, o2⟩
    · rename_i e
      exact ⟨find_at h, .inr (.inl e), o1, o2⟩
    · rename_i e
      exact ⟨find_at h, .inr (.inr e), o1, o2⟩
    · cases h
theorem XSite.loc (S : XSite T Φ N sc M Y en ei a oe c dx) {x : Str} {i : Nat} (h : locOf sc (fun _ => true) N M x = some i) : Y.N[i]? = some x ∧ L2.Loc Y.env.scope x ∧ (Y.fn x = true ∨ Y.env.scope.names.lookup x = some .local) ∧ i ∉ M := by
  unfold locOf at h
  rw [S.nE, S.scE, S.fnE]
  cases e : N.findIdx? fun y => decide (y = x) with
  | none => rw [e] at h; cases h
  | some j =>
    rw [e] at h
    simp only at h
    by_cases hm : M.contains j = true
    · rw [if_pos hm] at h; cases h
    · rw [if_neg hm] at h
      have hm' : j ∉ M := by simpa using hm
      unfold L2.Loc
      cases l : sc.names.lookup x with
      | none => rw [l] at h; cases h
      | some k =>
        rw [l] at h
        cases k with
        | «local» => cases h; exact ⟨find_at e, .inl rfl, .inl rfl, hm'⟩
        | cell =>
          simp only [if_true] at h
          cases h
          exact ⟨find_at e, .inr rfl, .inl rfl, hm'⟩
        | _ => cases h
/-- the caught exception -/
theorem XSite.pe_e (S : XSite T Φ N sc M Y en ei a oe c dx) {x : Str} {p : Pos} (h : isEn en x = true) : odd en = false ∧ PE Y (.Name x p) (tVar ei) := by
  unfold isEn at h
  rw [Bool.and_eq_true] at h
  have e : x = en := of_decide_eq_true h.1
  subst e
  have ho : odd x = false := by simpa using h.2
  obtain ⟨o1, o2, _⟩ := odd_no ho
  obtain ⟨h1, h2⟩ := S.ei ho
  exact ⟨ho, pe_var (by rw [S.nE]; exact h1) h2 o1 o2⟩
/-- a class that is asked for -/
theorem XSite.pe_cls (S : XSite T Φ N sc M Y en ei a oe c dx) {x : Str} {p : Pos} {n : String} (h : xNm T sc (.Name x p) = some n) :
    ∃ (v : V) (u : Value), PE Y (.Name x p) (tC v) ∧ (∀ z, RelV v z → z = u) ∧ RelV v u ∧ ((∃ k ∈ T.exc, k.key = c) → PySem.W.kitOne Y.K (.ref (xa Y.K c)) u = some (subX c n)) := by
  simp only [xNm] at h
  by_cases hh : x = ("ValueError" : Str) ∧ isG sc x = true ∧ T.exc ≠ []
  · rw [if_pos hh] at h
    obtain ⟨rfl, hg, hne⟩ := hh
    cases h
    obtain ⟨g1, g2, g3⟩ := S.glob hg
    refine ⟨.ty "ValueError", .type "ValueError", pe_bltn g1 (S.exc.ve hne) (by decide +kernel) rfl g3 g2, fun z hz => hz, rfl, fun ⟨k, hk, e⟩ => ?_⟩
    have ok := S.exc.ok k hk
    have q := ok.ve
    rw [ok.key, e] at q
    rw [q]
    simp [subX]
  · rw [if_neg hh] at h
    unfold xcOf at h
    by_cases hg : isG sc x = true
    · rw [if_pos hg] at h
      obtain ⟨k0, h1, rfl⟩ := Option.map_eq_some_iff.mp h
      obtain ⟨g1, g2, g3⟩ := S.glob hg
      have hm := List.mem_of_find?_eq_some h1
      have hn := List.find?_some h1
      simp only [decide_eq_true_eq] at hn
      subst hn
      have ok := S.exc.ok k0 hm
      refine ⟨.ref (He.ga Y.K k0.name), .ref (He.ga Y.K k0.name), pe_glob g1 ok.mg rfl g2, fun z hz => hz, rfl, fun ⟨k, hk, e⟩ => ?_⟩
      have ok2 := S.exc.ok k hk
      have q := ok2.kit k0 hm
      rw [ok2.key, e] at q
      exact q
    · rw [if_neg hg] at h
      cases h
theorem XSite.ec (S : XSite T Φ N sc M Y en ei a oe c dx) (h : ∃ k ∈ T.exc, k.key = c) : ExcC Y.K (xa Y.K c) ∧ XfC Y.K (xa Y.K c) := by
  obtain ⟨k, hk, e⟩ := h
  have ok := S.exc.ok k hk
  have h1 := ok.ec
  have h2 := ok.xf
  rw [ok.key, e] at h1 h2
  exact ⟨h1, h2⟩
theorem boot_isx : bootBuiltins "isinstance" = some (.builtin "isinstance") := by decide +kernel
theorem sx_isI (S : XSite T Φ N sc M Y en ei a oe c dx) {x y : Str} {n : String} {gp p p2 pos : Pos} (h1 : isEn en x = true) (hg : isG sc "isinstance" = true) (h2 : xNm T sc (.Name y p2) = some n) (hc : ∃ k ∈ T.exc, k.key = c) :
    SX T Φ M Y en ei a c ps dx (.Call (.Name "isinstance" gp) [.Name x p, .Name y p2] [] pos) (.isI n) := by
  obtain ⟨ho, pe⟩ := S.pe_e (p := p) h1
  obtain ⟨v, u, pn, hu, hv, hk⟩ := S.pe_cls h2
  obtain ⟨g1, g2, g3⟩ := S.glob hg
  refine ⟨_, pe_callB (call_isX S.pin (S.ec hc).1) g1 (S.blt _ (by simp [bltNames])) boot_isx (pa_cons pe (pa_cons pn pa_nil) rfl) g3 g2 rfl rfl, fun R0 H0 R H σ ρ Q s p => ?_⟩
  simp only [xv] at p
  refine ⟨_, s.2.1 ho, s.dict, [u], v, subX c n, rfl, .inl ⟨u, rfl, hu, hk hc⟩, p.here s.1.sub (.bl _)⟩
theorem sx_isM (S : XSite T Φ N sc M Y en ei a oe c dx) {x : Str} {es : List Expr} {ns : List String} {gp p p2 pos : Pos} {k : Nat} (h1 : isEn en x = true) (hg : isG sc "isinstance" = true) (h2 : xNms T sc es = some ns) (hl : es.length < 100) (hc : ∃ k ∈ T.exc, k.key = c) :
    SX T Φ M Y en ei a c ps dx (.Call (.Name "isinstance" gp) [.Name x p, .Tuple es k p2] [] pos) (.isM ns) := by
  obtain ⟨ho, pe⟩ := S.pe_e (p := p) h1
  obtain ⟨g1, g2, g3⟩ := S.glob hg
  have key : ∀ (es : List Expr) (ns : List String), xNms T sc es = some ns → ∃ (vs : List V) (us : List Value) (t : TA), PA Y es t ∧ (∀ σ H Q, Q vs H → t σ H Q) ∧ vs.length = es.length ∧ (∀ zs, Vals vs zs → zs = us) ∧ PySem.W.kitAny Y.K (.ref (xa Y.K c)) us = some (ns.any (subX c)) := by
    intro es
    induction es with
    | nil =>
      intro ns h
      cases h
      exact ⟨[], [], _, pa_nil, fun σ H Q q => q, rfl, fun zs hz => by cases hz; rfl, rfl⟩
    | cons e es ih =>
      intro ns h
      obtain ⟨n, h3, h⟩ := obind h
      obtain ⟨ns', h4, h⟩ := obind h
      cases h
      obtain ⟨vs, us, t, q1, q2, q3, q4, q5⟩ := ih ns' h4
      cases e with
      | Name y p3 =>
        obtain ⟨v, u, pn, hu, hv, hk⟩ := S.pe_cls h3
        refine ⟨v :: vs, u :: us, _, pa_cons pn q1 rfl, fun σ H Q q => q2 σ H _ q, by simp [q3], fun zs hz => ?_, ?_⟩
        · cases hz with
          | cons r1 rs => rw [hu _ r1, q4 _ rs]
        · unfold PySem.W.kitAny
          rw [hk hc]
          simp only [List.any_cons]
          cases subX c n with
          | true => rfl
          | false => simpa using q5
      | _ => simp [xNm] at h3
  obtain ⟨vs, us, t, q1, q2, q3, q4, q5⟩ := key es ns h2
  refine ⟨_, pe_callB (call_isX S.pin (S.ec hc).1) g1 (S.blt _ (by simp [bltNames])) boot_isx (pa_cons pe (pa_cons (pe_tup q1) pa_nil) rfl) g3 g2 rfl rfl, fun R0 H0 R H σ ρ Q s p => ?_⟩
  simp only [xv] at p
  refine ⟨_, s.2.1 ho, q2 _ _ _ ⟨?_, fun q hq => ?_⟩⟩
  · rw [q3, sizeLine_eq]
    omega
  · refine ⟨fun d hd => ?_, us, .ref q, _, rfl, .inr ⟨q, vs, rfl, upd_same, q4, q5⟩, p _ _ _ (Ext.new_ s.1.sub hq) (.bl _)⟩
    obtain ⟨fs, hf⟩ := s.dict d hd
    exact ⟨fs, by rw [upd_ne (ne_of_none hf hq)]; exact hf⟩
theorem sx_cst {k : Const} {d : D} {j : Nat} {pos : Pos} (h : constOf k = some d) : SX T Φ M Y en ei a c ps dx (.Constant k j pos) (.cst d) := by
  obtain ⟨t, pe, q⟩ := se_cst (Φ := Φ) (XR := XRd T Y.K) (M := M) (X := Y) (W := fun _ _ _ _ => False) (fl := true) (j := j) (pos := pos) h
  exact ⟨t, pe, fun R0 H0 R H σ ρ Q s p => q R0 H0 R H σ ρ Q s.1 p⟩
theorem sx_var (S : XSite T Φ N sc M Y en ei a oe c dx) {x : Str} {i : Nat} {pos : Pos} (h : slotOf sc N x = some i) (hm : i ∉ M) : SX T Φ M Y en ei a c ps dx (.Name x pos) (.var i) := by
  obtain ⟨h1, h2, h3, h4⟩ := S.slot h
  refine ⟨_, pe_var h1 h2 h3 h4, fun R0 H0 R H σ ρ Q s p => ?_⟩
  have p : PostX T Y.K R H (getv ρ i) Q := p
  unfold getv at p
  split at p
  · rename_i d e
    obtain ⟨v, e1, r, _⟩ := s.1.val i d e
    exact ⟨v, e1, p.here s.1.sub (r hm)⟩
  · exact p.elim
theorem sx_not {e : Expr} {x : XE} {pos : Pos} (h : SX T Φ M Y en ei a c ps dx e x) : SX T Φ M Y en ei a c ps dx (.UnaryOp .Not e pos) (.not x) := by
  obtain ⟨ta, pa, ha⟩ := h
  refine ⟨_, pe_not pa, fun R0 H0 R H σ ρ Q s p => ?_⟩
  simp only [xv] at p
  refine ha R0 H0 R H σ ρ _ s (p.first fun z vz R1 H1 e1 r1 p1 => ?_)
  cases z with
  | bl i =>
    cases r1
    exact ⟨i, rfl, PostE.here e1.sub p1 (.bl _)⟩
  | _ => exact p1.elim
theorem sx_one {op : BoolOp} {e : Expr} {x : XE} {pos : Pos} (h : SX T Φ M Y en ei a c ps dx e x) : SX T Φ M Y en ei a c ps dx (.BoolOp op [e] pos) x := by
  obtain ⟨ta, pa, ha⟩ := h
  exact ⟨_, pe_one pa, ha⟩
theorem sx_and {e f : Expr} {r : List Expr} {x y : XE} {pos : Pos} (hx : SX T Φ M Y en ei a c ps dx e x) (hy : SX T Φ M Y en ei a c ps dx (.BoolOp .And (f :: r) pos) y) : SX T Φ M Y en ei a c ps dx (.BoolOp .And (e :: f :: r) pos) (.and x y) := by
  obtain ⟨ta, pa, ha⟩ := hx
  obtain ⟨tb, pb, hb⟩ := hy
  refine ⟨_, pe_and pa pb, fun R0 H0 R H σ ρ Q s p => ?_⟩
  simp only [xv] at p
  refine ha R0 H0 R H σ ρ _ s (p.first fun z vz R1 H1 e1 r1 p1 => ?_)
  cases z with
  | bl k =>
    cases r1
    refine ⟨k, rfl, ?_⟩
    cases k with
    | true =>
      rw [if_pos rfl]
      exact hb R0 H0 R1 H1 σ ρ _ (s.later e1) p1
    | false =>
      rw [if_neg Bool.false_ne_true]
      exact PostE.here e1.sub p1 (.bl _)
  | _ => exact p1.elim
theorem sx_or {e f : Expr} {r : List Expr} {x y : XE} {pos : Pos} (hx : SX T Φ M Y en ei a c ps dx e x) (hy : SX T Φ M Y en ei a c ps dx (.BoolOp .Or (f :: r) pos) y) : SX T Φ M Y en ei a c ps dx (.BoolOp .Or (e :: f :: r) pos) (.or x y) := by
  obtain ⟨ta, pa, ha⟩ := hx
  obtain ⟨tb, pb, hb⟩ := hy
  refine ⟨_, pe_or pa pb, fun R0 H0 R H σ ρ Q s p => ?_⟩
  simp only [xv] at p
  refine ha R0 H0 R H σ ρ _ s (p.first fun z vz R1 H1 e1 r1 p1 => ?_)
  cases z with
  | bl k =>
    cases r1
    refine ⟨k, rfl, ?_⟩
    cases k with
    | true =>
      rw [if_pos rfl]
      exact PostE.here e1.sub p1 (.bl _)
    | false =>
      rw [if_neg Bool.false_ne_true]
      exact hb R0 H0 R1 H1 σ ρ _ (s.later e1) p1
  | _ => exact p1.elim
theorem sxl_nil : SXL T Φ M Y en ei a c ps dx [] .nil := ⟨_, pa_nil, fun R0 H0 R H σ ρ Q s p => PostE.here s.1.sub p .nil⟩
theorem sxl_cons {e : Expr} {es : List Expr} {x : XE} {xs : XL} (h : SX T Φ M Y en ei a c ps dx e x) (t : SXL T Φ M Y en ei a c ps dx es xs) (hs : starEach (e :: es) Y.env = (false, eval e Y.env) :: starEach es Y.env) : SXL T Φ M Y en ei a c ps dx (e :: es) (.cons x xs) := by
  obtain ⟨te, pe, h⟩ := h
  obtain ⟨tr, pr, t⟩ := t
  refine ⟨_, pa_cons pe pr hs, fun R0 H0 R H σ ρ Q s p => ?_⟩
  simp only [xvs] at p
  refine h R0 H0 R H σ ρ _ s (p.first fun z vz R1 H1 e1 r1 p1 => ?_)
  refine t R0 H0 R1 H1 σ ρ _ (s.later e1) (p1.first fun zs vzs R2 H2 e2 r2 p2 => ?_)
  exact PostE.here e2.sub p2 (.cons (r1.mono e2.rr) r2)
theorem sx_lst {es : List Expr} {xs : XL} {pos : Pos} (h : SXL T Φ M Y en ei a c ps dx es xs) : SX T Φ M Y en ei a c ps dx (.List es pos) (.lst xs) := by
  obtain ⟨t, pt, h⟩ := h
  refine ⟨_, pe_lst pt, fun R0 H0 R H σ ρ Q s p => ?_⟩
  simp only [xv] at p
  refine h R0 H0 R H σ ρ _ s (p.first fun zs vzs R1 H1 e1 r1 p1 => ?_)
  obtain ⟨hz, p1⟩ := p1.iff
  refine ⟨by rw [r1.length, ← SZ_line]; exact hz, fun q hq => ?_⟩
  exact p1 _ _ _ (Ext.laid e1.sub hq) (.lst (SqL.of upd_same) (r1.mono (same_upd (e1.sub.free hq))))
theorem sx_add {e f : Expr} {x y : XE} {pos : Pos} (hx : SX T Φ M Y en ei a c ps dx e x) (hy : SX T Φ M Y en ei a c ps dx f y) : SX T Φ M Y en ei a c ps dx (.BinOp e .Add f pos) (.add x y) := by
  obtain ⟨ta, pa, ha⟩ := hx
  obtain ⟨tb, pb, hb⟩ := hy
  refine ⟨_, pe_op (op_sem .add rfl) pa pb, fun R0 H0 R H σ ρ Q s p => ?_⟩
  simp only [xv] at p
  refine ha R0 H0 R H σ ρ _ s (p.first fun z vz R1 H1 e1 r1 p1 => ?_)
  refine hb R0 H0 R1 H1 σ ρ _ (s.later e1) (p1.first fun w vw R2 H2 e2 r2 p2 => ?_)
  exact ⟨R2, z, w, e2.sub, .inl (r1.mono e2.rr), .inl r2, post0_of (fl := true) (addR_n z w) p2⟩
/-- a field of what was caught -/
theorem fld_get {K : PySem.W.Frag} {R0 H0 R H : Hp} {σ : L2.St} {ρ : Rho} (s : XSt T M K en ei a c ps dx R0 H0 R H σ ρ) {f : String} {d : D} (h : ((xflds c).zip ps).lookup f = some d) :
    ∃ dd fs v, dx = some dd ∧ H dd = some (.xd fs) ∧ fs.lookup (Str.ofString f) = some v ∧ Rep K R v d ∧ f ∈ xflds c := by
  obtain ⟨_, _, vs, h3, h4, h5, h6⟩ := s.2.2
  have key : ∀ (l : List String) (ps : List D) (vs : List V), Reps K R vs ps → (l.zip ps).lookup f = some d → ∃ (j : Nat) (v : V), l[j]? = some f ∧ vs[j]? = some v ∧ Rep K R v d := by
    intro l
    induction l with
    | nil => intro ps vs _ z; cases z
    | cons g l ih =>
      intro ps vs r z
      cases r with
      | nil => cases z
      | @cons v vs d1 ds r1 rs =>
        rw [List.zip_cons_cons, List.lookup_cons] at z
        by_cases e : (f == g) = true
        · rw [e] at z
          cases z
          exact ⟨0, v, by rw [eq_of_beq e]; rfl, rfl, r1⟩
        · rw [Bool.not_eq_true] at e
          rw [e] at z
          obtain ⟨j, v', q1, q2, q3⟩ := ih ds vs rs z
          exact ⟨j + 1, v', by simpa using q1, by simpa using q2, q3⟩
  obtain ⟨j, v, q1, q2, q3⟩ := key _ _ _ h3 h
  have ne : xflds c ≠ [] := fun z => by rw [z] at q1; cases q1
  obtain ⟨dd, fs, e1, e2, e3⟩ := h6 ne
  exact ⟨dd, fs, v, e1, e2, e3 j f v q1 q2, q3, List.mem_of_getElem? q1⟩
end
/-- err.f, what it stands for -/
theorem attr_x {T : Tab} {Y : Cx} {a : Addr} {oe : Obj} {c : String} {dx : Option Addr} {n : Str} {e : Expr} {te : TE} {pos : Pos} (P : XPin T Y a oe c dx) (C : XfC Y.K (xa Y.K c)) (he : PE Y e te) (hb : attributeBase e n Y.env (eval e Y.env) = eval e Y.env) :
    PE Y (.Attribute e n pos) (fun σ H Q => te σ H fun x H1 => x = .ref a ∧ PySem.W.findIn Y.K (.ref (xa Y.K c)) n = some none ∧ ∃ dd fs v, dx = some dd ∧ H1 dd = some (.xd fs) ∧ fs.lookup n = some v ∧ Q v H1) := by
  refine ⟨fun pins s σ H Q I h => attr_of hb (thn (he.run pins s σ H _ I h) fun u s1 hh => ?_)⟩
  obtain ⟨x, H1, I1, rx, rfl, hno, dd, fs, v, rfl, ea, l, q⟩ := hh
  obtain rfl : u = Value.ref a := rx
  have g := (I1.pin (a, oe) (List.mem_append.mpr (.inl P.mem))).1
  obtain ⟨us, hu⟩ := P.dat
  have ok : ObjOk Y.prog Y.w H1 s1.heap dd (.xd fs) := I1.hok dd _ ea
  obtain ⟨mA, hns, hr⟩ := ok
  obtain ⟨od, ho, hl⟩ := lookIn_ns hns
  obtain ⟨w, hw, rw'⟩ := RelO.some_of (v := v) (o := mA n) (by rw [← l]; exact hr n)
  have J : PySem.W.InstAt s1.heap a oe (xa Y.K c) (some od) := ⟨g, P.zc.1, by unfold PySem.W.notCls; rw [hu], by rw [P.zc.2]; exact ho⟩
  have ff := PySem.W.findObj_own C.hdC hno (od := od) rfl (by rw [hl, hw])
  exact HandSPX.exc_get I1.kIn J C.ga C.gg C.exC ff (handed_of rw') ⟨v, H1, I1.tok _, rw', q⟩
section
variable {T : Tab} {Φ : FEnv} {N : List Str} {sc : Scope} {M : Ow} {Y : Cx} {en : Str} {ei : Nat} {a : Addr} {oe : Obj} {c : String} {ps : List D} {dx : Option Addr}
theorem fldX_ok {f : Str} {g : String} (h : fldX f = some g) : f = Str.ofString g := by
  unfold fldX at h
  split at h
  · rename_i e; cases h; exact e
  · split at h
    · rename_i e; cases h; exact e
    · split at h
      · rename_i e; cases h; exact e
      · cases h
theorem XSite.nof (S : XSite T Φ N sc M Y en ei a oe c dx) (h : ∃ k ∈ T.exc, k.key = c) {f : String} (hf : f ∈ xflds c) : PySem.W.findIn Y.K (.ref (xa Y.K c)) (Str.ofString f) = some none := by
  obtain ⟨k, hk, e⟩ := h
  have ok := S.exc.ok k hk
  have q := ok.nof f (by rw [e]; exact hf)
  rw [ok.key, e] at q
  exact q
/-- a field of e: what it holds -/
theorem fld_pe (S : XSite T Φ N sc M Y en ei a oe c dx) {x f : Str} {g : String} {p pos : Pos} (h1 : isEn en x = true) (h2 : fldX f = some g) (hc : ∃ k ∈ T.exc, k.key = c) :
    ∃ t : TE, PE Y (.Attribute (.Name x p) f pos) t ∧ ∀ {R0 H0 R H : Hp} {σ : L2.St} {ρ : Rho} {Q : VK} {d : D}, XSt T M Y.K en ei a c ps dx R0 H0 R H σ ρ → ((xflds c).zip ps).lookup g = some d → (∀ v, Rep Y.K R v d → Q v H) → t σ H Q := by
  obtain ⟨ho, pe⟩ := S.pe_e (p := p) h1
  have ef := fldX_ok h2
  subst ef
  refine ⟨_, attr_x S.pin (S.ec hc).2 pe rfl, fun {R0 H0 R H σ ρ Q d} s hl q => ?_⟩
  obtain ⟨dd, fs, v, e1, e2, e3, e4, e5⟩ := fld_get s hl
  exact ⟨_, s.2.1 ho, rfl, S.nof hc e5, dd, fs, v, e1, e2, e3, q v e4⟩
theorem sx_fld (S : XSite T Φ N sc M Y en ei a oe c dx) {x f : Str} {g : String} {p pos : Pos} (h1 : isEn en x = true) (h2 : fldX f = some g) (hc : ∃ k ∈ T.exc, k.key = c) : SX T Φ M Y en ei a c ps dx (.Attribute (.Name x p) f pos) (.fld g) := by
  obtain ⟨t, pe, q⟩ := fld_pe S (p := p) (pos := pos) (ps := ps) h1 h2 hc
  refine ⟨t, pe, fun R0 H0 R H σ ρ Q s pp => ?_⟩
  simp only [xv] at pp
  cases hl : ((xflds c).zip ps).lookup g with
  | none => rw [hl] at pp; exact pp.elim
  | some d =>
    rw [hl] at pp
    exact q s hl fun v r => PostE.here s.1.sub pp r
theorem sx_fty (S : XSite T Φ N sc M Y en ei a oe c dx) {x f y : Str} {g : String} {t : Ty} {gp p p2 p3 pos : Pos} (h1 : isEn en x = true) (hg : isG sc "isinstance" = true) (hg2 : isG sc y = true) (h2 : fldX f = some g) (ht : tyOf y = some t) (hc : ∃ k ∈ T.exc, k.key = c) :
    SX T Φ M Y en ei a c ps dx (.Call (.Name "isinstance" gp) [.Attribute (.Name x p) f p3, .Name y p2] [] pos) (.fty g t) := by
  obtain ⟨te, pe, q⟩ := fld_pe S (p := p) (pos := p3) (ps := ps) h1 h2 hc
  obtain ⟨g1, g2, g3⟩ := S.glob hg
  obtain ⟨k1, k2, k3⟩ := S.glob hg2
  obtain ⟨hm, hb⟩ := ty_boot ht
  have pn : PE Y (.Name y p2) (tC (.ty (tyS t))) := pe_bltn k1 (S.blt y hm) hb rfl k3 k2
  refine ⟨_, pe_callB call_isi g1 (S.blt _ (by simp [bltNames])) boot_isi (pa_cons pe (pa_cons pn pa_nil) rfl) g3 g2 rfl rfl, fun R0 H0 R H σ ρ Q s pp => ?_⟩
  simp only [xv] at pp
  cases hl : ((xflds c).zip ps).lookup g with
  | none => rw [hl] at pp; exact pp.elim
  | some d =>
    rw [hl] at pp
    refine q s hl fun v r => ?_
    obtain ⟨u, ty, kt⟩ := tyx s.1.sub r t
    exact ⟨v, _, _, _, _, rfl, .ty _, ty, kit_ty kt, PostE.here s.1.sub pp (.bl _)⟩
/-- a def is called with what was caught -/
theorem sx_call (S : XSite T Φ N sc M Y en ei a oe c dx) {x g : Str} {q : Str × String} {gp p pos : Pos} (h1 : isEn en x = true) (hg : isG sc g = true) (h2 : T.xd.find? (fun q => decide (q.1 = g)) = some q) :
    SX T Φ M Y en ei a c ps dx (.Call (.Name g gp) [.Name x p] [] pos) (.call q.2) := by
  obtain ⟨ho, pe⟩ := S.pe_e (p := p) h1
  obtain ⟨g1, g2, g3⟩ := S.glob hg
  have hn := List.find?_some h2
  simp only [decide_eq_true_eq] at hn
  obtain ⟨f, fd, pr, e1, e2, e3, F⟩ := (S.exc.xd q (List.mem_of_find?_eq_some h2)).ex
  rw [hn] at e1
  refine ⟨fun σ H Q => tCons (tVar ei) tNil σ H fun vs H1 => spX T Y.K Φ q.2 (a, oe) vs H1 Q (fun _ _ _ => False), ⟨fun pins s σ H Q I h => ?_⟩, fun R0 H0 R H σ ρ Q s pp => ?_⟩
  · refine wpAny_Call_Name_kw (ld_glob I g1 e1 ?_ g2)
    refine PySem.W.callWith_K (h₀ := Y.base) I.ok.mod.kin e2 (thn ((pa_cons pe pa_nil rfl : PA Y [.Name x p] _).run pos pins s σ H (fun vs H1 => spX T Y.K Φ q.2 (a, oe) vs H1 Q (fun _ _ _ => False)) I h) fun us s1 hh => ?_) rfl rfl
    obtain ⟨vs, H1, I1, r1, hsp⟩ := hh
    refine ⟨I1.kIn, ?_⟩
    have hl : us.length = pr.length := by
      obtain ⟨_, _, _, _, ev, _⟩ := hsp
      rw [F.one, ← r1.length, ev]
      rfl
    have b := e3 s1 us I1.kIn (by rw [List.append_nil]; exact hl)
    rw [List.append_nil] at b
    have P1 := I1.pin (a, oe) (List.mem_append_left _ S.pin.mem)
    have hpin : L2H.PinOk Y.stack H1 s1 (a, oe) := ⟨P1.1, P1.2.1, fun hm => (List.mem_cons.mp (I1.stkSub _ hm)).elim P1.2.2.1 P1.2.2.2.1, P1.2.2.2.2⟩
    refine wpAny_call (codeAny_mono (F.goes Y.A Y.stack s1 H1 ⟨us, []⟩ us vs Q (a, oe) ((S.exc.room fun z => by rw [z] at h2; cases h2).mono (by decide)) hpin I1.env0 b r1 hsp) fun r s' hq => ?_)
    cases r with
    | error e =>
      obtain ⟨_, _, _, _, _, _, _, _, _, _, _, _, z⟩ := hq
      exact z.elim
    | ok fl =>
      cases fl with
      | ret u => exact I1.after hq
      | next => exact False.elim hq
      | brk => exact False.elim hq
      | cont => exact False.elim hq
  · simp only [xv] at pp
    exact ⟨_, s.2.1 ho, c, ps, dx, R, rfl, S.pin.zc, S.pin.dat, ⟨s.1.sub, s.1.tab⟩, s.2.2, pp⟩
end
/-! ### every such expression -/
section
variable {T : Tab} {Φ : FEnv} {N : List Str} {sc : Scope} {M : Ow} {Y : Cx} {en : Str} {ei : Nat} {a : Addr} {oe : Obj} {c : String} {ps : List D} {dx : Option Addr}
theorem trXE_star {n : Nat} {e : Expr} {x : XE} (h : trXE T N sc M en n e = some x) {es : List Expr} {env : PySem.Env} : starEach (e :: es) env = (false, eval e env) :: starEach es env ∧ notComp e = true := by
  cases n with
  | zero => simp only [trXE] at h; cases h
  | succ n => cases e <;> first | exact ⟨rfl, rfl⟩ | (simp only [trXE] at h; cases h; done)
theorem all_sx (S : XSite T Φ N sc M Y en ei a oe c dx) (hc : ∃ k ∈ T.exc, k.key = c) : ∀ n, (∀ e x, trXE T N sc M en n e = some x → SX T Φ M Y en ei a c ps dx e x) ∧ ∀ es xs, trXL T N sc M en n es = some xs → SXL T Φ M Y en ei a c ps dx es xs := by
  intro n
  induction n with
  | zero => exact ⟨fun e x h => (by simp only [trXE] at h; cases h), fun e x h => (by simp only [trXL] at h; cases h)⟩
  | succ n ih =>
    obtain ⟨ie, il⟩ := ih
    refine ⟨fun e x h => ?_, fun es xs h => ?_⟩
    · cases e with
      | Constant k j p =>
        simp only [trXE] at h
        obtain ⟨d, h1, rfl⟩ := Option.map_eq_some_iff.mp h
        exact sx_cst h1
      | Name y p =>
        simp only [trXE] at h
        obtain ⟨h1, h⟩ := oifn h
        obtain ⟨i, h2, h⟩ := obind h
        obtain ⟨h3, h⟩ := oifn h
        cases h
        exact sx_var S h2 fun q => h3 (Ow.contains_iff.mpr q)
      | UnaryOp o e p =>
        cases o <;> simp only [trXE] at h <;> first | (cases h; done) | skip
        obtain ⟨y, h1, rfl⟩ := Option.map_eq_some_iff.mp h
        exact sx_not (ie _ _ h1)
      | BoolOp o vs p =>
        rcases vs with _ | ⟨e, _ | ⟨f, r⟩⟩
        · simp only [trXE] at h; cases h
        · simp only [trXE] at h
          exact sx_one (ie _ _ h)
        · simp only [trXE] at h
          obtain ⟨x1, h1, h⟩ := obind h
          obtain ⟨y1, h2, h⟩ := obind h
          cases h
          cases o
          · exact sx_and (ie _ _ h1) (ie _ _ h2)
          · exact sx_or (ie _ _ h1) (ie _ _ h2)
      | List es p =>
        simp only [trXE] at h
        obtain ⟨y, h1, rfl⟩ := Option.map_eq_some_iff.mp h
        exact sx_lst (il _ _ h1)
      | BinOp e o f p =>
        cases o <;> simp only [trXE] at h <;> first | (cases h; done) | skip
        obtain ⟨x1, h1, h⟩ := obind h
        obtain ⟨y1, h2, h⟩ := obind h
        cases h
        exact sx_add (ie _ _ h1) (ie _ _ h2)
      | Attribute o f p =>
        cases o <;> simp only [trXE] at h <;> first | (cases h; done) | skip
        obtain ⟨h1, h⟩ := oif h
        obtain ⟨y, h2, rfl⟩ := Option.map_eq_some_iff.mp h
        exact sx_fld S h1 h2 hc
      | Call g as ks p =>
        simp only [trXE] at h
        split at h <;> rename_i q <;> first | (cases q; done) | (cases h; done) | skip
        · cases q
          obtain ⟨⟨h1, h2⟩, h⟩ := oif h
          obtain ⟨y, h3, rfl⟩ := Option.map_eq_some_iff.mp h
          exact sx_call S h1 h2 h3
        · cases q
          have hh := oif h
          clear h
          obtain ⟨⟨h1, h2, h3⟩, h⟩ := hh
          subst h2
          obtain ⟨y, h4, rfl⟩ := Option.map_eq_some_iff.mp h
          exact sx_isI S h1 h3 h4 hc
        · cases q
          have hh := oif h
          clear h
          obtain ⟨⟨h1, h2, h3, h5⟩, h⟩ := hh
          subst h2
          obtain ⟨y, h4, rfl⟩ := Option.map_eq_some_iff.mp h
          exact sx_isM S h1 h3 h4 h5 hc
        · cases q
          have hh := oif h
          clear h
          obtain ⟨⟨h1, h2, h3, h5⟩, h⟩ := hh
          subst h2
          obtain ⟨y, h4, h⟩ := obind h
          obtain ⟨z, h6, rfl⟩ := Option.map_eq_some_iff.mp h
          exact sx_fty S h1 h3 h5 h4 h6 hc
      | _ => simp only [trXE] at h; cases h
    · rcases es with _ | ⟨e, r⟩
      · simp only [trXL] at h
        cases h
        exact sxl_nil
      · have h2 : ((trXE T N sc M en n e).bind fun x => (trXL T N sc M en n r).bind fun xs => some (XL.cons x xs)) = some xs := by
          cases e <;> first | exact h | (simp only [trXL] at h; first | exact h | cases h)
        obtain ⟨y, h3, h2⟩ := obind h2
        obtain ⟨ys, h4, h2⟩ := obind h2
        cases h2
        exact sxl_cons (ie _ _ h3) (il _ _ h4) (trXE_star h3).1
/-! ### tests -/
def SXT (T : Tab) (Φ : FEnv) (M : Ow) (Y : Cx) (en : Str) (ei : Nat) (a : Addr) (c : String) (ps : List D) (dx : Option Addr) (w : Bool) (e : Expr) (x : XE) : Prop :=
  ∃ t : TT, (if w then PW Y e t else PT Y e t) ∧ ∀ R0 H0 R H σ ρ Q, XSt T M Y.K en ei a c ps dx R0 H0 R H σ ρ → PostE (XRd T Y.K) R H (fun _ _ b k => b = k) ((xv Φ c ((xflds c).zip ps) x ρ).bind truR) Q (fun _ _ _ => False) → t σ H Q
theorem SXT.pt {e : Expr} {x : XE} {w : Bool} (h : SXT T Φ M Y en ei a c ps dx w e x) : SXT T Φ M Y en ei a c ps dx false e x := by
  obtain ⟨t, p, q⟩ := h
  cases w with
  | false => exact ⟨t, p, q⟩
  | true => exact ⟨t, (show PW Y e t from p).pt, q⟩
theorem all_sxt (S : XSite T Φ N sc M Y en ei a oe c dx) (hc : ∃ k ∈ T.exc, k.key = c) : ∀ n e x, trXT T N sc M en n e = some x → SXT T Φ M Y en ei a c ps dx (match e with | .BoolOp .. => true | _ => false) e x := by
  intro n
  induction n with
  | zero => intro e x h; simp only [trXT] at h; cases h
  | succ n ih =>
    intro e x h
    cases e with
    | BoolOp o vs p =>
      cases o
      · simp only [trXT] at h; cases h
      · rcases vs with _ | ⟨e, _ | ⟨f, r⟩⟩
        · simp only [trXT] at h; cases h
        · simp only [trXT] at h
          obtain ⟨t, pp, q⟩ := (ih e x h).pt
          exact ⟨t, pw_or1 (show PT Y e t from pp), q⟩
        · simp only [trXT] at h
          obtain ⟨x1, h1, h⟩ := obind h
          obtain ⟨y1, h2, h⟩ := obind h
          cases h
          obtain ⟨ta, pa, ha⟩ := (ih e x1 h1).pt
          obtain ⟨tb, pb, hb⟩ := ih _ y1 h2
          refine ⟨_, pw_or (show PT Y e ta from pa) (show PW Y _ tb from pb), fun R0 H0 R H σ ρ Q s p => ?_⟩
          simp only [xv] at p
          refine ha R0 H0 R H σ ρ _ s ?_
          generalize xv Φ c ((xflds c).zip ps) x1 ρ = q at p ⊢
          cases q with
          | ok z =>
            cases z with
            | bl k =>
              intro k' R1 H1 e1 ek
              subst ek
              cases k' with
              | true =>
                show if true = true then Q true H1 else tb σ H1 Q
                rw [if_pos rfl]
                exact p true R1 H1 e1 rfl
              | false =>
                show if false = true then Q true H1 else tb σ H1 Q
                rw [if_neg Bool.false_ne_true]
                exact hb R0 H0 R1 H1 σ ρ _ (s.later e1) (PostE.later p e1)
            | _ => exact p.elim
          | exc c ps => exact p
          | stuck => exact p
    | Call g as ks p =>
      simp only [trXT] at h
      obtain ⟨ta, pa, ha⟩ := (all_sx (ps := ps) S hc EF).1 _ _ h
      refine ⟨_, pt_truth pa (fun whole => rfl), fun R0 H0 R H σ ρ Q s p => ?_⟩
      refine ha R0 H0 R H σ ρ _ s (p.first fun z vz R1 H1 e1 r1 p1 => ?_)
      cases hk : truR z with
      | ok k =>
        rw [hk] at p1
        exact ⟨k, bits_tru e1.sub (.inl r1) hk, p1 k R1 H1 (Ext.refl e1.sub) rfl⟩
      | exc c ps => cases z <;> cases hk
      | stuck => rw [hk] at p1; exact p1.elim
    | _ => simp only [trXT] at h; cases h
/-! ### statements -/
theorem SR.off {K : PySem.W.Frag} {R0 H0 R H : Hp} {σ : L2.St} {ρ : Rho} {i : Nat} (s : SR K M R0 H0 R H σ ρ) (hi : i ∉ M) (u : Option V) : SR K M R0 H0 R H (σ.set i u) (ρ.set i none) := by
  have ne : ∀ {j : Nat} {d : D}, (ρ.set i none)[j]? = some (some d) → i ≠ j ∧ ρ[j]? = some (some d) := fun {j d} h => by
    by_cases e : i = j
    · subst e
      by_cases hl : i < ρ.length
      · rw [List.getElem?_set_self hl] at h; cases h
      · rw [List.getElem?_eq_none (by rw [List.length_set]; omega)] at h; cases h
    · rw [List.getElem?_set_ne e] at h
      exact ⟨e, h⟩
  refine ⟨s.ext, by rw [List.length_set, List.length_set, s.len], fun j e h => ?_, fun j k b d e hjk hj hk h1 h2 h3 h4 => ?_, s.own.cong fun j hj d hd => ?_, s.dis, fun j hj => ?_, s.tab⟩
  · obtain ⟨e1, e2⟩ := ne h
    obtain ⟨v, q1, q2⟩ := s.val j e e2
    exact ⟨v, by rw [List.getElem?_set_ne e1]; exact q1, q2⟩
  · obtain ⟨e1, q1⟩ := ne h1
    obtain ⟨e2, q2⟩ := ne h2
    rw [List.getElem?_set_ne e1] at h3
    rw [List.getElem?_set_ne e2] at h4
    exact s.sep j k b d e hjk hj hk q1 q2 h3 h4
  · obtain ⟨e1, q1⟩ := ne hd
    exact ⟨q1, List.getElem?_set_ne e1⟩
  · have e1 : i ≠ j := fun z => hi (z ▸ .inr (.inr (.inr hj)))
    rw [List.getElem?_set_ne e1]
    exact s.pin j hj
def PostXs (K : PySem.W.Frag) (M : Ow) (R0 H0 R : Hp) (o : Out) (D : Ends) : Prop :=
  match o with
  | .nx ρ' => ∀ σ' R' H', Same R R' → SR K M R0 H0 R' H' σ' ρ' → D.nx σ' H'
  | .rt d ρ' => ∀ v σ' R' H', Same R R' → SR K M R0 H0 R' H' σ' ρ' → Rep K R' v d → D.rt v H'
  | _ => False
theorem PostXs.later {K : PySem.W.Frag} {R0 H0 R R1 : Hp} {o : Out} {D : Ends} (p : PostXs K M R0 H0 R o D) (e : Same R R1) : PostXs K M R0 H0 R1 o D := by
  cases o with
  | nx ρ => exact fun σ' R' H' q => p σ' R' H' (e.trans q)
  | rt d ρ => exact fun v σ' R' H' q => p v σ' R' H' (e.trans q)
  | _ => exact p
theorem PostXs.first {α β : Type} {K : PySem.W.Frag} {R0 H0 R H : Hp} {r : Res α} {f : α → Out} {rep : Hp → Hp → β → α → Prop} {Q : β → Hp → Prop} {ρ : Rho} {D : Ends}
    (p : PostXs K M R0 H0 R ((quiet r).out ρ f) D) (k : ∀ a b R1 H1, Ext R H R1 H1 → rep R1 H1 b a → PostXs K M R0 H0 R1 (f a) D → Q b H1) : PostE (XRd T K) R H rep r Q (fun _ _ _ => False) := by
  cases r with
  | ok a => exact fun b R' H' e y => k a b R' H' e y (p.later e.rr)
  | exc c ps => exact p.elim
  | stuck => exact p
def SXs (T : Tab) (Φ : FEnv) (M : Ow) (Y : Cx) (en : Str) (ei : Nat) (a : Addr) (c : String) (ps : List D) (dx : Option Addr) (ss : List Stmt) (b : List XS) : Prop :=
  ∃ t : TS, PSs Y ss t ∧ ∀ R0 H0 R H σ ρ D, XSt T M Y.K en ei a c ps dx R0 H0 R H σ ρ → PostXs Y.K M R0 H0 R (xx Φ c ((xflds c).zip ps) b ρ) D → t D σ H
theorem all_sxs (S : XSite T Φ N sc M Y en ei a oe c dx) (hc : ∃ k ∈ T.exc, k.key = c) : ∀ ss b, trXS T N sc M en ss = some b → SXs T Φ M Y en ei a c ps dx ss b := by
  intro ss
  induction ss with
  | nil =>
    intro b h
    cases h
    exact ⟨_, pss_nil, fun R0 H0 R H σ ρ D s p => p σ R H (Same.refl _) s.1⟩
  | cons st r ih =>
    intro b h
    unfold trXS at h
    split at h
    · rename_i q; cases q
    · rename_i x px e pos r' q
      cases q
      obtain ⟨hx, h⟩ := oifn h
      obtain ⟨i, h1, h⟩ := obind h
      obtain ⟨y, h2, h⟩ := obind h
      obtain ⟨ys, h3, h⟩ := obind h
      cases h
      obtain ⟨te, pe, qe⟩ := (all_sx (ps := ps) S hc EF).1 _ _ h2
      obtain ⟨tr, pr, qr⟩ := ih _ h3
      obtain ⟨q1, q2, q3, q4⟩ := S.loc h1
      refine ⟨_, pss_cons (ps_set (by rw [S.nE]; exact S.nd) q1 q2 pe (notComp_sw (trXE_star h2 (es := []) (env := Y.env)).2) q3) pr, fun R0 H0 R H σ ρ D s p => ?_⟩
      simp only [xx] at p
      refine qe R0 H0 R H σ ρ _ s (p.first fun d v R1 H1 e1 r1 p1 => ?_)
      refine qr R0 H0 R1 H1 _ _ _ ⟨(s.later e1).1.set q4 r1, fun ho => ?_, (s.later e1).2.2⟩ p1
      have : i ≠ ei := fun z => by
        obtain ⟨k1, _⟩ := S.ei ho
        rw [S.nE, z, k1] at q1
        exact hx (Option.some.inj q1).symm
      rw [List.getElem?_set_ne this]
      exact s.2.1 ho
    · rename_i e pos r' q
      cases q
      obtain ⟨y, h2, h⟩ := obind h
      obtain ⟨ys, h3, h⟩ := obind h
      cases h
      obtain ⟨te, pe, qe⟩ := (all_sx (ps := ps) S hc EF).1 _ _ h2
      obtain ⟨tr, pr, qr⟩ := ih _ h3
      refine ⟨_, pss_cons (ps_ret pe) pr, fun R0 H0 R H σ ρ D s p => ?_⟩
      simp only [xx] at p
      exact qe R0 H0 R H σ ρ _ s (p.first fun d v R1 H1 e1 r1 p1 => p1 v σ R1 H1 (Same.refl _) (s.later e1).1 r1)
    · rename_i k e pos pos2 r' q
      cases q
      obtain ⟨x, h1, h⟩ := obind h
      obtain ⟨y, h2, h⟩ := obind h
      obtain ⟨ys, h3, h⟩ := obind h
      cases h
      obtain ⟨tk, pk, qk⟩ := (all_sxt (ps := ps) S hc EF _ _ h1).pt
      obtain ⟨te, pe, qe⟩ := (all_sx (ps := ps) S hc EF).1 _ _ h2
      obtain ⟨tr, pr, qr⟩ := ih _ h3
      refine ⟨_, pss_cons (ps_if (show PT Y k tk from pk) (pss_one (ps_ret pe)) pss_nil) pr, fun R0 H0 R H σ ρ D s p => ?_⟩
      simp only [xx] at p
      refine qk R0 H0 R H σ ρ _ s (p.first fun d b R1 H1 e1 r1 p1 => ?_)
      subst r1
      cases b with
      | true => exact qe R0 H0 R1 H1 σ ρ _ (s.later e1) (p1.first fun d v R2 H2 e2 r2 p2 => p2 v σ R2 H2 (Same.refl _) ((s.later e1).later e2).1 r2)
      | false => exact qr R0 H0 R1 H1 σ ρ _ (s.later e1) p1
    · cases h
end
end Ps
end
section
set_option maxHeartbeats 4000000
/-! PsTry: try with some except clauses, each with a name or without. -/
namespace Ps
open PySem PySem.Spec PyProof.Rows L2
abbrev HT := Addr → Value → Option Addr → TS
/-- the ends of a suite whose exception has the slot i -/
def endX (D : Ends) : Option Nat → Ends
  | none => D
  | some i => { nx := fun σ H => D.nx (σ.set i none) H, rt := D.rt, bk := fun σ H => D.bk (σ.set i none) H, ct := fun σ H => D.ct (σ.set i none) H }
def slotX (σ : L2.St) (a : Addr) : Option Nat → L2.St
  | none => σ
  | some i => σ.set i (some (.ref a))
/-- what the clauses wish, one behind the other -/
def wHs (K : PySem.W.Frag) (Wo : WX) (D : Ends) : List (Value × Option Nat × HT) → WX
  | [] => Wo
  | h :: r => fun cls d σ H => ∃ b, PySem.W.exmOne K cls h.1 = some b ∧ (b = true → ∀ a, H a = none → h.2.2 a cls d (endX D h.2.1) (slotX σ a h.2.1) H) ∧ (b = false → wHs K Wo D r cls d σ H)
inductive HsOk (X : Cx) : List ExceptHandler → List (Value × Option Nat × HT) → Prop
  | nil : HsOk X [] []
  | cons {x : Str} {n : Option Str} {c : Value} {i : Option Nat} {ts : HT} {b₀ : Stmt} {su : List Stmt} {p1 p2 : Pos} {hs : List ExceptHandler} {l : List (Value × Option Nat × HT)} (hc : Names X x c)
      (hn : (n = none ∧ i = none) ∨ ∃ m j, n = some m ∧ i = some j ∧ X.N[j]? = some m ∧ X.env.kindOf m = some .local)
      (hsu : ∀ (a : Addr) (oe : Obj) (cls : Value) (d : Option Addr) (pn : List (Addr × Obj)), Zc cls d oe → (∃ vs, oe.data = .fields vs) → PSs (X.suite a ((a, oe) :: pn)) (b₀ :: su) (ts a cls d)) (r : HsOk X hs l) :
      HsOk X (.ExceptHandler (some (.Name x p1)) n (b₀ :: su) p2 :: hs) ((c, i, ts) :: l)
section
variable {X : Cx} {body : List Stmt} {h₀ : ExceptHandler} {hs : List ExceptHandler} {l : List (Value × Option Nat × HT)} {pos : Pos} {tb : WX → TS} {Wo : WX}
theorem ps_try_hs (st : X.stack = X.env :: X.outer) (fr : X.env.frame = some X.env.locals) (nd : X.N.Nodup) (tk : Takes X Wo)
    (hb : ∀ (W : WX) (pn : List (Addr × Obj)) (xe : Value → Shared → Prop), Takes (X.tr pn xe) W → PassesOwn (model X.prog X.w) X.A X.env xe → PSs (X.tr pn xe) body (tb W))
    (hh : HsOk X (h₀ :: hs) l) : PS X (.Try body (h₀ :: hs) [] [] pos) (fun D σ H => tb (wHs X.K Wo D l) D σ H) := by
  refine ⟨fun pins s σ H D I go => ?_⟩
  have ok := I.ok
  have frames : X.A.frames = some (X.env :: X.outer) := by rw [← st]; exact ok.frames
  refine wpAny_Try_except (wpAny_mono ((hb (wHs X.K Wo D l) (X.pn ++ pins) (fun e t₁ => wpAny (model X.prog X.w) X.A (noteFrame e X.env) (fun _ t₂ => wpAny (model X.prog X.w) X.A (setFlight e none)
    (fun _ t₃ => wpAny (model X.prog X.w) X.A (handleBy e X.env (h₀ :: hs)) (SP X pins D) X.xe t₃) X.xe t₂) X.xe t₁) ?takes PassesOwn.looking).run [] s σ H D (I.toTry _) go) ?ends fun _ _ z => z)
  case ends =>
    intro f t sp
    have back : ∀ {xe : Value → Shared → Prop} {τ : L2.St} {G : Hp}, Inv (X.tr (X.pn ++ pins) xe) [] τ G t → Inv X pins τ G t := fun J => J.ofTry ok
    cases f with
    | next => obtain ⟨τ, G, J, q⟩ := sp; exact wpAny_execs_nil ⟨τ, G, back J, q⟩
    | brk => obtain ⟨τ, G, J, q⟩ := sp; exact ⟨τ, G, back J, q⟩
    | cont => obtain ⟨τ, G, J, q⟩ := sp; exact ⟨τ, G, back J, q⟩
    | ret u => obtain ⟨v, τ, G, J, r, q⟩ := sp; exact ⟨v, τ, G, back J, r, q⟩
  case takes =>
    intro u t flown
    obtain ⟨a, B, t0, pins', τ, G, cls, d, rfl, J', keptB, slots, sky, free, os, bare, wish⟩ := flown
    have J : Inv X pins τ G t0 := J'.ofTry ok
    have sky : Sky B (X.env :: X.outer) a (Zc cls d) X.env.locals t.heap := by rw [← st]; exact sky
    refine Sky.land Zc.steady frames fr sky fun h3 fl3 up3 => ?_
    have J3 : Inv X pins τ G { t with heap := h3 } := J.landed keptB fl3.1 (slots.trans up3) os bare
    obtain ⟨o3, us3, at3, z3, dat3⟩ := fl3.there
    have outside : a ∉ frs (X.env :: X.outer) := fun hm => by
      obtain ⟨_, o', at', hnf⟩ := fl3.2.2.1.mem hm
      rw [at3] at at'
      cases at'
      exact hnf _ dat3
    have offL : a ≠ X.env.locals := fun z => outside (List.mem_filterMap.mpr ⟨X.env, List.mem_cons_self, by rw [z]; exact fr⟩)
    have offF : a ∉ X.fs := fun hm => by
      obtain ⟨e, he, q⟩ := List.mem_filterMap.mp hm
      exact outside (List.mem_filterMap.mpr ⟨e, List.mem_cons_of_mem _ he, q⟩)
    have S3 := J3.suite at3 dat3 free offL offF
    have look : PySem.W.Looks (model X.prog X.w) h3 (typeOf (.ref a)) cls := fun _ _ _ t' k q => wpAny_typeOf_ref (k _ _ at3) (by rw [z3.1]; exact q)
    have each : ∀ {hs' : List ExceptHandler} {l' : List (Value × Option Nat × HT)}, HsOk X hs' l' → wHs X.K Wo D l' cls d τ G → wpAny (model X.prog X.w) X.A (handleBy (.ref a) X.env hs') (SP X pins D) X.xe { t with heap := h3 } := by
      intro hs' l' hk
      induction hk with
      | nil =>
        intro w
        refine wpAny_handleBy_nil ?_
        obtain ⟨g1, g2, g3, oe, us, T, oT, ts', at_, z_, dat_, one_, rest⟩ := id fl3
        unfold PySem.passOn
        refine wpAny_bind (wpAny_field at_ dat_ one_ ?_)
        rw [if_neg (show ¬ ((Value.ref T == Value.none) = true) by simp)]
        have out : wpAny (model X.prog X.w) X.A (setFlight (.ref a) X.env.frame) (fun _ t4 => wpAny (model X.prog X.w) X.A (throw (.ref a) : Sem Flow) (SP X pins D) X.xe t4) X.xe { t with heap := h3 } := by
          rw [fr]
          refine HandSPX.setFlight_upZ fl3 fun h4 hh4 up4 => wpAny_throw (tk _ _ ⟨a, B, t0, pins, τ, G, cls, d, rfl, J, keptB, (slots.trans up3).trans up4, .inr (.inr ?_), free, os, bare, w⟩)
          rw [st]
          exact hh4
        first | exact wpAny_bind (wpAny_pure (wpAny_bind out)) | exact wpAny_bind out
      | @cons x n c i ts b₀ su p1 p2 hs2 l2 hc hn hsu r ih =>
        intro w
        obtain ⟨b, hb1, yes, no⟩ := w
        refine wpAny_handleBy_cons (codeAny_handlers_test ?_) (fun q => by cases q)
        have hit := PySem.W.exm_one (M := model X.prog X.w) J3.kIn look hb1
        have ask : ∀ {Q : Value → Shared → Prop} {E : Value → Shared → Prop}, Q c { t with heap := h3 } → wpAny (model X.prog X.w) (X.A.mark (some (.ref a))) (eval (.Name x p1) X.env) Q E { t with heap := h3 } := fun {Q E} q => by
          obtain ⟨g1, g2, g3 | ⟨g3, g4, g5⟩⟩ := hc
          · exact ld_glob (X := X.suite a ((a, o3) :: (X.pn ++ pins))) S3 g1 g3 q g2
          · exact ld_blt (X := X.suite a ((a, o3) :: (X.pn ++ pins))) S3 g1 g3 g4 q g5 g2
        refine ask (hit.here ?_)
        cases b with
        | false => exact ih (no rfl)
        | true =>
          have go := yes rfl a free
          have tail : ∀ (h4 : Heap) (o4 : Obj) (us4 : Array Value), HandSPX.FlyingZ B (X.env :: X.outer) a (Zc cls d) h4 → h3.UpToSlots h4 → h4.get? a = some o4 → o4.data = .fields us4 → Inv (X.suite a ((a, o4) :: (X.pn ++ pins))) [] τ G { t with heap := h4 } := fun h4 o4 us4 fl4 up4 at4 dat4 =>
            (J.landed keptB fl4.1 ((slots.trans up3).trans up4) os bare : Inv X pins τ G { t with heap := h4 }).suite at4 dat4 free offL offF
          rcases hn with ⟨rfl, rfl⟩ | ⟨m, j, rfl, rfl, hj, hl⟩
          · refine codeAny_handlers_suite ?_
            refine HandSPX.lands_againZ fl3 fun h4 fl4 up4 => ?_
            obtain ⟨o4, us4, at4, z4, dat4⟩ := fl4.there
            refine wpAny_mono ((hsu a o4 cls d (X.pn ++ pins) z4 ⟨_, dat4⟩).run [] _ _ G _ (tail h4 o4 us4 fl4 up4 at4 dat4) go) (fun f t6 sp => ?_) fun _ _ z => False.elim z
            cases f with
            | next => obtain ⟨τ6, G6, S6, q6⟩ := sp; exact ⟨_, _, S6.unsuite ok, q6⟩
            | brk => obtain ⟨τ6, G6, S6, q6⟩ := sp; exact ⟨_, _, S6.unsuite ok, q6⟩
            | cont => obtain ⟨τ6, G6, S6, q6⟩ := sp; exact ⟨_, _, S6.unsuite ok, q6⟩
            | ret u => obtain ⟨v6, τ6, G6, S6, r6, q6⟩ := sp; exact ⟨_, _, _, S6.unsuite ok, r6, q6⟩
          · refine codeAny_handlers_suite_as ?_
            refine HandSPX.lands_againZ fl3 fun h4 fl4 up4 => ?_
            obtain ⟨o4, us4, at4, z4, dat4⟩ := fl4.there
            refine store_ok (X := X.suite a ((a, o4) :: (X.pn ++ pins))) (v := .ref a) (tail h4 o4 us4 fl4 up4 at4 dat4) nd hj (.inl hl) rfl (fun t5 S5 => ?_) (.inr hl)
            refine wpAny_mono ((hsu a o4 cls d (X.pn ++ pins) z4 ⟨_, dat4⟩).run [] t5 _ G _ S5 go) (fun f t6 sp => ?_) fun _ _ z => False.elim z
            have off : ∀ {τ6 : L2.St} {G6 : Hp} {Q : Shared → Prop}, Inv (X.suite a ((a, o4) :: (X.pn ++ pins))) [] τ6 G6 t6 → (∀ t7, Inv X pins (τ6.set j none) G6 t7 → Q t7) →
                wpAny (model X.prog X.w) X.A (do bindName X.env m .none; unbindBehindTheSuite X.env m p2) (fun _ t7 => Q t7) X.xe t6 := fun {τ6 G6 Q} S6 hq => gone_ok (S6.unsuite ok) nd hj hl hq
            cases f with
            | next => obtain ⟨τ6, G6, S6, q6⟩ := sp; exact off S6 fun t7 J7 => ⟨_, _, J7, q6⟩
            | brk => obtain ⟨τ6, G6, S6, q6⟩ := sp; exact off S6 fun t7 J7 => ⟨_, _, J7, q6⟩
            | cont => obtain ⟨τ6, G6, S6, q6⟩ := sp; exact off S6 fun t7 J7 => ⟨_, _, J7, q6⟩
            | ret u => obtain ⟨v6, τ6, G6, S6, r6, q6⟩ := sp; exact off S6 fun t7 J7 => ⟨_, _, _, J7, r6, q6⟩
    exact each hh wish
end
end Ps
end
section
set_option maxHeartbeats 4000000
/-! PsTry2: raise and try of the small language; defs that are called with what was caught. -/
namespace Ps
open PySem PySem.Spec PyProof.Rows L2
variable [Tbs]
section
variable {T : Tab} {Φ : FEnv} {XR : XRel} {N : List Str} {sc : Scope} {M : Ow} {X : Cx} {W : WX} {m h : List Nat}
theorem xcOf_ok (S : SiteS T Φ XR N sc X W) {x : Str} {k : XcT} (h : xcOf T sc x = some k) : k ∈ T.exc ∧ k.name = x ∧ XcOk T X.K X.mg k ∧ Gl X x ∧ (x == ("__debug__" : Str)) = false ∧ X.mg x = some (.ref (xa X.K k.key)) ∧ k.name = Str.ofString k.key := by
  unfold xcOf at h
  obtain ⟨hg, h⟩ := oif h
  have hm := List.mem_of_find?_eq_some h
  have hn := List.find?_some h
  simp only [decide_eq_true_eq] at hn
  have ok := S.exc.ok k hm
  obtain ⟨g1, g2, g3⟩ := glob_ok S.site hg
  have q := ok.mg
  rw [hn] at q
  refine ⟨hm, hn, ok, g1, g2, ?_, ok.key⟩
  rw [q, ← hn, ok.key]
theorem ss_rais (S : SiteS T Φ XR N sc X W) {e : Expr} {c : CS} {pos : Pos} (hr : trRais T sc e = some c) : SSt Φ XR M M.m h X W (.Raise (some e) none pos) c := by
  unfold trRais at hr
  split at hr
  · rename_i x p1 s j p2 p3
    obtain ⟨k, hk, hr⟩ := obind hr
    obtain ⟨⟨q1, q2⟩, hr⟩ := oif hr
    cases hr
    obtain ⟨hm, hn, ok, g1, g2, g3, g4⟩ := xcOf_ok S hk
    have made := ok.made q1
    have keep := ok.keep
    have sub := ok.sub
    have ty := ok.ty
    rw [g4] at made keep sub ty
    refine ⟨_, ps_raise S.site.calm S.site.takes (pmk_own PySem.F.excBase_ValueError made g3 keep (raises_own sub ty) g1 g2), fun R0 H0 R H σ ρ D sr p => ?_⟩
    have p : PostS XR X.K M.m h M R0 H0 R (if ([] : List Ps.D).length = (xflds k.key).length then Out.exc k.key [] ρ else .stuck) D W := p
    rw [q2, if_pos (show ([] : List Ps.D).length = ([] : List String).length from rfl)] at p
    obtain ⟨R2, h1, s2⟩ := sr.weak (m' := []) (fun i hi => by cases hi)
    refine p _ none σ R2 H h1 s2 ?_
    rw [S.exc.xr]
    exact ⟨rfl, ⟨k, hm, rfl⟩, [], .nil, by rw [q2]; rfl, fun _ => rfl, fun z => absurd q2 z⟩
  · cases hr
/-- the try's body stands in another place -/
theorem SiteS.tr (S : SiteS T Φ XR N sc X W) {pn : List (Addr × Obj)} {xe : Value → Shared → Prop} {W' : WX} (tk : Takes (X.tr pn xe) W') (ow : PassesOwn (model X.prog X.w) X.A X.env xe) : SiteS T Φ XR N sc (X.tr pn xe) W' :=
  ⟨⟨S.site.calm, S.site.nE, S.site.nd, S.site.scE, S.site.fnE, S.site.sigs, S.site.const, S.site.blt, tk, S.site.cls, S.site.lam⟩, ow, S.kind, S.mono, ⟨S.exc.xr, S.exc.ok, S.exc.ve, fun p hp => ⟨(S.exc.xd p hp).ex⟩, S.exc.room⟩, S.stk, S.frm⟩
/-- what a suite wishes -/
def tHd (T : Tab) (Φ : FEnv) (M : Ow) (K : PySem.W.Frag) (i : Option Nat) (b : List XS) : HT := fun a cls d D σ H =>
  ∃ (c : String) (ps : List Ps.D) (σ0 : L2.St) (R0 H0 R : Hp) (ρ : Rho), cls = .ref (xa K c) ∧ σ = slotX σ0 a i ∧ SR K M R0 H0 R H σ ρ ∧ XRd T K R H c ps cls d ∧ PostXs K M R0 H0 R (xx Φ c ((xflds c).zip ps) b ρ) D
theorem suite_ok (S : SiteS T Φ XR N sc X W) {en : Str} {i : Option Nat} {b : List XS} {ss : List Stmt} (hb : trXS T N sc M en ss = some b) (hi : (i = none ∧ en = noEn) ∨ ∃ j, i = some j ∧ N[j]? = some en ∧ sc.names.lookup en = some .local) {a : Addr} {oe : Obj} {cls : Value} {d : Option Addr} {pn : List (Addr × Obj)}
    (hz : Zc cls d oe) (hd : ∃ vs, oe.data = .fields vs) : PSs (X.suite a ((a, oe) :: pn)) ss (tHd T Φ M X.K i b a cls d) := by
  refine ⟨fun pins s σ H D I hh => ?_⟩
  obtain ⟨c, ps, σ0, R0, H0, R, ρ, rfl, rfl, sr, xr, p⟩ := hh
  have XS : XSite T Φ N sc M (X.suite a ((a, oe) :: pn)) en (i.getD 0) a oe c d := ⟨S.site.nE, S.site.nd, S.site.scE, S.site.fnE, ⟨List.mem_cons_self, hz, hd⟩,
    ⟨rfl, S.exc.ok, S.exc.ve, fun p hp => ⟨(S.exc.xd p hp).ex⟩, fun z => ⟨(S.exc.room z).dp, (S.exc.room z).un⟩⟩, S.site.blt, fun ho => by
      rcases hi with ⟨_, rfl⟩ | ⟨j, rfl, h1, h2⟩
      · exact absurd ho (by decide)
      · refine ⟨h1, .inl ?_⟩
        show X.env.scope.names.lookup en = _
        rw [S.site.scE]
        exact h2⟩
  obtain ⟨t, pt, q⟩ := all_sxs (ps := ps) XS xr.2.1 ss b hb
  refine pt.run pins s _ H D I (q R0 H0 R H _ ρ D ⟨sr, fun ho => ?_, xr⟩ p)
  rcases hi with ⟨_, rfl⟩ | ⟨j, rfl, h1, h2⟩
  · exact absurd ho (by decide)
  · have hl : (slotX σ0 a (some j)).length = N.length := by rw [I.len]; exact congrArg List.length S.site.nE
    have hj : j < N.length := (List.getElem?_eq_some_iff.mp h1).1
    unfold slotX at hl ⊢
    rw [List.length_set] at hl
    exact List.getElem?_set_self (by rw [hl]; exact hj)
theorem hs_ok (S : SiteS T Φ XR N sc X W) : ∀ {hs : List ExceptHandler} {zs : List (String × Option Nat × List XS)}, trHs T N sc (M.w []) hs = some zs →
    HsOk X hs (zs.map fun z => (.ref (xa X.K z.1), z.2.1, tHd T Φ (M.w []) X.K z.2.1 z.2.2)) ∧ ∀ z ∈ zs, (∃ k ∈ T.exc, k.key = z.1) ∧ ∀ i, z.2.1 = some i → i ∉ M.w []
  | [], zs, hz => by cases hz; exact ⟨.nil, fun z hz => by cases hz⟩
  | x :: hs, zs, hz => by
    unfold trHs at hz
    split at hz
    · rename_i q; cases q
    · rename_i y p1 en b r p2 hs' q
      cases q
      obtain ⟨k, h1, hz⟩ := obind hz
      obtain ⟨i, h2, hz⟩ := obind hz
      obtain ⟨h3, hz⟩ := oif hz
      obtain ⟨ys, h4, hz⟩ := obind hz
      obtain ⟨zs', h5, hz⟩ := obind hz
      cases hz
      obtain ⟨g1, g2⟩ := hs_ok S h5
      obtain ⟨hm, hn, ok, gg, gd, gm, gk⟩ := xcOf_ok S h1
      obtain ⟨l1, l2, l3, l4⟩ := loc_ok S.site h2
      refine ⟨.cons ⟨gg, gd, .inl gm⟩ (.inr ⟨en, i, rfl, rfl, l1, ?_⟩) (fun a oe cls d pn hz hd => suite_ok S h4 (.inr ⟨i, rfl, by rw [← S.site.nE]; exact l1, h3⟩) hz hd) g1, fun z hz => ?_⟩
      · unfold Env.kindOf
        rw [S.site.scE]
        exact h3
      · rcases List.mem_cons.mp hz with rfl | hz
        · exact ⟨⟨k, hm, rfl⟩, fun j hj => by cases hj; exact l4⟩
        · exact g2 z hz
    · rename_i y p1 b r p2 hs' q
      cases q
      obtain ⟨k, h1, hz⟩ := obind hz
      obtain ⟨ys, h4, hz⟩ := obind hz
      obtain ⟨zs', h5, hz⟩ := obind hz
      cases hz
      obtain ⟨g1, g2⟩ := hs_ok S h5
      obtain ⟨hm, hn, ok, gg, gd, gm, gk⟩ := xcOf_ok S h1
      refine ⟨.cons ⟨gg, gd, .inl gm⟩ (.inl ⟨rfl, rfl⟩) (fun a oe cls d pn hz hd => suite_ok S h4 (.inl ⟨rfl, rfl⟩) hz hd) g1, fun z hz => ?_⟩
      rcases List.mem_cons.mp hz with rfl | hz
      · exact ⟨⟨k, hm, rfl⟩, fun j hj => by cases hj⟩
      · exact g2 z hz
    · cases hz
/-- how a suite may end -/
def shX : Out → Prop
  | .nx _ => True
  | .rt _ _ => True
  | .stuck => True
  | _ => False
theorem quiet_out {α : Type} {r : Res α} {ρ : Rho} {f : α → Out} (h : ∀ a, shX (f a)) : shX ((quiet r).out ρ f) := by
  cases r with
  | ok a => exact h a
  | exc c ps => exact trivial
  | stuck => exact trivial
theorem xx_sh {c : String} {fs : List (String × Ps.D)} : ∀ (b : List XS) (ρ : Rho), shX (xx Φ c fs b ρ)
  | [], ρ => trivial
  | .asg i e :: r, ρ => quiet_out fun d => xx_sh r _
  | .ret e :: r, ρ => quiet_out fun d => trivial
  | .ifR k e :: r, ρ => quiet_out fun d => by
    cases d with
    | true => exact quiet_out fun d => trivial
    | false => exact xx_sh r _
/-- what the clauses wish, from what is wanted behind them -/
theorem wish_ok (S : SiteS T Φ XR N sc X W) {c : String} {ps : List D} {ρ : Rho} {R0 H0 R R' H' : Hp} {D : Ends} {cls : Value} {dx : Option Addr} {σ : L2.St} (e : Same R R') (sr : SR X.K (M.w []) R0 H0 R' H' σ ρ) (xr : XRd T X.K R' H' c ps cls dx) :
    ∀ {zs : List (String × Option Nat × List XS)}, (∀ z ∈ zs, (∃ k ∈ T.exc, k.key = z.1) ∧ ∀ i, z.2.1 = some i → i ∉ M.w []) →
      PostS XR X.K [] h M R0 H0 R (match zs.find? fun h => subX c h.1 with | some h => offO h.2.1 (xx Φ c ((xflds c).zip ps) h.2.2 (offX ρ h.2.1)) | none => .exc c ps ρ) D W →
      wHs X.K W D (zs.map fun z => (.ref (xa X.K z.1), z.2.1, tHd T Φ (M.w []) X.K z.2.1 z.2.2)) cls dx σ H'
  | [], _, p => p cls dx σ R' H' e sr (by rw [S.exc.xr]; exact xr)
  | z :: zs, hz, p => by
    obtain ⟨⟨k, hk, ek⟩, hi⟩ := hz z List.mem_cons_self
    obtain ⟨k0, hk0, e0⟩ := xr.2.1
    have q := (S.exc.ok k0 hk0).exm k hk
    rw [(S.exc.ok k0 hk0).key, (S.exc.ok k hk).key, ek, e0] at q
    have ecls := xr.1
    subst ecls
    refine ⟨_, q, fun hb a free => ?_, fun hb => ?_⟩
    · rw [List.find?_cons_of_pos (p := fun h : String × Option Nat × List XS => subX c h.1) hb] at p
      simp only at p
      have sr2 : SR X.K (M.w []) R0 H0 R' H' (slotX σ a z.2.1) (offX ρ z.2.1) := by
        cases e1 : z.2.1 with
        | none => exact sr
        | some i => exact sr.off (hi i e1) _
      refine ⟨c, ps, σ, R0, H0, R', _, rfl, rfl, sr2, xr, ?_⟩
      have p := PostS.later p e
      have sh := xx_sh (Φ := Φ) (c := c) (fs := (xflds c).zip ps) z.2.2 (offX ρ z.2.1)
      generalize xx Φ c ((xflds c).zip ps) z.2.2 (offX ρ z.2.1) = o at p sh ⊢
      cases o with
      | nx ρ' =>
        intro σ2 R2 H2 e2 s2
        have key : SR X.K (M.w []) R0 H0 R2 H2 (match z.2.1 with | none => σ2 | some i => σ2.set i none) (offX ρ' z.2.1) := by
          cases e1 : z.2.1 with
          | none => exact s2
          | some i => exact s2.off (hi i e1) _
        have := p _ R2 H2 e2 key
        cases e1 : z.2.1 with
        | none => rw [e1] at this; exact this
        | some i => rw [e1] at this; exact this
      | rt d ρ' =>
        intro v σ2 R2 H2 e2 s2 r2
        have := p v σ2 R2 H2 e2 s2 r2
        cases e1 : z.2.1 <;> exact this
      | bk ρ' => exact sh.elim
      | ct ρ' => exact sh.elim
      | exc c' ps' ρ' => exact sh.elim
      | stuck => exact p
    · rw [List.find?_cons_of_neg (p := fun h : String × Option Nat × List XS => subX c h.1) (by rw [hb]; simp)] at p
      exact wish_ok S e sr xr (fun z hz' => hz z (List.mem_cons_of_mem _ hz')) p
theorem ss_try (S : SiteS T Φ XR N sc X W) {body : List Stmt} {hs : List ExceptHandler} {pos : Pos} {b : CS} {m1 : List Nat} {zs : List (String × Option Nat × List XS)} (hb : ∀ {X' : Cx} {W' : WX}, SiteS T Φ XR N sc X' W' → SSs Φ XR M m1 h X' W' body b)
    (hz : trHs T N sc (M.w []) hs = some zs) (hne : hs ≠ []) : SSt Φ XR M [] h X W (.Try body hs [] [] pos) (.tryX b zs) := by
  obtain ⟨h0, hs, rfl⟩ : ∃ x l, hs = x :: l := by
    cases hs with
    | nil => exact absurd rfl hne
    | cons x l => exact ⟨x, l, rfl⟩
  obtain ⟨g1, g2⟩ := hs_ok S hz
  let tb : WX → TS := fun W' D σ H => ∃ R0 H0 R ρ, SR X.K M R0 H0 R H σ ρ ∧ PostS XR X.K m1 h M R0 H0 R (ex Φ b ρ) D W'
  refine ⟨_, ps_try_hs (tb := tb) S.stk S.frm (by rw [S.site.nE]; exact S.site.nd) S.site.takes (fun W' pn xe tk ow => ?_) g1, fun R0 H0 R H σ ρ D sr p => ⟨R0, H0, R, ρ, sr, ?_⟩⟩
  · obtain ⟨t, pt, q⟩ := hb (S.tr tk ow)
    exact ⟨fun pins s σ H D I ⟨R0, H0, R, ρ, sr, p⟩ => pt.run pins s σ H D I (q R0 H0 R H σ ρ D sr p)⟩
  · simp only [ex] at p
    generalize ex Φ b ρ = o at p ⊢
    cases o with
    | nx ρ' => exact PostS.up (m := []) p (fun i hi => by cases hi)
    | rt d ρ' => exact p
    | bk ρ' => exact p
    | ct ρ' => exact p
    | exc c ps ρ' => exact fun cls dx σ' R' H' e s' x => wish_ok S e s' (by rw [S.exc.xr] at x; exact x) g2 p
    | stuck => exact p
end
/-! ### defs that are called with what was caught -/
theorem fn_x {CX : CXT} {P : Program} {w : World} {K : PySem.W.Frag} {mg : Str → Option Value} {base : Heap} {f : Addr} {name qual : Str} {params : Arguments} {body : List Stmt} {scope : Scope} {dV kV doc pm cdv ct oc : Value} {an od : Option Addr} {osl : Array (Option Value)} {N ps : List Str} {sp : Addr × Obj → Sp}
    (lk : K.lookup f = some ⟨oc, od, .func (PySem.W.fnOf name qual params body scope dV kV doc pm an cdv ct), osl⟩) (hcd : PySem.W.codeIn K cdv qual = true) (S : FnScope N ps scope) (one : ps.length = 1) (len : ∀ p vs H Q E, sp p vs H Q E → vs.length = 1)
    (hbody : ∀ (A : Around) (outer : List Env) (s : Shared) (H : Hp) (vs : List V) (Q : VK) (p : Addr × Obj), sp p vs H Q (fun _ _ _ => False) →
      ∃ t, PSs (L2H.cxH CX P w K mg base N qual scope f cdv A outer s H (fun _ _ _ => False) p) body t ∧ t { nx := fun _ H' => Q .non H', rt := Q } (L2.start N vs) H) :
    FnP P w K mg base CX 1 f (PySem.W.fnOf name qual params body scope dV kV doc pm an cdv ct) ps sp := by
  refine ⟨one, fun A outer s H args us vs Q p room pinned e0 binds vals hsp => ?_⟩
  have two : vs.length = ps.length := by rw [one]; exact len _ _ _ _ _ hsp
  have inK : K.In s.heap := e0.mod.kin.keeps fun b o e => (e0.bs b o e).1
  have nolim : s.heap.NoLimit := e0.mod.nolimit.keeps fun b o e => (e0.bs b o e).1
  have kinds : ∀ y ∈ ps.zip us, scope.names.lookup y.1 = some .local ∨ (scope.names.lookup y.1 = some .cell ∧ ((cellsFrom (s.heap.objs.size + 1) scope.names []).lookup y.1).isSome = true) := by
    rintro ⟨n, v⟩ hy
    exact (S.par n (List.of_mem_zip hy).1).imp id fun q => ⟨q, PySem.W.cellsFrom_some _ _ _ (.inl q)⟩
  refine codeAny_call_function room.depth (inK _ _ lk) rfl S.co S.gen rfl (PySem.W.codeRec_of inK hcd) (binds _ _ _ _ ?_)
  refine wpAny_newFunctionEnv_cells S.kind kinds fun env he s1 x => ?_
  subst he
  refine ⟨nolim.keeps x.toInCall.keep, codeAny_func ?_⟩
  obtain ⟨t, pt, q⟩ := hbody A outer s H vs Q p hsp
  have I := L2H.inv_startH (CX := CX) (E := fun _ _ _ => False) (qual := qual) (f := f) (cd := cdv) (A := A) S pinned e0 two vals x
  refine wpAny_mono (pt.run [] s1 (L2.start N vs) H _ I q) (fun fl s' z => ?_) fun _ _ z => z
  cases fl with
  | ret u => obtain ⟨v, σ', H', J, r, q⟩ := z; exact ⟨v, H', J.os, J.bare, J.base, J.hok, r, q⟩
  | next => obtain ⟨σ', H', J, q⟩ := z; exact ⟨.non, H', J.os, J.bare, J.base, J.hok, rfl, q⟩
  | brk => obtain ⟨_, _, _, z⟩ := z; exact z.elim
  | cont => obtain ⟨_, _, _, z⟩ := z; exact z.elim
/-- the table without such defs -/
def Tab.noXd (T : Tab) : Tab := ⟨T.sigs, T.consts, T.cls, T.tb, T.exc, []⟩
def owX : Ow := ⟨[], [], [], [], [], fun _ => 0⟩
/-- such a def as it stands in the module -/
structure XDefP (T : Tab) (P : Prog) (K : PySem.W.Frag) (mg : Str → Option Value) (p : Str × String) : Prop where
  ex : ∃ (f : Addr) (fd : FuncData) (x qual : Str) (params : Arguments) (body : List Stmt) (scope : Scope) (N : List Str) (en : Str) (b : List XS),
    FunD K x qual params body scope [] [] f fd ∧ mg p.1 = some (.ref f) ∧ FnScope N [en] scope ∧ trXS T.noXd N scope owX en body = some b ∧ P p.2 = some ⟨1, N.length, .xdef b, []⟩ ∧ Binds K fd [en] []
theorem xdef_ok {T : Tab} {P : Prog} {prog : Program} {w : World} {K : PySem.W.Frag} {mg : Str → Option Value} {base : Heap} {pk : Str × String} (D : XDefP T P K mg pk) (ok : ∀ k ∈ T.exc, XcOk T K mg k) (ve : T.exc ≠ [] → mg "ValueError" = none) (blt : ∀ x ∈ bltNames, mg x = none) (k : Nat) :
    ∃ (f : Addr) (fd : FuncData) (ps : List Str), mg pk.1 = some (.ref f) ∧ PySem.W.keepIn K (.ref f) = true ∧ Binds K fd ps [] ∧ FnP prog w K mg base (L2.CX prog w) 1 f fd ps (spX T K (run P k) pk.2) := by
  obtain ⟨f, fd, x, qual, params, body, scope, N, en, b, F, hm, S, ht, hP, hb⟩ := D.ex
  refine ⟨f, fd, [en], hm, F.kp, hb, ?_⟩
  obtain ⟨oc, od, dV, kV, doc, pm, an, cdv, ct, osl, rfl, lk, hcd, _, _⟩ := F.ex
  refine fn_x lk hcd S rfl (fun p vs H Q E h => by obtain ⟨_, _, _, _, rfl, _⟩ := h; rfl) fun A outer s0 H vs Q q h => ?_
  obtain ⟨c, ps, dx, R, rfl, hz, hd, ⟨sm, tb⟩, xr, p⟩ := h
  have hN : 1 ≤ N.length := by have := congrArg List.length S.pre; rw [List.length_take] at this; simp at this; omega
  have h0 : N[0]? = some en := by
    have e := S.pre
    cases N with
    | nil => simp at hN
    | cons y r => simp at e; rw [e]; rfl
  have XS : XSite T.noXd (fun _ _ => .stuck) N scope owX (L2H.cxH (L2.CX prog w) prog w K mg base N qual scope f cdv A outer s0 H (fun _ _ _ => False) q) en 0 q.1 q.2 c dx := ⟨rfl, S.nd, rfl, rfl, ⟨List.mem_cons_self, hz, hd⟩,
    ⟨rfl, fun k hk => ⟨(ok k hk).key, (ok k hk).mg, (ok k hk).keep, (ok k hk).sub, (ok k hk).ty, (ok k hk).made, (ok k hk).exm, (ok k hk).kit, (ok k hk).ve, (ok k hk).ec, (ok k hk).xf, (ok k hk).nof⟩, ve, fun p hp => (by cases hp), fun z => absurd rfl z⟩, blt, fun _ => ⟨h0, ?_⟩⟩
  · obtain ⟨t, pt, q2⟩ := all_sxs (ps := ps) XS xr.2.1 body b ht
    refine ⟨t, pt, q2 R H R H _ ((some (.obj c ((xflds c).zip ps)) :: List.replicate (N.length - 1) none).set 0 none) _ ⟨?_, fun _ => rfl, xr⟩ ?_⟩
    · refine ⟨Ext.refl sm, ?_, fun i d h => ?_, fun i j a d e hij hi => (by cases hi), ⟨fun _ => [], fun i hi => (by cases hi), fun i hi => (by cases hi), fun i hi => (by cases hi)⟩, fun i hi => (by cases hi), fun i hi => (by cases hi), tb⟩
      · unfold L2.start
        simp
      · cases i with
        | zero => cases h
        | succ i =>
          rw [List.set_cons_zero, List.getElem?_cons_succ, List.getElem?_replicate] at h
          split at h <;> cases h
    · cases k with
      | zero => exact p.elim
      | succ k =>
        have e : run P (k + 1) pk.2 [.obj c ((xflds c).zip ps)] = endOf [] (xx (fun _ _ => .stuck) c ((xflds c).zip ps) b ((some (.obj c ((xflds c).zip ps)) :: List.replicate (N.length - 1) none).set 0 none)) := by
          simp only [run, hP]
          rfl
        rw [e] at p
        have sh := xx_sh (Φ := fun _ _ => .stuck) (c := c) (fs := (xflds c).zip ps) b ((some (.obj c ((xflds c).zip ps)) :: List.replicate (N.length - 1) none).set 0 none)
        generalize xx (fun _ _ => .stuck) c ((xflds c).zip ps) b ((some (.obj c ((xflds c).zip ps)) :: List.replicate (N.length - 1) none).set 0 none) = o at p sh ⊢
        cases o with
        | nx ρ => exact fun σ' R' H' e s' => p .non R' H' s'.ext .non
        | rt d ρ => exact fun v σ' R' H' e s' r => p v R' H' s'.ext r
        | bk ρ => exact sh.elim
        | ct ρ => exact sh.elim
        | exc c ps ρ => exact sh.elim
        | stuck => exact p.elim
  · rcases S.par en (by simp) with z | z
    · exact .inl z
    · exact .inr (.inl z)
end Ps
end
section
set_option maxHeartbeats 4000000
/-! PsS2: every statement that is told is told rightly. -/
namespace Ps
open PySem PySem.Spec PyProof.Rows L2
variable [Tbs]
section
variable {T : Tab} {N : List Str} {sc : Scope} {Φ : FEnv} {XR : XRel}
structure AllS (T : Tab) (N : List Str) (sc : Scope) (Φ : FEnv) (XR : XRel) (n : Nat) : Prop where
  s : ∀ {X : Cx} {W : WX} {h M st c m}, SiteS T Φ XR N sc X W → trS T N sc n h M st = some (c, m) → SSt Φ XR M m h X W st c
  o : ∀ {X : Cx} {W : WX} {h M st c m}, SiteS T Φ XR N sc X W → trS1 T N sc n h M st = some (c, m) → SSt Φ XR M m h X W st c
  b : ∀ {X : Cx} {W : WX} {h M st c m}, SiteS T Φ XR N sc X W → trB T N sc n h M st = some (c, m) → SSs Φ XR M m h X W st c
theorem cands_ok {M M1 : Ow} (h : M1 ∈ cands M) : ∃ m1, M1 = M.w m1 ∧ ∀ i ∈ m1, i ∈ M.m := by
  unfold cands at h
  rcases List.mem_append.mp h with h | h
  · rcases List.mem_cons.mp h with h | h
    · exact ⟨M.m, by rw [h]; rfl, fun i hi => hi⟩
    · obtain ⟨j, _, e⟩ := List.mem_map.mp h
      exact ⟨_, e.symm, fun i hi => (List.mem_filter.mp hi).1⟩
  · have e : M1 = M.w [] := by simpa using h
    exact ⟨[], e, fun i hi => by cases hi⟩
theorem headFix_ok {f : List Nat → Option (CS × List Nat)} : ∀ (k : Nat) {m : List Nat} {r : CS × List Nat}, headFix f k m = some r → ∃ m1, f r.2 = some (r.1, m1) ∧ (∀ i ∈ r.2, i ∈ m1) ∧ ∀ i ∈ r.2, i ∈ m
  | 0, m, r, h => by cases h
  | k + 1, m, r, h => by
    obtain ⟨q, h1, h⟩ := obind h
    by_cases c : m.all (q.2.contains ·) = true
    · simp only [c, if_true] at h
      cases h
      exact ⟨q.2, by rw [h1], fun i hi => List.contains_iff_mem.mp (List.all_eq_true.mp c i hi), fun i hi => hi⟩
    · simp only [c] at h
      obtain ⟨m1, h2, h3, h4⟩ := headFix_ok k h
      exact ⟨m1, h2, h3, fun i hi => (List.mem_filter.mp (h4 i hi)).1⟩
theorem all_trS {n : Nat} (A : AllS T N sc Φ XR n) {X : Cx} {W : WX} {h M st c m} (S : SiteS T Φ XR N sc X W) (e : trS T N sc (n + 1) h M st = some (c, m)) : SSt Φ XR M m h X W st c := by
  simp only [trS] at e
  rcases (Option.or_eq_some_iff.mp e) with e | ⟨_, e⟩
  · obtain ⟨M1, h1, h2⟩ := List.exists_of_findSome?_eq_some e
    obtain ⟨m1, e1, h3⟩ := cands_ok h1
    subst e1
    exact (A.o S h2).weak h3
  · obtain ⟨M1, h1, h2⟩ := List.exists_of_findSome?_eq_some e
    obtain ⟨m1, e1, h3⟩ := cands_ok h1
    subst e1
    obtain ⟨c', h4, h5⟩ := obind h2
    cases h5
    exact (all_trX S h4).weak h3
theorem all_trB {n : Nat} (A : AllS T N sc Φ XR n) {X : Cx} {W : WX} {h M st c m} (S : SiteS T Φ XR N sc X W) (e : trB T N sc (n + 1) h M st = some (c, m)) : SSs Φ XR M m h X W st c := by
  rcases st with _ | ⟨a, _ | ⟨b, r⟩⟩
  · simp only [trB] at e
    cases e
    exact SSs.nil
  · simp only [trB] at e
    exact SSs.one (A.s S e)
  · simp only [trB] at e
    obtain ⟨x, h1, e⟩ := obind e
    obtain ⟨y, h2, e⟩ := obind e
    cases e
    exact SSs.cons (A.s S h1) (A.b S h2)
theorem tri_set {n : Nat} {M : Ow} {fl tup : Bool} {it : Expr} {ci : CI} {env : PySem.Env} (h : trI T N M n sc fl tup it = some ci) : ∀ x, foldedSetIterable it env x = pure x := fun x => by
  cases it <;> first | rfl | skip
  exfalso
  cases n with
  | zero => simp only [trI] at h; cases h
  | succ m =>
    simp only [trI] at h
    obtain ⟨z, hz, _⟩ := obind h
    cases m with
    | zero => simp only [trE] at hz; cases hz
    | succ m => simp only [trE] at hz; cases hz
theorem e_of {n : Nat} {X : Cx} {W : WX} {M fl e c} (S : SiteS T Φ XR N sc X W) (h : trE T N M n sc fl e = some c) : SE Φ XR M X W fl e c := (all n).e S.site h
theorem t_of {n : Nat} {X : Cx} {W : WX} {M e c} (S : SiteS T Φ XR N sc X W) (h : trE T N M n sc false e = some c) : STt Φ XR M X W e c := (all n).t S.site h
theorem n_of {n : Nat} {X : Cx} {W : WX} {M e c} (S : SiteS T Φ XR N sc X W) (h : trE T N M n sc true e = some c) (hn : newC c = true) : SN Φ XR M X W e c := (all n).n S.site h hn
/-- swapsWith of a comprehension and a name: as swC tells -/
theorem sw_of {X : Cx} {W : WX} (S : SiteS T Φ XR N sc X W) {elt : Expr} {gs : List Comprehension} {s : Scope} {pos p : Pos} {x : Str} {l : Nat} :
    swapsWith (.ListComp elt gs s pos) (some (.Name x p)) l X.env = pure (swC sc x p (.ListComp elt gs s pos)) := by
  have hb : X.env.blockKind = .function := by unfold Env.blockKind; rw [S.site.scE, S.kind]; rfl
  have hk : X.env.kindOf x = sc.names.lookup x := by unfold Env.kindOf; rw [S.site.scE]
  unfold swapsWith swC
  simp only [hb, hk, Expr.pos]
  congr 1
  have e1 : (ScopeKind.function == ScopeKind.function) = true := rfl
  rw [e1, Bool.true_and]
  congr 1
  congr 1
  rw [Bool.eq_iff_iff]
  simp
theorem own_asg {X : Cx} {W : WX} {M : Ow} {x : Str} {i : Nat} {e : Expr} {y : CE} {p pos : Pos} (S : SiteS T Φ XR N sc X W) (h : trE T N M EF sc true e = some y) (hn : newC y = true) (hx : locOf sc (fun _ => true) N (M.w []) x = some i) :
    ∃ t : TE, PS X (.Assign [.Name x p] e pos) (tAsg t (gName i)) ∧ ∀ R0 H0 R H σ ρ Q, SR X.K M R0 H0 R H σ ρ → PostE XR R H (RepN X.K H) (ev Φ y ρ) Q (fun cls dx H' => W cls dx σ H') → t σ H Q := by
  obtain ⟨q1, q2, q3, q4⟩ := loc_ok S.site hx
  have nd : X.N.Nodup := by rw [S.site.nE]; exact S.site.nd
  have plain : swapsWith e (some (.Name x p)) pos.line X.env = pure false → ∃ t : TE, PS X (.Assign [.Name x p] e pos) (tAsg t (gName i)) ∧ ∀ R0 H0 R H σ ρ Q, SR X.K M R0 H0 R H σ ρ → PostE XR R H (RepN X.K H) (ev Φ y ρ) Q (fun cls dx H' => W cls dx σ H') → t σ H Q := fun hs => by
    obtain ⟨t, pe, q⟩ := n_of S h hn
    exact ⟨t, ps_set nd q1 q2 pe hs q3, q⟩
  by_cases hc : notComp e = true
  · exact plain (notComp_sw hc)
  · have he : ∃ n, EF = n + 1 := ⟨119, rfl⟩
    obtain ⟨n, en⟩ := he
    rw [en] at h
    cases e <;> first | exact absurd rfl hc | (simp only [trE] at h; cases h; done) | skip
    rename_i elt gens s cp
    have sw := sw_of (x := x) (p := p) (l := pos.line) (elt := elt) (gs := gens) (s := s) (pos := cp) S
    cases hw : swC sc x p (.ListComp elt gens s cp) with
    | false => rw [hw] at sw; exact plain sw
    | true =>
      rw [hw] at sw
      obtain ⟨t, _, ps, q⟩ := all_comp (fun m _ => all m) S.site h
      refine ⟨t, ps i x p pos q1 ?_ sw, q⟩
      rw [S.site.scE]
      unfold swC at hw
      simp only [Bool.and_eq_true] at hw
      exact of_decide_eq_true hw.1.1
theorem all_trS1 {n : Nat} (A : AllS T N sc Φ XR n) {X : Cx} {W : WX} {h M st c m} (S : SiteS T Φ XR N sc X W) (e : trS1 T N sc (n + 1) h M st = some (c, m)) : SSt Φ XR M m h X W st c := by
  have brkSR : ∀ {K : PySem.W.Frag} {R0 H0 R H : Hp} {σ : L2.St} {ρ : Rho}, h.all (M.m.contains ·) = true → SR K M R0 H0 R H σ ρ → ∃ R', Same R R' ∧ SR K (M.w h) R0 H0 R' H σ ρ := fun hh sr =>
    sr.weak fun i hi => List.contains_iff_mem.mp (List.all_eq_true.mp hh i hi)
  simp only [trS1] at e
  split at e
  all_goals first | (cases e; done) | skip
  · cases e
    exact ⟨_, ps_pass, fun R0 H0 R H σ ρ D sr p => p σ R H (Same.refl _) sr⟩
  · cases e
    rename_i ee _
    cases hr : trRais T sc ee with
    | none => exact ss_nope
    | some c => exact ss_rais S hr
  · cases e
    exact ss_nope
  · obtain ⟨b, hb, e⟩ := obind e
    obtain ⟨zs, hz, e⟩ := obind e
    obtain ⟨hne, e⟩ := oifn e
    cases e
    exact ss_try S (fun S' => A.b S' hb) hz hne
  · obtain ⟨hh, e⟩ := oif e
    cases e
    refine ⟨_, ps_break, fun R0 H0 R H σ ρ D sr p => ?_⟩
    obtain ⟨R1, e1, s1⟩ := brkSR hh sr
    exact p σ R1 H e1 s1
  · obtain ⟨hh, e⟩ := oif e
    cases e
    refine ⟨_, ps_continue, fun R0 H0 R H σ ρ D sr p => ?_⟩
    obtain ⟨R1, e1, s1⟩ := brkSR hh sr
    exact p σ R1 H e1 s1
  · cases e
    exact ⟨_, ps_doc, fun R0 H0 R H σ ρ D sr p => p σ R H (Same.refl _) sr⟩
  · rename_i x _ mm ap a cpos _
    obtain ⟨hl, e⟩ := oif e
    obtain ⟨i, hx, e⟩ := obind e
    obtain ⟨y, hy, e⟩ := obind e
    have hs := star_cons (es := []) (env := X.env) (trE_star hy)
    by_cases e1 : mm = ("append" : Str)
    · subst e1
      rw [if_pos rfl] at e
      cases e
      exact ss_app S hx (e_of S hy) hl hs
    · rw [if_neg e1] at e
      obtain ⟨e2, e3⟩ := oif e
      cases e3
      clear e
      subst e2
      cases hn : newC y with
      | true => exact ss_ext S hx (n_of S hy hn) hl hs
      | false => exact ss_extL S hx (e_of S hy) hl hs
  · rename_i x _ mm ap a b cpos _
    obtain ⟨⟨e1, hl⟩, e⟩ := oif e
    obtain ⟨i, hx, e⟩ := obind e
    obtain ⟨y, hy, e⟩ := obind e
    obtain ⟨z, hz, e⟩ := obind e
    cases e
    subst e1
    exact ss_ins S hx (e_of S hy) (e_of S hz) hl (star_cons (trE_star hy)) (star_cons (trE_star hz))
  · cases e
    exact ⟨_, ps_retN, fun R0 H0 R H σ ρ D sr p => by
      obtain ⟨R2, h1, s2⟩ := sr.weak (m' := []) (fun i hi => by cases hi)
      exact p .non σ R2 H h1 s2 .non⟩
  · obtain ⟨y, hy, e⟩ := obind e
    cases e
    exact ss_ret S (e_of S hy)
  · rename_i mm ap a cpos _
    obtain ⟨⟨e1, hl⟩, e3⟩ := oif e
    clear e
    subst e1
    have e := e3
    clear e3
    obtain ⟨k, hx, e⟩ := obind e
    obtain ⟨i, hi, e⟩ := obind e
    obtain ⟨z, hz, e⟩ := obind e
    cases e
    exact ss_pop S hx hi (e_of S hz) hl (star_cons (es := []) (env := X.env) (trE_star hz))
  · obtain ⟨y, hy, e⟩ := obind e
    by_cases hn : newC y = true
    · rw [if_pos hn] at e
      obtain ⟨i, hx, e⟩ := obind e
      cases e
      exact ss_own S (n_of S hy hn) hx (own_asg S hy hn hx)
    · rw [if_neg hn] at e
      obtain ⟨i, hx, e⟩ := obind e
      obtain ⟨hc, e⟩ := oif e
      cases e
      exact ss_asg S (e_of S hy) hx hc
  · rename_i ts k p ee _
    obtain ⟨h1, e⟩ := oifn e
    obtain ⟨t, ht, e⟩ := obind e
    obtain ⟨y, hy, e⟩ := obind e
    cases e
    have h1 : (isTup ee || !notComp ee) = false := Bool.eq_false_iff.mpr h1
    rw [Bool.or_eq_false_iff] at h1
    refine ss_asgT S (e_of S hy) ht (by simpa using h1.2) ?_ rfl
    cases ee <;> first | rfl | (cases h1.1; done)
  · rename_i x _ k p2 ee _
    split at e
    · cases e
    · rename_i hk
      obtain ⟨hc, e⟩ := oif e
      obtain ⟨i, hx, e⟩ := obind e
      obtain ⟨y, hy, e⟩ := obind e
      obtain ⟨z, hz, e⟩ := obind e
      cases e
      refine ss_put S hx (e_of S hy) (e_of S hz) hc ?_
      · intro v
        cases k <;> first | rfl | (exact absurd rfl (hk _ _ _ _))
  · obtain ⟨i, hx, e⟩ := obind e
    obtain ⟨y, hy, e⟩ := obind e
    cases e
    exact ss_aug S hx (e_of S hy)
  · obtain ⟨k, hk, e⟩ := obind e
    obtain ⟨x, hx, e⟩ := obind e
    obtain ⟨y, hy, e⟩ := obind e
    cases e
    refine ss_if S (t_of S hk) (A.b S hx) (A.b S hy) (fun i hi => (List.mem_filter.mp hi).1) fun i hi => List.contains_iff_mem.mp (List.mem_filter.mp hi).2
  · obtain ⟨t, ht, e⟩ := obind e
    obtain ⟨ci, hi, e⟩ := obind e
    obtain ⟨b, hb, e⟩ := obind e
    cases e
    obtain ⟨m1, h1, h2, h3⟩ := headFix_ok 6 hb
    exact ss_for S ((all EF).i S.site hi) ht h3 (A.b S h1) h2 (tri_set hi)
  · obtain ⟨b, hb, e⟩ := obind e
    obtain ⟨k, hk, e⟩ := obind e
    cases e
    obtain ⟨m1, h1, h2, h3⟩ := headFix_ok 6 hb
    obtain ⟨_, _, h1⟩ := obind h1
    exact ss_while S h3 (t_of S hk) (A.b S h1) h2
theorem allS (n : Nat) : AllS T N sc Φ XR n := by
  induction n with
  | zero => exact ⟨fun _ e => (by simp only [trS] at e; cases e), fun _ e => (by simp only [trS1] at e; cases e), fun _ e => (by simp only [trB] at e; cases e)⟩
  | succ n ih => exact ⟨fun S e => all_trS ih S e, fun S e => all_trS1 ih S e, fun S e => all_trB ih S e⟩
end
end Ps
end
section
set_option maxHeartbeats 4000000
/-! PsFn: defs, at every depth of calls. -/
namespace Ps
open PySem PySem.Spec PyProof.Rows L2
variable [Tbs]
theorem RepFs.get {K : PySem.W.Frag} {fl : Bool} {R H : Hp} : ∀ {md : List Bool} {vs : List V} {ds : List D}, RepFs K fl md R H vs ds → ∀ {i : Nat} {d : D}, ds[i]? = some d → ∃ v, vs[i]? = some v ∧ RepF K (md.getD i fl) R H v d
  | md, _, _, .nil, i, d, e => by simp at e
  | md, _, _, .cons h t, 0, d, e => by
    cases e
    refine ⟨_, rfl, ?_⟩
    cases md <;> exact h
  | md, _, _, .cons h t, i + 1, d, e => by
    obtain ⟨v, h1, h2⟩ := RepFs.get t (i := i) (d := d) (by simpa using e)
    refine ⟨v, by simpa using h1, ?_⟩
    cases md <;> simpa using h2
/-- a class's methods -/
def mth (s : Stmt) (j : Nat) : Stmt := match s with
  | .ClassDef (body := b) .. => b.getD j (.Pass ⟨0, 0, 0, 0⟩)
  | _ => .Pass ⟨0, 0, 0, 0⟩
/-- the slots that a caller lends -/
def lentS (s : Sig) : List Nat := (List.range s.par).filter fun i => !(s.md.getD i true) && !(s.io.contains i)
/-- the slots' kinds where a def begins -/
def ow0 (s : Sig) (z : Nat → Addr) : Ow := ⟨[], lentS s, s.ob, s.io, s.cl, z⟩
structure DefP (T : Tab) (P : Prog) (K : PySem.W.Frag) (mg : Str → Option Value) (s : Sig) : Prop where
  ex : ∃ (f : Addr) (fd : FuncData) (x qual : Str) (params : Arguments) (body : List Stmt) (scope : Scope) (dvs : List V) (kws : List (Str × V)) (N ps : List Str) (c : CS) (m : List Nat),
    FunD K x qual params body scope dvs kws f fd ∧ AtF K mg s f ∧ FnScope N ps scope ∧ (∀ z, trB T N scope BFU [] (ow0 s z) body = some (c, m)) ∧ P s.key = some ⟨ps.length, N.length, c, s.io⟩ ∧ s.par = ps.length ∧
    (∀ j, j ≤ s.dfl.length → ∃ (dvs : List V) (ds : List Value), Vals dvs ds ∧ (∀ R, Reps K R dvs (s.dfl.drop j)) ∧ Binds K fd ps ds) ∧
    (s.dfl = [] → ∀ (st : Shared) (us : List Value), us.length = ps.length → BindsTo st fd ⟨us, []⟩ (ps.zip us)) ∧
    (T.tb = some N → fd.code = .ref Tbs.C ∧ ∃ P, Tbs.T = some (P, (qual ++ ".<locals>.") ++ "<lambda>"))
  wf : (∀ i ∈ s.ob, s.par ≤ i) ∧ ∀ i ∈ s.io, i < s.par
/-- what stands at the module's top -/
structure Top (T : Tab) (P : Prog) (K : PySem.W.Frag) (mg : Str → Option Value) : Prop where
  defs : ∀ s ∈ T.sigs, DefP T P K mg s
  const : ∀ x d, T.consts.lookup x = some d → ∃ u v, mg x = some u ∧ RelV v u ∧ ∀ R, Rep K R v d
  blt : ∀ x ∈ bltNames, mg x = none
  cls : ∀ k ∈ T.cls, ClsOk K mg k
  exc : ∀ k ∈ T.exc, XcOk T K mg k
  ve : T.exc ≠ [] → mg "ValueError" = none
  xd : ∀ p ∈ T.xd, XDefP T P K mg p
theorem xrd_mono (T : Tab) (K : PySem.W.Frag) : XMono (XRd T K) := fun _ _ _ _ _ _ _ e _ x => x.step e (SameN.refl _)
def SigB (XR : XRel) (P : Prog) (prog : Program) (w : World) (K : PySem.W.Frag) (mg : Str → Option Value) (base : Heap) (k : Nat) (s : Sig) : Prop :=
  ∃ (f : Addr) (fd : FuncData) (ps : List Str), AtF K mg s f ∧ PySem.W.keepIn K (.ref f) = true ∧ FnOk prog w K mg base (L2.CX prog w) (4 * k) f fd ps (spS XR K (run P k) s) ∧
    (∀ j, j ≤ s.dfl.length → ∃ (dvs : List V) (ds : List Value), Vals dvs ds ∧ (∀ R, Reps K R dvs (s.dfl.drop j)) ∧ Binds K fd ps ds) ∧
    (s.dfl = [] → ∀ (st : Shared) (us : List Value), us.length = ps.length → BindsTo st fd ⟨us, []⟩ (ps.zip us))
/-- where the arguments lie -/
def zOf (vs : List V) (i : Nat) : Addr := match vs[i]? with
  | some (.ref a) => a
  | _ => 0
theorem enter_get {fn : Fn} {ds : List D} {i : Nat} {d : D} (h : (enter fn ds)[i]? = some (some d)) : ds[i]? = some d := by
  unfold enter at h
  by_cases hi : i < ds.length
  · rw [List.getElem?_append_left (by simpa using hi), List.getElem?_map] at h
    cases e : ds[i]? with
    | none => rw [e] at h; cases h
    | some a => rw [e] at h; cases h; rfl
  · rw [List.getElem?_append_right (by simpa using hi), List.getElem?_replicate] at h
    split at h <;> cases h
theorem start_get {N : List Str} {vs : List V} {i : Nat} {v : V} (h : vs[i]? = some v) : (L2.start N vs)[i]? = some (some v) := by
  have hi : i < vs.length := (List.getElem?_eq_some_iff.mp h).1
  unfold L2.start
  rw [List.getElem?_append_left (by simpa using hi), List.getElem?_map, h]
  rfl
theorem lentS_mem {s : Sig} {i : Nat} : i ∈ lentS s ↔ i < s.par ∧ s.md.getD i true = false ∧ i ∉ s.io := by
  unfold lentS
  rw [List.mem_filter, List.mem_range, Bool.and_eq_true, Bool.not_eq_true', Bool.not_eq_true']
  exact ⟨fun ⟨a, b, c⟩ => ⟨a, b, fun z => by rw [List.contains_iff_mem.mpr z] at c; cases c⟩, fun ⟨a, b, c⟩ => ⟨a, b, by
    cases e : s.io.contains i with
    | false => rfl
    | true => exact absurd (List.contains_iff_mem.mp e) c⟩⟩
theorem enter_SR {K : PySem.W.Frag} {R Hb H : Hp} {vs : List V} {ds : List D} {N : List Str} {c : CS} {s : Sig} {F : Nat → List Addr} (sm : Same R Hb) (tb : TabOk R Hb) (sb : Same Hb H) (hl : vs.length = s.par) (hld : ds.length = s.par) (hp : s.par ≤ N.length) (wf : (∀ i ∈ s.ob, s.par ≤ i) ∧ ∀ i ∈ s.io, i < s.par)
    (hd : ∀ (j : Nat) (v : V) (d : D), vs[j]? = some v → ds[j]? = some d → j ∉ s.io → RepF K (s.md.getD j true) R Hb v d)
    (ho : ∀ j ∈ s.io, ∀ d, ds[j]? = some d → ∃ a, vs[j]? = some (.ref a) ∧ OwnT K R H a d (F j) ∧ ∀ b ∈ F j, Hb b = none ∧ R b = none)
    (hF : ∀ i ∈ s.io, ∀ j ∈ s.io, i ≠ j → ∀ b ∈ F i, b ∉ F j) :
    SR K (ow0 s (zOf vs)) R Hb R H (L2.start N vs) (enter ⟨s.par, N.length, c, s.io⟩ ds) := by
  have lt : ∀ {i : Nat} {d : D}, ds[i]? = some d → i < s.par := fun {i d} h => by rw [← hld]; exact (List.getElem?_eq_some_iff.mp h).1
  have some_v : ∀ {i : Nat} {d : D}, ds[i]? = some d → ∃ v, vs[i]? = some v := fun {i d} h => ⟨vs[i]'(by rw [hl]; exact lt h), List.getElem?_eq_getElem _⟩
  have inio : ∀ {i : Nat} {d : D}, ds[i]? = some d → i ∈ (ow0 s (zOf vs)).oq → i ∈ s.io := fun {i d} h hq => by
    rcases List.mem_append.mp hq with hq | hq
    · have := wf.1 i hq
      have := lt h
      omega
    · exact hq
  refine ⟨⟨.of sb, Same.refl _, sm.trans sb, fun b h _ => h⟩, ?_, fun i d h => ?_, fun i j a d e hij hi => (by cases hi), ⟨F, fun i hi d h => ?_, fun i hi j hj hij d e h1 h2 => ?_, fun i hi j hj => (by cases hj)⟩, fun i hi => ⟨fun z => (by cases z), fun z => ?_⟩, fun i hi => ?_, fun p hp => ⟨(tb p hp).1.ext sb, (tb p hp).2⟩⟩
  · unfold L2.start enter
    simp only [List.length_append, List.length_map, List.length_replicate]
    omega
  · have h := enter_get h
    obtain ⟨v, hv⟩ := some_v h
    refine ⟨v, start_get hv, fun n => ?_, fun n => (by cases n), fun n => ?_⟩
    · have nio : i ∉ s.io := fun z => n (.inr (.inr (.inr z)))
      have r := hd i v d hv h nio
      have : s.md.getD i true = true := by
        cases hb : s.md.getD i true with
        | true => rfl
        | false => exact absurd (.inr (.inl (lentS_mem.mpr ⟨lt h, hb, nio⟩))) n
      rw [this] at r
      exact r
    · obtain ⟨_, hb, nio⟩ := lentS_mem.mp n
      have r := hd i v d hv h nio
      rw [hb] at r
      exact r
  · have h := enter_get h
    obtain ⟨a, h1, h2, h3⟩ := ho i (inio h hi) d h
    exact ⟨a, start_get h1, h2, h3⟩
  · exact hF i (inio (enter_get h1) hi) j (inio (enter_get h2) hj) hij
  · obtain ⟨q1, _, q2⟩ := lentS_mem.mp z
    rcases List.mem_append.mp hi with hi | hi
    · have := wf.1 i hi
      omega
    · exact q2 hi
  · have hi : i ∈ s.io := hi
    have hlt := wf.2 i hi
    obtain ⟨a, h1, _, _⟩ := ho i hi _ (List.getElem?_eq_getElem (by rw [hld]; exact hlt))
    have : zOf vs i = a := by unfold zOf; rw [h1]
    show (L2.start N vs)[i]? = some (some (.ref (zOf vs i)))
    rw [this]
    exact start_get h1
theorem outsOf_get {ρ : Rho} : ∀ {io : List Nat} {os : List D}, outsOf ρ io = some os → os.length = io.length ∧ ∀ (k j : Nat) (d : D), io[k]? = some j → os[k]? = some d → ρ[j]? = some (some d)
  | [], os, h => by cases h; exact ⟨rfl, fun k j d h => by simp at h⟩
  | i :: io, os, h => by
    unfold outsOf at h
    split at h
    · rename_i d e
      cases e2 : outsOf ρ io with
      | none => rw [e2] at h; cases h
      | some os' =>
        rw [e2] at h
        cases h
        obtain ⟨h1, h2⟩ := outsOf_get e2
        refine ⟨by simp [h1], fun k j d' q1 q2 => ?_⟩
        cases k with
        | zero => cases q1; cases q2; exact e
        | succ k => exact h2 k j d' (by simpa using q1) (by simpa using q2)
    · cases h
/-- what the lent parameters hold at a def's end -/
theorem outs_end {K : PySem.W.Frag} {s : Sig} {R Hb R' H' : Hp} {vs : List V} {σ' : L2.St} {ρ' : Rho} {os : List D} {m : List Nat} (sr : SR K ((ow0 s (zOf vs)).w m) R Hb R' H' σ' ρ') (hv : ∀ i ∈ s.io, vs[i]? = some (.ref (zOf vs i))) (h : outsOf ρ' s.io = some os) : OutsR K Hb s.io vs R' H' os := by
  obtain ⟨h1, h2⟩ := outsOf_get h
  obtain ⟨F, f1, f2, _⟩ := sr.own
  have oq : ∀ {j}, j ∈ s.io → j ∈ ((ow0 s (zOf vs)).w m).oq := fun hj => List.mem_append_right _ hj
  refine ⟨h1, F, fun k j d e1 e2 => ?_, fun i hi j hj hij b hb => ?_⟩
  · have hj : j ∈ s.io := List.mem_of_getElem? e1
    obtain ⟨a, q1, q2, q3⟩ := f1 j (oq hj) d (h2 k j d e1 e2)
    have pin := sr.pin j hj
    rw [pin] at q1
    cases q1
    exact ⟨_, hv j hj, q2, q3⟩
  · have ex : ∀ i ∈ s.io, ∃ d, ρ'[i]? = some (some d) := fun i hi => by
      obtain ⟨k, hk, e⟩ := List.mem_iff_getElem.mp hi
      have hk2 : k < os.length := by rw [h1]; exact hk
      exact ⟨os[k], h2 k i os[k] (by rw [List.getElem?_eq_getElem hk, e]) (List.getElem?_eq_getElem hk2)⟩
    obtain ⟨d, hd⟩ := ex i hi
    obtain ⟨e, he⟩ := ex j hj
    exact f2 i (oq hi) j (oq hj) hij d e hd he b hb
theorem def_ok {XR : XRel} {T : Tab} {P : Prog} {prog : Program} {w : World} {K : PySem.W.Frag} {mg : Str → Option Value} (XM : XR = XRd T K) (G : Top T P K mg) {base : Heap} (TB : ∀ p, Tbs.T = some p → LamX.TabB base mg Tbs.C p.1) {k : Nat} (ih : ∀ s ∈ T.sigs, SigB XR P prog w K mg base k s)
    {s : Sig} {f : Addr} {fd : FuncData} {x qual : Str} {params : Arguments} {body : List Stmt} {scope : Scope} {dvs : List V} {kws : List (Str × V)} {N ps : List Str} {c : CS} {m : List Nat} (wf : (∀ i ∈ s.ob, s.par ≤ i) ∧ ∀ i ∈ s.io, i < s.par)
    (F : FunD K x qual params body scope dvs kws f fd) (S : FnScope N ps scope) (ht : ∀ z, trB T N scope BFU [] (ow0 s z) body = some (c, m)) (hP : P s.key = some ⟨ps.length, N.length, c, s.io⟩) (hp : s.par = ps.length)
    (hlam : T.tb = some N → fd.code = .ref Tbs.C ∧ ∃ P, Tbs.T = some (P, (qual ++ ".<locals>.") ++ "<lambda>")) :
    FnOk prog w K mg base (L2.CX prog w) (4 * (k + 1)) f fd ps (spS XR K (run P (k + 1)) s) := by
  have hpl : ps.length ≤ N.length := by have := congrArg List.length S.pre; rw [List.length_take] at this; omega
  have run_eq : ∀ ds : List D, ds.length = s.par → run P (k + 1) s.key ds = endOf s.io (ex (run P k) c (enter ⟨s.par, N.length, c, s.io⟩ ds)) := fun ds h => by
    simp only [run, hP]
    rw [if_pos (by omega), hp]
  obtain ⟨oc, od, dV, kV, doc, pm, an, cdv, ct, osl, rfl, lk, hcd, _, _⟩ := F.ex
  refine fn_of (k := 4 * k + 3) lk hcd S (fun vs H Q E h => ?_) (fun A outer s0 H vs Q E hr h => ?_)
  · unfold spS at h
    split at h
    · obtain ⟨R, ds, _, _, h, _⟩ := h
      exact h.trans hp
    · obtain ⟨R, Hb, ds, FF, _, _, h, _⟩ := h
      exact h.trans hp
  have sigs : ∀ g ∈ T.sigs, SigOk XR (run P k) (cxOf (L2.CX prog w) prog w K mg base N qual scope f cdv A outer s0 H E) (4 * k) g := fun g hg => by
    obtain ⟨f', fd', ps', h1, h2, h3, h4, _⟩ := ih g hg
    exact ⟨f', fd', ps', h1, h2, h3, h4⟩
  have site : SiteS T (run P k) XR N scope (cxOf (L2.CX prog w) prog w K mg base N qual scope f cdv A outer s0 H E) (fun cls d _ H' => E cls d H') := by
    refine ⟨⟨rfl, rfl, S.nd, rfl, rfl, ⟨4 * k, hr.mono (by omega), sigs⟩, G.const, G.blt, takes_of rfl rfl rfl rfl, G.cls, fun z => ?_⟩, passes_of rfl, S.kind, by rw [XM]; exact xrd_mono T K, ⟨XM, G.exc, G.ve, fun p hp => ⟨xdef_ok (G.xd p hp) G.exc G.ve G.blt k⟩, fun _ => (L2H.roomH_of hr).mono (by omega)⟩, rfl, rfl⟩
    obtain ⟨e1, P, e2⟩ := hlam z
    exact ⟨⟨4 * k, hr, sigs⟩, _, _, _, TB _ e2, e1, rfl, e2⟩
  obtain ⟨t, pt, q⟩ := (allS BFU).b site (ht (zOf vs))
  refine ⟨t, pt, ?_⟩
  unfold spS at h
  by_cases hio : s.io = []
  · rw [if_pos hio] at h
    obtain ⟨R, ds, ⟨sm, tb⟩, rr, hl, p⟩ := h
    have l2 := rr.length
    have sr := enter_SR (N := N) (c := c) (F := fun _ => []) sm tb (Same.refl H) hl (by rw [← l2]; exact hl) (by omega) wf (fun j v d h1 h2 _ => by
      obtain ⟨v', q1, q2⟩ := rr.get h2
      rw [h1] at q1
      cases q1
      exact q2) (fun j hj => by rw [hio] at hj; cases hj) (fun j hj => by rw [hio] at hj; cases hj)
    refine q R H R H _ _ _ sr ?_
    rw [run_eq ds (by rw [← l2]; exact hl)] at p
    generalize ex (run P k) c (enter ⟨s.par, N.length, c, s.io⟩ ds) = o at p ⊢
    rw [hio] at p
    cases o with
    | nx ρ => exact fun σ' R' H' e s' => p .non R' H' s'.ext .non
    | rt d ρ => exact fun v σ' R' H' e s' r => p v R' H' s'.ext r
    | bk ρ => exact p.elim
    | ct ρ => exact p.elim
    | exc c ps ρ => exact fun cls dx σ' R' H' e s' x => p cls dx R' H' s'.ext x
    | stuck => exact p.elim
  · rw [if_neg hio] at h
    obtain ⟨R, Hb, ds, FF, ⟨sm, tb⟩, sb, hl, hld, hd, ho, hF, p⟩ := h
    have sr := enter_SR (N := N) (c := c) (F := FF) sm tb sb hl hld (by omega) wf hd ho hF
    have hv : ∀ i ∈ s.io, vs[i]? = some (.ref (zOf vs i)) := fun i hi => by
      obtain ⟨a, h1, _, _⟩ := ho i hi _ (List.getElem?_eq_getElem (by rw [hld]; exact wf.2 i hi))
      have : zOf vs i = a := by unfold zOf; rw [h1]
      rw [this]
      exact h1
    refine q R Hb R H _ _ _ sr ?_
    rw [run_eq ds hld] at p
    have hie : s.io.isEmpty = false := by
      cases e : s.io with
      | nil => exact absurd e hio
      | cons _ _ => rfl
    generalize ex (run P k) c (enter ⟨s.par, N.length, c, s.io⟩ ds) = o at p ⊢
    cases o with
    | nx ρ =>
      simp only [endOf, finR, hie, Bool.false_eq_true, if_false] at p
      intro σ' R' H' e s'
      cases h : outsOf ρ s.io with
      | none => rw [h] at p; exact p.elim
      | some os => rw [h] at p; exact p .non R' H' s'.ext .non (outs_end (s := s) (m := m) s' hv h)
    | rt d ρ =>
      simp only [endOf, finR, hie, Bool.false_eq_true, if_false] at p
      intro v σ' R' H' e s' r
      cases h : outsOf ρ s.io with
      | none => rw [h] at p; exact p.elim
      | some os => rw [h] at p; exact p v R' H' s'.ext r (outs_end (s := s) (m := []) s' hv h)
    | bk ρ => exact p.elim
    | ct ρ => exact p.elim
    | exc c ps ρ =>
      simp only [endOf, finX, hie, Bool.false_eq_true, if_false] at p
      intro cls dx σ' R' H' e s' x
      cases h : outsOf ρ s.io with
      | none => rw [h] at p; exact p.elim
      | some os =>
        rw [h] at p
        have o := outs_end (s := s) (m := []) s' hv h
        have l := o.1
        refine p cls dx R' H' s'.ext ?_ ?_
        · rw [← l, List.take_left']
          · exact o
          · rfl
        · rw [← l, List.drop_left']
          · exact x
          · rfl
    | stuck => exact p.elim
theorem sigs_ok {XR : XRel} {T : Tab} {P : Prog} {prog : Program} {w : World} {K : PySem.W.Frag} {mg : Str → Option Value} (XM : XR = XRd T K) (G : Top T P K mg) (base : Heap) (TB : ∀ p, Tbs.T = some p → LamX.TabB base mg Tbs.C p.1) :
    ∀ k, ∀ s ∈ T.sigs, SigB XR P prog w K mg base k s := by
  intro k
  induction k with
  | zero =>
    intro s hs
    obtain ⟨f, fd, x, qual, params, body, scope, dvs, kws, N, ps, c, m, F, hm, S, ht, hP, hp, hb, hb2, hlam⟩ := (G.defs s hs).ex
    refine ⟨f, fd, ps, hm, F.kp, ⟨fun vs H Q E h => ?_, fun A outer s0 H args us vs Q E _ _ _ _ h => ?_⟩, hb, hb2⟩
    · unfold spS at h
      split at h
      · obtain ⟨R, ds, _, _, h, _⟩ := h
        exact h.trans hp
      · obtain ⟨R, Hb, ds, FF, _, _, h, _⟩ := h
        exact h.trans hp
    · unfold spS at h
      split at h
      · obtain ⟨R, ds, _, _, _, h⟩ := h
        exact h.elim
      · obtain ⟨R, Hb, ds, FF, _, _, _, _, _, _, _, h⟩ := h
        exact h.elim
  | succ k ih =>
    intro s hs
    obtain ⟨f, fd, x, qual, params, body, scope, dvs, kws, N, ps, c, m, F, hm, S, ht, hP, hp, hb, hb2, hlam⟩ := (G.defs s hs).ex
    exact ⟨f, fd, ps, hm, F.kp, def_ok XM G TB ih (G.defs s hs).wf F S ht hP hp hlam, hb, hb2⟩
theorem and3 {A B C : Prop} (h : A ∧ B) (c : C) : A ∧ B ∧ C := ⟨h.1, h.2, c⟩
/-- how arguments bind where no parameter has a default -/
theorem bindsP {K : PySem.W.Frag} {x qual : Str} {params : Arguments} {body : List Stmt} {scope : Scope} {f : Addr} {fd : FuncData} {ps : List Str} {dfl : List D} {dvs : List V} {kws : List (Str × V)} (F : FunD K x qual params body scope dvs kws f fd) (hd : dfl = [] ∧ dvs = [])
    (h : ∀ (kV doc pm : Value) (an : Option Addr) (cdv ct : Value) (us : List Value), us.length = ps.length → bindArgs (PySem.W.fnOf x qual params body scope .none kV doc pm an cdv ct) ⟨us, []⟩ = pure (ps.zip us)) :
    (∀ j, j ≤ dfl.length → ∃ (dvs : List V) (ds : List Value), Vals dvs ds ∧ (∀ R, Reps K R dvs (dfl.drop j)) ∧ Binds K fd ps ds) ∧ (dfl = [] → ∀ (st : Shared) (us : List Value), us.length = ps.length → BindsTo st fd ⟨us, []⟩ (ps.zip us)) := by
  obtain ⟨e1, e2⟩ := hd
  subst e1 e2
  exact ⟨fun j _ => ⟨[], [], .nil, fun R => by rw [List.drop_nil]; exact .nil, FunD.bindsN F h⟩, fun _ st us hl => FunD.bindsA F h st us hl⟩
theorem lookup_cons {x y : Str} {d e : D} {l : List (Str × D)} (h : ((y, e) :: l).lookup x = some d) : (x = y ∧ d = e) ∨ l.lookup x = some d := by
  rw [List.lookup_cons] at h
  by_cases c : (x == y) = true
  · rw [c] at h
    cases h
    exact .inl ⟨eq_of_beq c, rfl⟩
  · rw [Bool.not_eq_true] at c
    rw [c] at h
    exact .inr h
omit [Tbs]
/-- code object, table, the lambda's name -/
abbrev mkT (o : Option (Addr × Addr × Str)) : Tbs := ⟨o.map fun t => (t.2.1, t.2.2), (o.map (·.1)).getD 0⟩
def csT (o : Option (Addr × Addr × Str)) : List (Addr × Addr) := match o with
  | none => []
  | some t => [(t.1, t.2.1)]
/-- what is asked of the written part of the program about its classes of refusals -/
def ecB (K : PySem.W.Frag) (D : Addr) : Bool :=
  He.eqO (PySem.W.findIn K (.ref D) "__getattribute__") (some (some (.builtin "BaseException.__getattribute__"))) && (He.eqO (PySem.W.findIn K (.ref D) "__getattr__") (some none) &&
  (decide (PySem.W.subIn K (.ref D) (.type "BaseException") = some true) && (PySem.W.hasDictIn K D && (He.eqO (PySem.W.findIn K (.ref D) "__class__") (some (some (.builtin "object.__class__"))) &&
  (He.eqO (PySem.W.specialIn K (.builtin "object.__class__") "__get__") (some (some (.builtin "getset_descriptor.__get__"))) && (decide (PySem.W.takesIn K (.builtin "object.__class__") = some true) && decide (PySem.W.mroIn K D (.type "object") = some true)))))))
theorem ecB_ok {K : PySem.W.Frag} {D : Addr} (h : ecB K D = true) : ExcC K D := by
  simp only [ecB, Bool.and_eq_true, decide_eq_true_eq] at h
  obtain ⟨h1, h2, h3, h4, h5, h6, h7, h8⟩ := h
  exact ⟨He.eqO_ok h1, He.eqO_ok h2, h3, h4, He.eqO_ok h5, He.eqO_ok h6, h7, h8⟩
def xcB (T : Tab) (K : PySem.W.Frag) (k : XcT) : Bool :=
  PySem.W.keepIn K (.ref (He.ga K k.name)) && (decide (PySem.W.subIn K (.ref (He.ga K k.name)) (.type "BaseException") = some true) && (decide (PySem.W.typeIn K (.ref (He.ga K k.name)) = some (.type "type")) &&
  ((!k.made || PySem.W.excIn K (He.ga K k.name) He.veBase "ValueError.__new__") && ((T.exc.all fun n => decide (PySem.W.exmOne K (.ref (He.ga K k.name)) (.ref (He.ga K n.name)) = some (subX k.key n.key))) &&
  ((T.exc.all fun n => decide (PySem.W.kitOne K (.ref (He.ga K k.name)) (.ref (He.ga K n.name)) = some (subX k.key n.key))) && (decide (PySem.W.kitOne K (.ref (He.ga K k.name)) (.type "ValueError") = some true) &&
  (ecB K (He.ga K k.name) && (xfB K (He.ga K k.name) && ((xflds k.key).all fun f => He.eqO (PySem.W.findIn K (.ref (He.ga K k.name)) (Str.ofString f)) (some none))))))))))
def xcsB (T : Tab) (K : PySem.W.Frag) : Bool := T.exc.all (xcB T K)
theorem xcsB_ok {T : Tab} {K : PySem.W.Frag} {mg : Str → Option Value} {k : XcT} (h : xcsB T K = true) (hk : k ∈ T.exc) (h1 : k.name = Str.ofString k.key) (h2 : mg k.name = some (.ref (He.ga K k.name))) : XcOk T K mg k := by
  have h := List.all_eq_true.mp h k hk
  simp only [xcB, Bool.and_eq_true, decide_eq_true_eq, List.all_eq_true] at h
  obtain ⟨q1, q2, q3, q4, q5, q6, q7, q8, q9, q10⟩ := h
  refine ⟨h1, h2, q1, q2, q3, fun hm => ?_, q5, q6, q7, ecB_ok q8, xfB_ok q9, fun f hf => He.eqO_ok (q10 f hf)⟩
  rw [hm] at q4
  simpa using q4
/-- what the head must tell -/
def Head (n k : Nat) (mg : Str → Option Value) (name : Str) (h : Heap) : Prop :=
  ∃ (K : PySem.W.Frag) (o : Option (Addr × Addr × Str)) (T : Tab) (P : Prog) (s : Sig), K.In h ∧ (∀ t, o = some t → h.get? t.2.1 = some { cls := .none, data := .fields #[] } ∧ K.lookup t.2.1 = none ∧ PySem.W.CodeHd h t.1 t.2.1) ∧
    @Top (mkT o) T P K mg ∧ s ∈ T.sigs ∧ s.name = name ∧ s.par = 1 ∧ s.md = [] ∧ s.dfl = [] ∧ s.io = [] ∧ s.cls = none ∧
    ∀ ns : List Int, ns.length ≤ n → (∀ z ∈ ns, Builtin.Int.intBits z ≤ 1048576) → run P (k + 1) s.key [.lst (ns.map .int)] = .ok (.bl true)
/-- the law: what the small language computes is what is asked -/
theorem walk_ps {l : PySem.W.OpenLaw} {n k : Nat} {q : Program} {loose : List Str} {XP : (Str → Option Value) → Heap → Prop} {YP : World → Heap → Prop} {d : DefRec}
    (hn : l.most = some n) (hn2 : n ≤ sizeLine) (hdf : d.params.defaults = []) (hr : Room (4 * (k + 1)) callerA)
    (F : ∀ (w : World) (mg : Str → Option Value) (fa : Addr) (h : Heap), YP w h → h.Ns mainGlobals mg → mg d.name = some (.ref fa) → Head n k mg d.name h) :
    PySem.W.WalkO q loose XP YP l.row.toRowW d [] (fun f vs => PySem.call f vs) := by
  refine Att.attach_callB hn hdf fun w s₀ s₁ mg mb fa o pm cd doc a vs ns G Y ho hd hcd hmg hobj hints hlen hbits hg => ?_
  obtain ⟨K, ot, T, P, s, KX, hot, TP, hs, hname, hpar, hmd, hdfl, hio, hcls, hrun⟩ := F w mg fa _ Y G.T.g hmg
  letI : Tbs := mkT ot
  obtain ⟨f, fd, x, qual, params, body, scope, dvs, kws, N, ps, c, m, FD, hm, S, ht, hP, hp, hb, hb2, hlam⟩ := (TP.defs s hs).ex
  have ep : ∃ y, ps = [y] := by
    rw [hpar] at hp
    rcases ps with _ | ⟨y, _ | ⟨z, r⟩⟩
    · cases hp
    · exact ⟨y, rfl⟩
    · simp at hp
  obtain ⟨y, rfl⟩ := ep
  have ef : f = fa := by
    unfold AtF at hm
    rw [hcls] at hm
    simp only at hm
    rw [hname, hmg] at hm
    cases hm
    rfl
  subst ef
  have cs : ∀ p ∈ csT ot, ∃ t, ot = some t ∧ p = (t.1, t.2.1) := fun p hp => by
    cases ot with
    | none => cases hp
    | some t => exact ⟨t, rfl, List.mem_singleton.mp hp⟩
  have hF : ∀ base : Heap, K.In base → base.Ns mainGlobals mg → (∀ p ∈ csT ot, LamX.TabB base mg p.1 p.2) → FnOk l.prog w K mg base (L2.CX l.prog w) (4 * (k + 1)) f fd [y] (spOf (XRd T K) K (run P (k + 1)) s.key s.par s.md) := fun base _ _ tb => by
    have TB : ∀ p, Tbs.T = some p → LamX.TabB base mg Tbs.C p.1 := fun p hp => by
      cases ot with
      | none => cases hp
      | some t =>
        cases hp
        exact tb (t.1, t.2.1) List.mem_cons_self
    have := def_ok (prog := l.prog) (w := w) rfl TP TB (sigs_ok rfl TP base TB k) (TP.defs s hs).wf FD S ht hP hp hlam
    unfold spS at this
    rw [if_pos hio] at this
    exact this
  refine LamX.law_callTs (cs := csT ot) KX G.T.g G.T.b G.T.builtins G.T.nolimit hg (fun p hp => ?_) (fun p hp => ?_) (fun p hp => ?_) G.T.bmain hobj hints (Nat.le_trans hlen hn2) hr hF (fun st u => (by
    have z := hb2 hdfl st [u] rfl
    simpa using z)) (fun H hH hS => ?_) fun H e s' hx => ?_
  · obtain ⟨t, e, rfl⟩ := cs p hp
    exact (hot t e).1
  · obtain ⟨t, e, rfl⟩ := cs p hp
    exact (hot t e).2.1
  · obtain ⟨t, e, rfl⟩ := cs p hp
    exact (hot t e).2.2
  · have noT : ∀ b o, H b = some o → NT o → ((csT ot).map (·.2)).contains b = false := fun b o e nt => by
      cases q : ((csT ot).map (·.2)).contains b with
      | false => rfl
      | true =>
        obtain ⟨p, hp, ep⟩ := List.mem_map.mp (List.contains_iff_mem.mp q)
        have := hH p hp
        rw [ep, e] at this
        exact absurd (Option.some.inj this) (nt _)
    refine ⟨fun b => if ((csT ot).map (·.2)).contains b = true then none else H b, [.lst (ns.map .int)], ⟨fun b o e => ?_, fun p hp => ?_⟩, ?_, by rw [hpar]; rfl, ?_⟩
    · simp only at e
      split at e
      · cases e
      · exact e
    · cases ot with
      | none => cases hp
      | some t =>
        cases hp
        refine ⟨LamX.TabS.nil (hH (t.1, t.2.1) List.mem_cons_self), ?_⟩
        simp [csT]
    · rw [hmd]
      refine .cons (.lst ?_ (Reps.of_ints ns)) .nil
      rcases hS with (hS | ⟨o, hS⟩) | hS
      · exact .inl (.inl (by simp only; rw [noT _ _ hS (by intro ps z; cases z)]; exact hS))
      · exact .inl (.inr ⟨o, by simp only; rw [noT _ _ hS (by intro ps z; cases z)]; exact hS⟩)
      · exact .inr hS
    · rw [hrun ns hlen hbits]
      intro v R' H' e r
      cases r
      rfl
  · obtain ⟨_, _, _, _, _, _, _, _, _, _, _, _, h⟩ := hx
    exact h
end Ps
end
section
set_option maxHeartbeats 4000000
/-! PsL: rules for what the small language computes. -/
namespace Ps
class Has (P : Prog) (k : String) (f : Fn) : Prop where
  eq : P k = some f
structure Post where
  nx : Rho → Prop
  rt : D → Rho → Prop
  bk : Rho → Prop
  ct : Rho → Prop
  xc : String → List D → Rho → Prop
def Out.sat (o : Out) (Q : Post) : Prop :=
  match o with
  | .nx ρ => Q.nx ρ
  | .rt d ρ => Q.rt d ρ
  | .bk ρ => Q.bk ρ
  | .ct ρ => Q.ct ρ
  | .exc c ps ρ => Q.xc c ps ρ
  | .stuck => False
/-- what is wanted behind the statements ks, run one behind another -/
def NXr (Φ : FEnv) : List CS → Rho → Post → Prop
  | [], ρ, Q => Q.nx ρ
  | c :: ks, ρ, Q => (ex Φ c ρ).sat { Q with nx := fun ρ' => NXr Φ ks ρ' Q }
/-- r is stored to t, then ks -/
def AKr (Φ : FEnv) (t : Tg) (r : Res D) (ks : List CS) (ρ : Rho) (Q : Post) : Prop := (r.out ρ fun d => setT ρ t d).sat { Q with nx := fun ρ' => NXr Φ ks ρ' Q }
/-- r is dropped, then ks -/
def DKr (Φ : FEnv) (r : Res D) (ks : List CS) (ρ : Rho) (Q : Post) : Prop := (r.out ρ fun _ => .nx ρ).sat { Q with nx := fun ρ' => NXr Φ ks ρ' Q }
/-- r is given back -/
def RKr (r : Res D) (ρ : Rho) (Q : Post) : Prop := (r.out ρ fun d => .rt d ρ).sat Q
/-- by r a or b, then ks -/
def CKr (Φ : FEnv) (r : Res Bool) (a b : CS) (ks : List CS) (ρ : Rho) (Q : Post) : Prop := (r.out ρ fun k => match k with | true => ex Φ a ρ | false => ex Φ b ρ).sat { Q with nx := fun ρ' => NXr Φ ks ρ' Q }
def IKr (Φ : FEnv) (k : Bool) (a b : CS) (ks : List CS) (ρ : Rho) (Q : Post) : Prop := match k with | true => NXr Φ (a :: ks) ρ Q | false => NXr Φ (b :: ks) ρ Q
/-- a loop over what r gives, then ks -/
def LKr (Φ : FEnv) (r : Res (List D)) (t : Tg) (b : CS) (ks : List CS) (ρ : Rho) (Q : Post) : Prop :=
  (r.out ρ fun xs => forL (fun x ρ => (setT ρ t x).next (ex Φ b)) xs ρ).sat { Q with nx := fun ρ' => NXr Φ ks ρ' Q }
def FKr (Φ : FEnv) (xs : List D) (t : Tg) (b : CS) (ks : List CS) (ρ : Rho) (Q : Post) : Prop := (forL (fun x ρ => (setT ρ t x).next (ex Φ b)) xs ρ).sat { Q with nx := fun ρ' => NXr Φ ks ρ' Q }
/-- a loop's body at an item -/
def BKr (Φ : FEnv) (x : D) (t : Tg) (b : CS) (ρ : Rho) (Q : Post) : Prop := ((setT ρ t x).next (ex Φ b)).sat Q
def WKr (Φ : FEnv) (n : Nat) (c : CE) (b : CS) (ks : List CS) (ρ : Rho) (Q : Post) : Prop := (whiL (fun ρ => (ev Φ c ρ).bind truR) (ex Φ b) n ρ).sat { Q with nx := fun ρ' => NXr Φ ks ρ' Q }
/-- x.insert(j, y) -/
def insR : D → D → D → Res D
  | .lst xs, .int j, y => if 0 ≤ j ∧ j ≤ 1000000 ∧ xs.length < SZ then .ok (.lst (xs.take j.toNat ++ [y] ++ xs.drop j.toNat)) else .stuck
  | _, _, _ => .stuck
/-- a list with one more -/
def appR : D → D → Res D
  | .lst xs, y => if xs.length < SZ then .ok (.lst (xs ++ [y])) else .stuck
  | _, _ => .stuck
def extR : D → D → Res D
  | .lst xs, .lst ys => if xs.length + ys.length ≤ SZ then .ok (.lst (xs ++ ys)) else .stuck
  | _, _ => .stuck
def putR : D → D → D → Res D
  | .lst xs, .int j, y => (ofOpt (ixP xs.length j)).bind fun p => .ok (.lst (xs.set p y))
  | .dic kvs, .tup ks, .bl b => if keyB (.tup ks) = true ∧ kvs.length < SZ then .ok (.dic (putD kvs (.tup ks) (.bl b))) else .stuck
  | _, _, _ => .stuck
section
variable {α β : Type} {Φ : FEnv} {ρ : Rho} {Q : Post} {ks : List CS}
theorem out_bind (r : Res α) (f : α → Res β) (g : β → Out) : ((r.bind f).out ρ g) = r.out ρ fun a => (f a).out ρ g := by cases r <;> rfl
theorem next_sat (o : Out) (f : Rho → Out) : (o.next f).sat Q ↔ o.sat { Q with nx := fun ρ => (f ρ).sat Q } := by cases o <;> exact Iff.rfl
theorem NXr_nil : NXr Φ [] ρ Q ↔ Q.nx ρ := Iff.rfl
theorem NXr_skip : NXr Φ (.skip :: ks) ρ Q ↔ NXr Φ ks ρ Q := by
  simp only [NXr, ex]
  exact Iff.rfl
theorem NXr_seq (a b : CS) : NXr Φ (.seq a b :: ks) ρ Q ↔ NXr Φ (a :: b :: ks) ρ Q := by
  simp only [NXr, ex, next_sat]
theorem NXr_asg (t : Tg) (e : CE) : NXr Φ (.asg t e :: ks) ρ Q ↔ AKr Φ t (ev Φ e ρ) ks ρ Q := by
  simp only [NXr, ex, AKr]
theorem AKr_nm (i : Nat) (d : D) : AKr Φ (.nm i) (.ok d) ks ρ Q ↔ NXr Φ ks (ρ.set i (some d)) Q := Iff.rfl
theorem AKr_2 (i j : Nat) (a b : D) : AKr Φ (.tp [i, j]) (.ok (.tup [a, b])) ks ρ Q ↔ NXr Φ ks ((ρ.set i (some a)).set j (some b)) Q := Iff.rfl
theorem AKr_3 (i j k : Nat) (a b c : D) : AKr Φ (.tp [i, j, k]) (.ok (.tup [a, b, c])) ks ρ Q ↔ NXr Φ ks (((ρ.set i (some a)).set j (some b)).set k (some c)) Q := Iff.rfl
theorem AKr_8 (i j k l m n o p : Nat) (a b c d e f g h : D) : AKr Φ (.tp [i, j, k, l, m, n, o, p]) (.ok (.tup [a, b, c, d, e, f, g, h])) ks ρ Q ↔
    NXr Φ ks ((((((((ρ.set i (some a)).set j (some b)).set k (some c)).set l (some d)).set m (some e)).set n (some f)).set o (some g)).set p (some h)) Q := Iff.rfl
theorem AKr_exc (t : Tg) (c : String) (ps : List D) : AKr Φ t (.exc c ps) ks ρ Q ↔ Q.xc c ps ρ := Iff.rfl
theorem NXr_exp (e : CE) : NXr Φ (.exp e :: ks) ρ Q ↔ DKr Φ (ev Φ e ρ) ks ρ Q := by
  simp only [NXr, ex, DKr]
theorem DKr_ok (d : D) : DKr Φ (.ok d) ks ρ Q ↔ NXr Φ ks ρ Q := Iff.rfl
theorem NXr_aug (i : Nat) (e : CE) : NXr Φ (.aug i e :: ks) ρ Q ↔ AKr Φ (.nm i) ((getv ρ i).bind fun x => (ev Φ e ρ).bind fun y => addI x y) ks ρ Q := by
  simp only [NXr, ex, AKr, out_bind]
  exact Iff.rfl
theorem NXr_app (i : Nat) (e : CE) : NXr Φ (.app i e :: ks) ρ Q ↔ AKr Φ (.nm i) ((getv ρ i).bind fun x => (lstD x).bind fun xs => (ev Φ e ρ).bind fun y => appR (.lst xs) y) ks ρ Q := by
  simp only [NXr, ex, AKr, out_bind]
  have : ∀ x y, appO ρ i x y = (appR x y).out ρ fun d => setT ρ (.nm i) d := fun x y => by
    unfold appO appR
    cases x <;> first | rfl | (rename_i xs; by_cases h : xs.length < SZ <;> simp [h] <;> rfl)
  simp only [this]
theorem NXr_ins (i : Nat) (a b : CE) : NXr Φ (.ins i a b :: ks) ρ Q ↔ AKr Φ (.nm i) ((getv ρ i).bind fun x => (lstD x).bind fun xs => (ev Φ a ρ).bind fun j => (ev Φ b ρ).bind fun y => insR (.lst xs) j y) ks ρ Q := by
  simp only [NXr, ex, AKr, out_bind]
  have : ∀ x j y, insO ρ i x j y = (insR x j y).out ρ fun d => setT ρ (.nm i) d := fun x j y => by
    unfold insO insR
    cases x <;> cases j <;> first | rfl | (rename_i xs j; by_cases h : 0 ≤ j ∧ j ≤ 1000000 ∧ xs.length < SZ <;> simp [h] <;> rfl)
  simp only [this]
theorem NXr_ext (i : Nat) (e : CE) : NXr Φ (.ext i e :: ks) ρ Q ↔ AKr Φ (.nm i) ((getv ρ i).bind fun x => (lstD x).bind fun xs => (ev Φ e ρ).bind fun y => extR (.lst xs) y) ks ρ Q := by
  simp only [NXr, ex, AKr, out_bind]
  have : ∀ x y, extO ρ i x y = (extR x y).out ρ fun d => setT ρ (.nm i) d := fun x y => by
    unfold extO extR
    cases x <;> cases y <;> first | rfl | (rename_i xs ys; by_cases h : xs.length + ys.length ≤ SZ <;> simp [h] <;> rfl)
  simp only [this]
theorem NXr_pop (k i : Nat) (a : CE) : NXr Φ (.pop k i a :: ks) ρ Q ↔ AKr Φ (.tp [i, k]) ((getv ρ i).bind fun x => (lstD x).bind fun xs => (ev Φ a ρ).bind fun j => popR (.lst xs) j) ks ρ Q := by
  simp only [NXr, ex, AKr, out_bind]
theorem NXr_put (i : Nat) (k e : CE) : NXr Φ (.put i k e :: ks) ρ Q ↔ AKr Φ (.nm i) ((ev Φ e ρ).bind fun y => (getv ρ i).bind fun x => (ev Φ k ρ).bind fun j => putR x j y) ks ρ Q := by
  simp only [NXr, ex, AKr, out_bind]
  have : ∀ x j y, putO ρ i x j y = (putR x j y).out ρ fun d => setT ρ (.nm i) d := fun x j y => by
    unfold putO putR
    cases x <;> cases j <;> first | rfl | skip
    · rename_i xs j
      show (ofOpt (ixP xs.length j)).out ρ _ = ((ofOpt (ixP xs.length j)).bind _).out ρ _
      rw [out_bind]
      rfl
    · rename_i kvs ks
      cases y <;> first | rfl | skip
      rename_i b
      by_cases h : keyB (.tup ks) = true ∧ kvs.length < SZ <;> simp [h] <;> rfl
  simp only [this]
theorem NXr_ret (e : CE) : NXr Φ (.ret e :: ks) ρ Q ↔ RKr (ev Φ e ρ) ρ Q := by
  simp only [NXr, ex, RKr]
  cases ev Φ e ρ <;> exact Iff.rfl
theorem RKr_ok (d : D) : RKr (.ok d) ρ Q ↔ Q.rt d ρ := Iff.rfl
theorem RKr_exc (c : String) (ps : List D) : RKr (.exc c ps) ρ Q ↔ Q.xc c ps ρ := Iff.rfl
theorem NXr_retN : NXr Φ (.retN :: ks) ρ Q ↔ Q.rt .non ρ := by
  simp only [NXr, ex]
  exact Iff.rfl
theorem NXr_brk : NXr Φ (.brk :: ks) ρ Q ↔ Q.bk ρ := by
  simp only [NXr, ex]
  exact Iff.rfl
theorem NXr_cnt : NXr Φ (.cnt :: ks) ρ Q ↔ Q.ct ρ := by
  simp only [NXr, ex]
  exact Iff.rfl
theorem NXr_rais (c : String) (es : CL) : NXr Φ (.rais c es :: ks) ρ Q ↔ ((evs Φ es ρ).out ρ fun xs => if xs.length = (xflds c).length then .exc c xs ρ else .stuck).sat Q := by
  simp only [NXr, ex]
  generalize evs Φ es ρ = r
  cases r with
  | ok xs =>
    simp only [Res.out_ok]
    split <;> exact Iff.rfl
  | exc c ps => exact Iff.rfl
  | stuck => exact Iff.rfl
theorem NXr_cond (c : CE) (a b : CS) : NXr Φ (.cond c a b :: ks) ρ Q ↔ CKr Φ ((ev Φ c ρ).bind truR) a b ks ρ Q := by
  simp only [NXr, ex, CKr]
  all_goals exact Iff.rfl
theorem CKr_ok (k : Bool) (a b : CS) : CKr Φ (.ok k) a b ks ρ Q ↔ IKr Φ k a b ks ρ Q := by cases k <;> exact Iff.rfl
theorem CKr_exc (c : String) (ps : List D) (a b : CS) : CKr Φ (.exc c ps) a b ks ρ Q ↔ Q.xc c ps ρ := Iff.rfl
theorem IKr_t (a b : CS) : IKr Φ true a b ks ρ Q ↔ NXr Φ (a :: ks) ρ Q := Iff.rfl
theorem IKr_f (a b : CS) : IKr Φ false a b ks ρ Q ↔ NXr Φ (b :: ks) ρ Q := Iff.rfl
theorem NXr_loop (t : Tg) (it : CI) (b : CS) : NXr Φ (.loop t it b :: ks) ρ Q ↔ LKr Φ (evi Φ it ρ) t b ks ρ Q := by
  simp only [NXr, ex, LKr]
theorem LKr_ok (xs : List D) (t : Tg) (b : CS) : LKr Φ (.ok xs) t b ks ρ Q ↔ FKr Φ xs t b ks ρ Q := Iff.rfl
theorem NXr_whil (c : CE) (b : CS) : NXr Φ (.whil c b :: ks) ρ Q ↔ WKr Φ TURNS c b ks ρ Q := by
  simp only [NXr, ex, WKr]
theorem BKr_nm (i : Nat) (x : D) (b : CS) : BKr Φ x (.nm i) b ρ Q ↔ NXr Φ [b] (ρ.set i (some x)) Q := Iff.rfl
theorem BKr_2 (i j : Nat) (x y : D) (b : CS) : BKr Φ (.tup [x, y]) (.tp [i, j]) b ρ Q ↔ NXr Φ [b] ((ρ.set i (some x)).set j (some y)) Q := Iff.rfl
theorem BKr_3 (i j k : Nat) (x y z : D) (b : CS) : BKr Φ (.tup [x, y, z]) (.tp [i, j, k]) b ρ Q ↔ NXr Φ [b] (((ρ.set i (some x)).set j (some y)).set k (some z)) Q := Iff.rfl
theorem FKr_cons {x : D} {xs : List D} {t : Tg} {b : CS} : FKr Φ (x :: xs) t b ks ρ Q ↔ BKr Φ x t b ρ { Q with nx := fun ρ' => FKr Φ xs t b ks ρ' Q, ct := fun ρ' => FKr Φ xs t b ks ρ' Q, bk := fun ρ' => NXr Φ ks ρ' Q } := by
  unfold FKr BKr
  simp only [forL]
  generalize (setT ρ t x).next (ex Φ b) = o
  cases o <;> exact Iff.rfl
/-- a loop by its invariant: I at the turn -/
theorem FKr_by {xs : List D} {t : Tg} {b : CS} (I : Nat → Rho → Prop) (h0 : I 0 ρ)
    (hs : ∀ i x ρ', xs[i]? = some x → I i ρ' → BKr Φ x t b ρ' { Q with nx := I (i + 1), ct := I (i + 1), bk := fun ρ' => NXr Φ ks ρ' Q }) (he : ∀ ρ', I xs.length ρ' → NXr Φ ks ρ' Q) : FKr Φ xs t b ks ρ Q := by
  have go : ∀ (ys : List D) (i : Nat) (ρ : Rho), xs.drop i = ys → i ≤ xs.length → I i ρ → FKr Φ ys t b ks ρ Q := by
    intro ys
    induction ys with
    | nil =>
      intro i ρ hd hi h
      have : i = xs.length := by
        have := congrArg List.length hd
        simp at this
        omega
      subst this
      exact he ρ h
    | cons y ys ih =>
      intro i ρ hd hi h
      have hlt : i < xs.length := by
        have := congrArg List.length hd
        simp at this
        omega
      have e := List.drop_eq_getElem_cons hlt
      rw [hd] at e
      injection e with e1 e2
      have h1 := hs i y ρ (by rw [e1]; simp [hlt]) h
      rw [FKr_cons]
      unfold BKr at h1 ⊢
      generalize (setT ρ t y).next (ex Φ b) = o at h1
      cases o with
      | nx ρ' => exact ih (i + 1) ρ' e2.symm hlt h1
      | ct ρ' => exact ih (i + 1) ρ' e2.symm hlt h1
      | bk ρ' => exact h1
      | rt d => exact h1
      | exc c ps ρ => exact h1
      | stuck => exact h1
  exact go xs 0 ρ rfl (Nat.zero_le _) h0
theorem appR_ok {xs : List D} {y : D} (h : xs.length < SZ) : appR (.lst xs) y = .ok (.lst (xs ++ [y])) := by
  unfold appR
  simp only [h, if_true]
theorem putR_ok {p : Nat} {xs : List D} {j : Int} {y : D} (h : ixP xs.length j = some p) : putR (.lst xs) (.int j) y = .ok (.lst (xs.set p y)) := by
  unfold putR ofOpt
  simp only [h, Res.bind_ok]
end
structure NX (Φ : FEnv) (ks : List CS) (ρ : Rho) (Q : Post) : Prop where
  run : NXr Φ ks ρ Q
theorem nx_iff (Φ : FEnv) (ks : List CS) (ρ : Rho) (Q : Post) : NX Φ ks ρ Q ↔ NXr Φ ks ρ Q := ⟨fun h => h.run, fun h => ⟨h⟩⟩
structure AK (Φ : FEnv) (t : Tg) (r : Res D) (ks : List CS) (ρ : Rho) (Q : Post) : Prop where
  run : AKr Φ t r ks ρ Q
theorem ak_iff (Φ : FEnv) (t : Tg) (r : Res D) (ks : List CS) (ρ : Rho) (Q : Post) : AK Φ t r ks ρ Q ↔ AKr Φ t r ks ρ Q := ⟨fun h => h.run, fun h => ⟨h⟩⟩
structure DK (Φ : FEnv) (r : Res D) (ks : List CS) (ρ : Rho) (Q : Post) : Prop where
  run : DKr Φ r ks ρ Q
theorem dk_iff (Φ : FEnv) (r : Res D) (ks : List CS) (ρ : Rho) (Q : Post) : DK Φ r ks ρ Q ↔ DKr Φ r ks ρ Q := ⟨fun h => h.run, fun h => ⟨h⟩⟩
structure RK (r : Res D) (ρ : Rho) (Q : Post) : Prop where
  run : RKr r ρ Q
theorem rk_iff (r : Res D) (ρ : Rho) (Q : Post) : RK r ρ Q ↔ RKr r ρ Q := ⟨fun h => h.run, fun h => ⟨h⟩⟩
structure CK (Φ : FEnv) (r : Res Bool) (a b : CS) (ks : List CS) (ρ : Rho) (Q : Post) : Prop where
  run : CKr Φ r a b ks ρ Q
theorem ck_iff (Φ : FEnv) (r : Res Bool) (a b : CS) (ks : List CS) (ρ : Rho) (Q : Post) : CK Φ r a b ks ρ Q ↔ CKr Φ r a b ks ρ Q := ⟨fun h => h.run, fun h => ⟨h⟩⟩
structure IK (Φ : FEnv) (k : Bool) (a b : CS) (ks : List CS) (ρ : Rho) (Q : Post) : Prop where
  run : IKr Φ k a b ks ρ Q
theorem ik_iff (Φ : FEnv) (k : Bool) (a b : CS) (ks : List CS) (ρ : Rho) (Q : Post) : IK Φ k a b ks ρ Q ↔ IKr Φ k a b ks ρ Q := ⟨fun h => h.run, fun h => ⟨h⟩⟩
structure EK (r : Res (List D)) (c : String) (ρ : Rho) (Q : Post) : Prop where
  run : (r.out ρ fun xs => if xs.length = (xflds c).length then .exc c xs ρ else .stuck).sat Q
structure LK (Φ : FEnv) (r : Res (List D)) (t : Tg) (b : CS) (ks : List CS) (ρ : Rho) (Q : Post) : Prop where
  run : LKr Φ r t b ks ρ Q
theorem lk_iff (Φ : FEnv) (r : Res (List D)) (t : Tg) (b : CS) (ks : List CS) (ρ : Rho) (Q : Post) : LK Φ r t b ks ρ Q ↔ LKr Φ r t b ks ρ Q := ⟨fun h => h.run, fun h => ⟨h⟩⟩
structure FK (Φ : FEnv) (xs : List D) (t : Tg) (b : CS) (ks : List CS) (ρ : Rho) (Q : Post) : Prop where
  run : FKr Φ xs t b ks ρ Q
theorem fk_iff (Φ : FEnv) (xs : List D) (t : Tg) (b : CS) (ks : List CS) (ρ : Rho) (Q : Post) : FK Φ xs t b ks ρ Q ↔ FKr Φ xs t b ks ρ Q := ⟨fun h => h.run, fun h => ⟨h⟩⟩
structure BK (Φ : FEnv) (x : D) (t : Tg) (b : CS) (ρ : Rho) (Q : Post) : Prop where
  run : BKr Φ x t b ρ Q
theorem bk_iff (Φ : FEnv) (x : D) (t : Tg) (b : CS) (ρ : Rho) (Q : Post) : BK Φ x t b ρ Q ↔ BKr Φ x t b ρ Q := ⟨fun h => h.run, fun h => ⟨h⟩⟩
structure WK (Φ : FEnv) (n : Nat) (c : CE) (b : CS) (ks : List CS) (ρ : Rho) (Q : Post) : Prop where
  run : WKr Φ n c b ks ρ Q
theorem wk_iff (Φ : FEnv) (n : Nat) (c : CE) (b : CS) (ks : List CS) (ρ : Rho) (Q : Post) : WK Φ n c b ks ρ Q ↔ WKr Φ n c b ks ρ Q := ⟨fun h => h.run, fun h => ⟨h⟩⟩
section
variable {α β : Type} {Φ : FEnv} {ρ : Rho} {Q : Post} {ks : List CS}
theorem Za : NX Φ [] ρ Q ↔ Q.nx ρ := by
  simp only [nx_iff, ak_iff, dk_iff, rk_iff, ck_iff, ik_iff, lk_iff, fk_iff, bk_iff, wk_iff]
  exact NXr_nil
theorem Zb : NX Φ (.skip :: ks) ρ Q ↔ NX Φ ks ρ Q := by
  simp only [nx_iff, ak_iff, dk_iff, rk_iff, ck_iff, ik_iff, lk_iff, fk_iff, bk_iff, wk_iff]
  exact NXr_skip
theorem Zd (a b : CS) : NX Φ (.seq a b :: ks) ρ Q ↔ NX Φ (a :: b :: ks) ρ Q := by
  simp only [nx_iff, ak_iff, dk_iff, rk_iff, ck_iff, ik_iff, lk_iff, fk_iff, bk_iff, wk_iff]
  exact NXr_seq _ _
theorem Ze (t : Tg) (e : CE) : NX Φ (.asg t e :: ks) ρ Q ↔ AK Φ t (ev Φ e ρ) ks ρ Q := by
  simp only [nx_iff, ak_iff, dk_iff, rk_iff, ck_iff, ik_iff, lk_iff, fk_iff, bk_iff, wk_iff]
  exact NXr_asg _ _
theorem Zf (i : Nat) (d : D) : AK Φ (.nm i) (.ok d) ks ρ Q ↔ NX Φ ks (ρ.set i (some d)) Q := by
  simp only [nx_iff, ak_iff, dk_iff, rk_iff, ck_iff, ik_iff, lk_iff, fk_iff, bk_iff, wk_iff]
  exact AKr_nm _ _
theorem Zg (i j : Nat) (a b : D) : AK Φ (.tp [i, j]) (.ok (.tup [a, b])) ks ρ Q ↔ NX Φ ks ((ρ.set i (some a)).set j (some b)) Q := by
  simp only [nx_iff, ak_iff, dk_iff, rk_iff, ck_iff, ik_iff, lk_iff, fk_iff, bk_iff, wk_iff]
  exact AKr_2 _ _ _ _
theorem Zh (i j k : Nat) (a b c : D) : AK Φ (.tp [i, j, k]) (.ok (.tup [a, b, c])) ks ρ Q ↔ NX Φ ks (((ρ.set i (some a)).set j (some b)).set k (some c)) Q := by
  simp only [nx_iff, ak_iff, dk_iff, rk_iff, ck_iff, ik_iff, lk_iff, fk_iff, bk_iff, wk_iff]
  exact AKr_3 _ _ _ _ _ _
theorem Zi (i j k l m n o p : Nat) (a b c d e f g h : D) : AK Φ (.tp [i, j, k, l, m, n, o, p]) (.ok (.tup [a, b, c, d, e, f, g, h])) ks ρ Q ↔
    NX Φ ks ((((((((ρ.set i (some a)).set j (some b)).set k (some c)).set l (some d)).set m (some e)).set n (some f)).set o (some g)).set p (some h)) Q := by
  simp only [nx_iff, ak_iff, dk_iff, rk_iff, ck_iff, ik_iff, lk_iff, fk_iff, bk_iff, wk_iff]
  exact AKr_8 _ _ _ _ _ _ _ _ _ _ _ _ _ _ _ _
theorem Zj (t : Tg) (c : String) (ps : List D) : AK Φ t (.exc c ps) ks ρ Q ↔ Q.xc c ps ρ := by
  simp only [nx_iff, ak_iff, dk_iff, rk_iff, ck_iff, ik_iff, lk_iff, fk_iff, bk_iff, wk_iff]
  exact AKr_exc _ _ _
theorem Zk (e : CE) : NX Φ (.exp e :: ks) ρ Q ↔ DK Φ (ev Φ e ρ) ks ρ Q := by
  simp only [nx_iff, ak_iff, dk_iff, rk_iff, ck_iff, ik_iff, lk_iff, fk_iff, bk_iff, wk_iff]
  exact NXr_exp _
theorem Zl (d : D) : DK Φ (.ok d) ks ρ Q ↔ NX Φ ks ρ Q := by
  simp only [nx_iff, ak_iff, dk_iff, rk_iff, ck_iff, ik_iff, lk_iff, fk_iff, bk_iff, wk_iff]
  exact DKr_ok _
theorem Zm (i : Nat) (e : CE) : NX Φ (.aug i e :: ks) ρ Q ↔ AK Φ (.nm i) ((getv ρ i).bind fun x => (ev Φ e ρ).bind fun y => addI x y) ks ρ Q := by
  simp only [nx_iff, ak_iff, dk_iff, rk_iff, ck_iff, ik_iff, lk_iff, fk_iff, bk_iff, wk_iff]
  exact NXr_aug _ _
theorem Zn (i : Nat) (e : CE) : NX Φ (.app i e :: ks) ρ Q ↔ AK Φ (.nm i) ((getv ρ i).bind fun x => (lstD x).bind fun xs => (ev Φ e ρ).bind fun y => appR (.lst xs) y) ks ρ Q := by
  simp only [nx_iff, ak_iff, dk_iff, rk_iff, ck_iff, ik_iff, lk_iff, fk_iff, bk_iff, wk_iff]
  exact NXr_app _ _
theorem Zp (i : Nat) (a b : CE) : NX Φ (.ins i a b :: ks) ρ Q ↔ AK Φ (.nm i) ((getv ρ i).bind fun x => (lstD x).bind fun xs => (ev Φ a ρ).bind fun j => (ev Φ b ρ).bind fun y => insR (.lst xs) j y) ks ρ Q := by
  simp only [nx_iff, ak_iff, dk_iff, rk_iff, ck_iff, ik_iff, lk_iff, fk_iff, bk_iff, wk_iff]
  exact NXr_ins _ _ _
theorem Zo (i : Nat) (e : CE) : NX Φ (.ext i e :: ks) ρ Q ↔ AK Φ (.nm i) ((getv ρ i).bind fun x => (lstD x).bind fun xs => (ev Φ e ρ).bind fun y => extR (.lst xs) y) ks ρ Q := by
  simp only [nx_iff, ak_iff, dk_iff, rk_iff, ck_iff, ik_iff, lk_iff, fk_iff, bk_iff, wk_iff]
  exact NXr_ext _ _
theorem Zq (i : Nat) (k e : CE) : NX Φ (.put i k e :: ks) ρ Q ↔ AK Φ (.nm i) ((ev Φ e ρ).bind fun y => (getv ρ i).bind fun x => (ev Φ k ρ).bind fun j => putR x j y) ks ρ Q := by
  simp only [nx_iff, ak_iff, dk_iff, rk_iff, ck_iff, ik_iff, lk_iff, fk_iff, bk_iff, wk_iff]
  exact NXr_put _ _ _
theorem Zr (k i : Nat) (a : CE) : NX Φ (.pop k i a :: ks) ρ Q ↔ AK Φ (.tp [i, k]) ((getv ρ i).bind fun x => (lstD x).bind fun xs => (ev Φ a ρ).bind fun j => popR (.lst xs) j) ks ρ Q := by
  simp only [nx_iff, ak_iff, dk_iff, rk_iff, ck_iff, ik_iff, lk_iff, fk_iff, bk_iff, wk_iff]
  exact NXr_pop _ _ _
theorem Zs (e : CE) : NX Φ (.ret e :: ks) ρ Q ↔ RK (ev Φ e ρ) ρ Q := by
  simp only [nx_iff, ak_iff, dk_iff, rk_iff, ck_iff, ik_iff, lk_iff, fk_iff, bk_iff, wk_iff]
  exact NXr_ret _
theorem Zt (d : D) : RK (.ok d) ρ Q ↔ Q.rt d ρ := by
  simp only [nx_iff, ak_iff, dk_iff, rk_iff, ck_iff, ik_iff, lk_iff, fk_iff, bk_iff, wk_iff]
  exact RKr_ok _
theorem Zu (c : String) (ps : List D) : RK (.exc c ps) ρ Q ↔ Q.xc c ps ρ := by
  simp only [nx_iff, ak_iff, dk_iff, rk_iff, ck_iff, ik_iff, lk_iff, fk_iff, bk_iff, wk_iff]
  exact RKr_exc _ _
theorem Zv : NX Φ (.retN :: ks) ρ Q ↔ Q.rt .non ρ := by
  simp only [nx_iff, ak_iff, dk_iff, rk_iff, ck_iff, ik_iff, lk_iff, fk_iff, bk_iff, wk_iff]
  exact NXr_retN
theorem Zw : NX Φ (.brk :: ks) ρ Q ↔ Q.bk ρ := by
  simp only [nx_iff, ak_iff, dk_iff, rk_iff, ck_iff, ik_iff, lk_iff, fk_iff, bk_iff, wk_iff]
  exact NXr_brk
theorem Zx : NX Φ (.cnt :: ks) ρ Q ↔ Q.ct ρ := by
  simp only [nx_iff, ak_iff, dk_iff, rk_iff, ck_iff, ik_iff, lk_iff, fk_iff, bk_iff, wk_iff]
  exact NXr_cnt
theorem Ziy (c : String) (es : CL) : NX Φ (.rais c es :: ks) ρ Q ↔ EK (evs Φ es ρ) c ρ Q := by
  rw [nx_iff]
  exact (NXr_rais _ _).trans ⟨fun h => ⟨h⟩, fun h => h.run⟩
theorem Zja (xs : List D) (c : String) (h : xs.length = (xflds c).length) : EK (.ok xs) c ρ Q ↔ Q.xc c xs ρ := by
  refine ⟨fun z => ?_, fun z => ⟨?_⟩⟩
  · have z := z.run
    simp only [Res.out_ok, if_pos h] at z
    exact z
  · simp only [Res.out_ok, if_pos h]
    exact z
theorem Zjb (c : String) (ps : List D) : DK Φ (.exc c ps) ks ρ Q ↔ Q.xc c ps ρ := ⟨fun h => h.run, fun h => ⟨h⟩⟩
theorem Zjc {α β : Type} (c : String) (ps : List D) (f : α → Res β) : (Res.exc c ps).bind f = .exc c ps := id rfl
theorem Zy (c : CE) (a b : CS) : NX Φ (.cond c a b :: ks) ρ Q ↔ CK Φ ((ev Φ c ρ).bind truR) a b ks ρ Q := by
  simp only [nx_iff, ak_iff, dk_iff, rk_iff, ck_iff, ik_iff, lk_iff, fk_iff, bk_iff, wk_iff]
  exact NXr_cond _ _ _
theorem Zz (k : Bool) (a b : CS) : CK Φ (.ok k) a b ks ρ Q ↔ IK Φ k a b ks ρ Q := by
  simp only [nx_iff, ak_iff, dk_iff, rk_iff, ck_iff, ik_iff, lk_iff, fk_iff, bk_iff, wk_iff]
  exact CKr_ok _ _ _
theorem Zaa (c : String) (ps : List D) (a b : CS) : CK Φ (.exc c ps) a b ks ρ Q ↔ Q.xc c ps ρ := by
  simp only [nx_iff, ak_iff, dk_iff, rk_iff, ck_iff, ik_iff, lk_iff, fk_iff, bk_iff, wk_iff]
  exact CKr_exc _ _ _ _
theorem Zab (a b : CS) : IK Φ true a b ks ρ Q ↔ NX Φ (a :: ks) ρ Q := by
  simp only [nx_iff, ak_iff, dk_iff, rk_iff, ck_iff, ik_iff, lk_iff, fk_iff, bk_iff, wk_iff]
  exact IKr_t _ _
theorem Zac (a b : CS) : IK Φ false a b ks ρ Q ↔ NX Φ (b :: ks) ρ Q := by
  simp only [nx_iff, ak_iff, dk_iff, rk_iff, ck_iff, ik_iff, lk_iff, fk_iff, bk_iff, wk_iff]
  exact IKr_f _ _
theorem Zbf (t : Tg) (it : CI) (b : CS) : NX Φ (.loop t it b :: ks) ρ Q ↔ LK Φ (evi Φ it ρ) t b ks ρ Q := by
  simp only [nx_iff, ak_iff, dk_iff, rk_iff, ck_iff, ik_iff, lk_iff, fk_iff, bk_iff, wk_iff]
  exact NXr_loop _ _ _
theorem Zbg (xs : List D) (t : Tg) (b : CS) : LK Φ (.ok xs) t b ks ρ Q ↔ FK Φ xs t b ks ρ Q := by
  simp only [nx_iff, ak_iff, dk_iff, rk_iff, ck_iff, ik_iff, lk_iff, fk_iff, bk_iff, wk_iff]
  exact LKr_ok _ _ _
theorem Zbh (c : CE) (b : CS) : NX Φ (.whil c b :: ks) ρ Q ↔ WK Φ TURNS c b ks ρ Q := by
  simp only [nx_iff, ak_iff, dk_iff, rk_iff, ck_iff, ik_iff, lk_iff, fk_iff, bk_iff, wk_iff]
  exact NXr_whil _ _
theorem Zbi (i : Nat) (x : D) (b : CS) : BK Φ x (.nm i) b ρ Q ↔ NX Φ [b] (ρ.set i (some x)) Q := by
  simp only [nx_iff, ak_iff, dk_iff, rk_iff, ck_iff, ik_iff, lk_iff, fk_iff, bk_iff, wk_iff]
  exact BKr_nm _ _ _
theorem Zbj (i j : Nat) (x y : D) (b : CS) : BK Φ (.tup [x, y]) (.tp [i, j]) b ρ Q ↔ NX Φ [b] ((ρ.set i (some x)).set j (some y)) Q := by
  simp only [nx_iff, ak_iff, dk_iff, rk_iff, ck_iff, ik_iff, lk_iff, fk_iff, bk_iff, wk_iff]
  exact BKr_2 _ _ _ _ _
theorem Zbk (i j k : Nat) (x y z : D) (b : CS) : BK Φ (.tup [x, y, z]) (.tp [i, j, k]) b ρ Q ↔ NX Φ [b] (((ρ.set i (some x)).set j (some y)).set k (some z)) Q := by
  simp only [nx_iff, ak_iff, dk_iff, rk_iff, ck_iff, ik_iff, lk_iff, fk_iff, bk_iff, wk_iff]
  exact BKr_3 _ _ _ _ _ _ _
theorem IK_by {k : Bool} {a b : CS} (h1 : k = true → NX Φ (a :: ks) ρ Q) (h2 : k = false → NX Φ (b :: ks) ρ Q) : IK Φ k a b ks ρ Q := by
  cases k
  · exact (Zac a b).mpr (h2 rfl)
  · exact (Zab a b).mpr (h1 rfl)
/-- a loop by its invariant: I at the turn -/
theorem FK_by {xs : List D} {t : Tg} {b : CS} (I : Nat → Rho → Prop) (h0 : I 0 ρ)
    (hs : ∀ i x ρ', xs[i]? = some x → I i ρ' → BK Φ x t b ρ' { Q with nx := I (i + 1), ct := I (i + 1), bk := fun ρ' => NX Φ ks ρ' Q }) (he : ∀ ρ', I xs.length ρ' → NX Φ ks ρ' Q) : FK Φ xs t b ks ρ Q := by
  refine ⟨FKr_by I h0 (fun i x ρ' hx h => ?_) fun ρ' h => (he ρ' h).run⟩
  have z := (hs i x ρ' hx h).run
  simp only [nx_iff] at z
  exact z
/-- a loop over mapped things -/
theorem FK_map {α : Type} {g : α → D} {t : Tg} {b : CS} {ys : List α} (I : Nat → Rho → Prop) (h0 : I 0 ρ)
    (hs : ∀ i y ρ', ys[i]? = some y → I i ρ' → BK Φ (g y) t b ρ' { Q with nx := I (i + 1), ct := I (i + 1), bk := fun ρ' => NX Φ ks ρ' Q }) (he : ∀ ρ', I ys.length ρ' → NX Φ ks ρ' Q) : FK Φ (ys.map g) t b ks ρ Q := by
  refine FK_by I h0 (fun i x ρ' hx h => ?_) (fun ρ' h => he ρ' (by simpa using h))
  rw [List.getElem?_map] at hx
  cases hr : ys[i]? with
  | none => rw [hr] at hx; cases hx
  | some m =>
    rw [hr] at hx
    cases hx
    exact hs i m ρ' hr h
theorem range_get {n i m : Nat} (h : (List.range n)[i]? = some m) : m = i ∧ i < n := by
  obtain ⟨h1, h2⟩ := List.getElem?_eq_some_iff.mp h
  rw [List.getElem_range] at h2
  exact ⟨h2.symm, by simpa using h1⟩
/-- .. over a range -/
theorem FK_rng {t : Tg} {b : CS} {n : Nat} {g : Nat → D} (I : Nat → Rho → Prop) (h0 : I 0 ρ)
    (hs : ∀ i ρ', i < n → I i ρ' → BK Φ (g i) t b ρ' { Q with nx := I (i + 1), ct := I (i + 1), bk := fun ρ' => NX Φ ks ρ' Q }) (he : ∀ ρ', I n ρ' → NX Φ ks ρ' Q) : FK Φ ((List.range n).map g) t b ks ρ Q :=
  FK_map I h0 (fun i y ρ' hy h => by
    obtain ⟨e, hi⟩ := range_get hy
    subst e
    exact hs y ρ' hi h) fun ρ' h => he ρ' (by simpa using h)
end
/-- a def's end -/
def Q0 (T : D → Prop) : Post := ⟨fun _ => T .non, fun d _ => T d, fun _ => False, fun _ => False, fun _ _ _ => False⟩
theorem Zbl (T : D → Prop) (d : D) (ρ : Rho) : (Q0 T).rt d ρ = T d := id rfl
theorem Zbm (T : D → Prop) (ρ : Rho) : (Q0 T).nx ρ = T .non := id rfl
theorem run_of {P : Prog} {key : String} {f : Fn} (h : P key = some f) (k : Nat) (args : List D) (hl : args.length = f.par) : run P (k + 1) key args = endOf f.io (ex (run P k) f.body (enter f args)) := by
  simp only [run, h, hl, if_true]
theorem run_sat {P : Prog} {key : String} {f : Fn} (h : P key = some f) (k : Nat) (args : List D) (ρ : Rho) (T : D → Prop) (hl : args.length = f.par) (hρ : enter f args = ρ) (s : NX (run P k) [f.body] ρ (Q0 T)) (hio : f.io = [] := by rfl) : ∃ d, run P (k + 1) key args = .ok d ∧ T d := by
  rw [run_of h k args hl, hρ, hio]
  have s := s.run
  simp only [NXr] at s
  generalize ex (run P k) f.body ρ = o at s
  cases o with
  | nx ρ => exact ⟨_, rfl, s⟩
  | rt d ρ => exact ⟨_, rfl, s⟩
  | bk ρ => exact s.elim
  | ct ρ => exact s.elim
  | exc c ps ρ => exact s.elim
  | stuck => exact s.elim
theorem run_eq {P : Prog} {key : String} {f : Fn} (h : P key = some f) (k : Nat) (args : List D) (ρ : Rho) (d : D) (hl : args.length = f.par) (hρ : enter f args = ρ) (s : NX (run P k) [f.body] ρ (Q0 (· = d))) (hio : f.io = [] := by rfl) : run P (k + 1) key args = .ok d := by
  obtain ⟨d', h1, h2⟩ := run_sat h k args ρ _ hl hρ s hio
  rw [h1, h2]
/-- the end of a def that changes what its parameters io hold -/
def QI (io : List Nat) (T : D → List D → Prop) : Post := ⟨fun ρ => ∃ os, outsOf ρ io = some os ∧ T .non os, fun d ρ => ∃ os, outsOf ρ io = some os ∧ T d os, fun _ => False, fun _ => False, fun _ _ _ => False⟩
theorem Zbd (io : List Nat) (T : D → List D → Prop) (d : D) (ρ : Rho) : (QI io T).rt d ρ = ∃ os, outsOf ρ io = some os ∧ T d os := id rfl
theorem Zbe (io : List Nat) (T : D → List D → Prop) (ρ : Rho) : (QI io T).nx ρ = ∃ os, outsOf ρ io = some os ∧ T .non os := id rfl
/-- behind an expression that may change what is own -/
structure GK (o : Out) (k : D → Rho → Prop) (Q : Post) : Prop where
  run : o.sat { Q with nx := fun _ => False, rt := k, bk := fun _ => False, ct := fun _ => False }
theorem Zai (d : D) (ρ : Rho) (k : D → Rho → Prop) (Q : Post) : GK (.rt d ρ) k Q ↔ k d ρ := ⟨fun h => h.run, fun h => ⟨h⟩⟩
theorem Zaj (c : String) (ps : List D) (ρ : Rho) (k : D → Rho → Prop) (Q : Post) : GK (.exc c ps ρ) k Q ↔ Q.xc c ps ρ := ⟨fun h => h.run, fun h => ⟨h⟩⟩
theorem thn_sat {o : Out} {f : D → Rho → Out} {Q : Post} : (o.thn f).sat Q ↔ GK o (fun d ρ => (f d ρ).sat Q) Q := by
  cases o with
  | rt d ρ => exact (Zai d ρ (fun d ρ => (f d ρ).sat Q) Q).symm
  | exc c ps ρ => exact (Zaj _ _ _ _ _).symm
  | _ => exact ⟨fun h => False.elim h, fun h => False.elim h.run⟩
def fsetR (c f : String) (x d : D) : Res D :=
  match x with
  | .obj c' fs => if c' = c ∧ fs.length < 100 then .ok (.obj c (putFD f d fs)) else .stuck
  | _ => .stuck
def newR (r : Res D) : Res D :=
  match r with
  | .ok (.tup [.non, o]) => .ok o
  | .exc c ps => .exc c (ps.drop 1)
  | _ => .stuck
section
variable {Φ : FEnv} {ρ : Rho} {Q : Post} {ks : List CS}
theorem Zaf (e : EE) : NX Φ (.expE e :: ks) ρ Q ↔ GK (eve Φ e ρ) (fun _ ρ' => NX Φ ks ρ' Q) Q := by
  rw [nx_iff]
  simp only [NXr, ex]
  rw [thn_sat]
  constructor
  · intro h
    refine ⟨?_⟩
    have h := h.run
    generalize eve Φ e ρ = o at h ⊢
    cases o <;> first | exact (nx_iff _ _ _ _).2 h | exact h
  · intro h
    refine ⟨?_⟩
    have h := h.run
    generalize eve Φ e ρ = o at h ⊢
    cases o <;> first | exact (nx_iff _ _ _ _).1 h | exact h
theorem Zag (e : EE) : NX Φ (.retE e :: ks) ρ Q ↔ GK (eve Φ e ρ) Q.rt Q := by
  rw [nx_iff]
  simp only [NXr, ex]
  rw [thn_sat]
  constructor
  · intro h
    refine ⟨?_⟩
    have h := h.run
    generalize eve Φ e ρ = o at h ⊢
    cases o <;> exact h
  · intro h
    refine ⟨?_⟩
    have h := h.run
    generalize eve Φ e ρ = o at h ⊢
    cases o <;> exact h
theorem Zah (t : Tg) (e : EE) : NX Φ (.asgE t e :: ks) ρ Q ↔ GK (eve Φ e ρ) (fun d ρ' => AK Φ t (.ok d) ks ρ' Q) Q := by
  rw [nx_iff]
  simp only [NXr, ex]
  rw [thn_sat]
  constructor
  · intro h
    refine ⟨?_⟩
    have h := h.run
    generalize eve Φ e ρ = o at h ⊢
    cases o <;> first | exact (ak_iff _ _ _ _ _ _).2 h | exact h
  · intro h
    refine ⟨?_⟩
    have h := h.run
    generalize eve Φ e ρ = o at h ⊢
    cases o <;> first | exact (ak_iff _ _ _ _ _ _).1 h | exact h
theorem Zad (i : Nat) (c f : String) (e : CE) : NX Φ (.fset i c f e :: ks) ρ Q ↔ AK Φ (.nm i) ((ev Φ e ρ).bind fun d => (getv ρ i).bind fun x => fsetR c f x d) ks ρ Q := by
  rw [nx_iff, ak_iff]
  simp only [NXr, ex, AKr, out_bind]
  have : ∀ x d, fsetO ρ i c f x d = (fsetR c f x d).out ρ fun d => setT ρ (.nm i) d := fun x d => by
    unfold fsetO fsetR
    cases x <;> first | rfl | (rename_i c' fs; by_cases h : c' = c ∧ fs.length < 100 <;> simp [h] <;> rfl)
  simp only [this]
theorem Zae (i : Nat) (c key : String) (es : CL) : NX Φ (.new i c key es :: ks) ρ Q ↔ AK Φ (.nm i) ((evs Φ es ρ).bind fun xs => newR (Φ key (.obj c [] :: xs))) ks ρ Q := by
  rw [nx_iff, ak_iff]
  simp only [NXr, ex, AKr, out_bind]
  have : ∀ r, newO ρ i r = (newR r).out ρ fun d => setT ρ (.nm i) d := fun r => by
    unfold newO newR
    cases r with
    | ok z =>
      cases z with
      | tup ws =>
        rcases ws with _ | ⟨d, _ | ⟨o', _ | ⟨w, ws⟩⟩⟩
        · rfl
        · cases d <;> rfl
        · cases d <;> rfl
        · cases d <;> rfl
      | _ => rfl
    | exc _ _ => rfl
    | stuck => rfl
  simp only [this]
end
theorem Zak (o : D) : newR (.ok (.tup [.non, o])) = .ok o := id rfl
theorem Zal (Φ : FEnv) (ρ : Rho) (e : CE) : eve Φ (.pu e) ρ = (ev Φ e ρ).out ρ fun d => .rt d ρ := by simp only [eve]
theorem Zam (Φ : FEnv) (ρ : Rho) (w : Option (Nat × String × String)) (key : String) (os : List (Nat × Nat)) (es : CL) : eve Φ (.io w key os es) ρ = if ioM ρ w = true then (evs Φ es ρ).out ρ fun xs => ioO ρ os (Φ key xs) else .stuck := by simp only [eve]
def callK (Φ : FEnv) (f : String) (d : D) (ρ' : Rho) : Out := match d with
  | .tup xs => (Φ f xs).out ρ' fun d => .rt d ρ'
  | _ => .stuck
def tupK (d : D) (ρ' : Rho) : Out := match d with
  | .tup xs => if xs.length ≤ SZ then .rt (.tup xs) ρ' else .stuck
  | _ => .stuck
def consK (x d : D) (ρ' : Rho) : Out := match d with
  | .tup xs => .rt (.tup (x :: xs)) ρ'
  | _ => .stuck
theorem Zan (Φ : FEnv) (ρ : Rho) (f : String) (es : EL) : eve Φ (.call f es) ρ = (eves Φ es ρ).thn (callK Φ f) := by
  simp only [eve]
  rfl
theorem Zao (Φ : FEnv) (ρ : Rho) (es : EL) : eve Φ (.tup es) ρ = (eves Φ es ρ).thn tupK := by
  simp only [eve]
  rfl
theorem Zap (Φ : FEnv) (ρ : Rho) : eves Φ .nil ρ = .rt (.tup []) ρ := by simp only [eves]
theorem Zaq (Φ : FEnv) (ρ : Rho) (e : EE) (es : EL) : eves Φ (.cons e es) ρ = (eve Φ e ρ).thn fun x ρ1 => (eves Φ es ρ1).thn (consK x) := by
  simp only [eves]
  rfl
theorem Zar (Φ : FEnv) (f : String) (xs : List D) (ρ : Rho) : callK Φ f (.tup xs) ρ = (Φ f xs).out ρ fun d => .rt d ρ := id rfl
theorem Zas (xs : List D) (ρ : Rho) : tupK (.tup xs) ρ = if xs.length ≤ SZ then .rt (.tup xs) ρ else .stuck := id rfl
theorem Zat (x : D) (xs : List D) (ρ : Rho) : consK x (.tup xs) ρ = .rt (.tup (x :: xs)) ρ := id rfl
theorem Zau (d : D) (ρ : Rho) (f : D → Rho → Out) : (Out.rt d ρ).thn f = f d ρ := id rfl
theorem Zav {α : Type} (a : α) (ρ : Rho) (f : α → Out) : (Res.ok a).out ρ f = f a := id rfl
theorem Zaw (ρ : Rho) : ioM ρ none = true := id rfl
theorem Zax (ρ : Rho) (c m : String) (d : D) : ioM (some d :: ρ) (some (0, c, m)) = obM c m d := id rfl
theorem Zay (ρ : Rho) (o : Option D) (c m : String) (i : Nat) : ioM (o :: ρ) (some (i + 1, c, m)) = ioM ρ (some (i, c, m)) := id rfl
theorem Zaz (ρ : Rho) (p i : Nat) (d o : D) : ioO ρ [(p, i)] (.ok (.tup [d, o])) = .rt d (ρ.set i (some o)) := id rfl
theorem Zba (ρ : Rho) (p i q j : Nat) (d o o' : D) : ioO ρ [(p, i), (q, j)] (.ok (.tup [d, o, o'])) = .rt d ((ρ.set i (some o)).set j (some o')) := id rfl
theorem Zbb (Φ : FEnv) (ρ : Rho) (a : CE) (c f : String) : ev Φ (.fld a c f) ρ = (ev Φ a ρ).bind (fldR c f) := by simp only [ev]
theorem Zbc (Φ : FEnv) (ρ : Rho) (i : Nat) (c m key : String) (es : CL) : ev Φ (.meth i c m key es) ρ = (getv ρ i).bind fun d => if obM c m d = true then (evs Φ es ρ).bind fun xs => Φ key (d :: xs) else .stuck := by simp only [ev]
/-! ### values -/
theorem Zbw {α β : Type} (a : α) (f : α → Res β) : (Res.ok a).bind f = f a := id rfl
theorem Zbs (d : D) (ρ : Rho) : getv (some d :: ρ) 0 = .ok d := id rfl
theorem Zbt (o : Option D) (ρ : Rho) (n : Nat) : getv (o :: ρ) (n + 1) = getv ρ n := id rfl
theorem Zbu (o p : Option D) (ρ : Rho) : (o :: ρ).set 0 p = p :: ρ := id rfl
theorem Zbv (o p : Option D) (ρ : Rho) (n : Nat) : (o :: ρ).set (n + 1) p = o :: ρ.set n p := id rfl
section
variable (i j : Int) (s t : List Nat) (b c : Bool) (xs ys : List D)
theorem Zex : binR .add (.int i) (.int j) = .ok (.int (i + j)) := id rfl
theorem b_adds : binR .add (.str s) (.str t) = if s.length + t.length ≤ SZ then .ok (.str (s ++ t)) else .stuck := id rfl
theorem b_addl : binR .add (.lst xs) (.lst ys) = if xs.length + ys.length ≤ SZ then .ok (.lst (xs ++ ys)) else .stuck := id rfl
theorem b_addsI (h : s.length + t.length ≤ SZ) : binR .add (.str s) (.str t) = .ok (.str (s ++ t)) := by rw [b_adds, if_pos h]
theorem b_addlI (h : xs.length + ys.length ≤ SZ) : binR .add (.lst xs) (.lst ys) = .ok (.lst (xs ++ ys)) := by rw [b_addl, if_pos h]
theorem Zey : binR .sub (.int i) (.int j) = .ok (.int (i - j)) := id rfl
theorem b_mul : binR .mul (.int i) (.int j) = if bitsI i + bitsI j ≤ 134217728 then .ok (.int (i * j)) else .stuck := id rfl
theorem b_fdiv : binR .fdiv (.int i) (.int j) = if 0 < j ∧ bitsI j ≤ 9000 then .ok (.int (i / j)) else .stuck := id rfl
theorem b_mod : binR .mod (.int i) (.int j) = if 0 < j then .ok (.int (i % j)) else .stuck := id rfl
theorem b_pow : binR .pow (.int i) (.int j) = if 0 ≤ j ∧ j ≤ 1000000 ∧ bitsI i ≤ 64 then .ok (.int (i ^ j.toNat)) else .stuck := id rfl
theorem b_shr : binR .shr (.int i) (.int j) = if 0 ≤ j then .ok (.int (i / 2 ^ j.toNat)) else .stuck := id rfl
theorem Zfd : binR .lt (.int i) (.int j) = .ok (.bl (decide (i < j))) := id rfl
theorem Zfe : binR .le (.int i) (.int j) = .ok (.bl (decide (i ≤ j))) := id rfl
theorem Zff : binR .gt (.int i) (.int j) = .ok (.bl (decide (j < i))) := id rfl
theorem Zfg : binR .ge (.int i) (.int j) = .ok (.bl (decide (j ≤ i))) := id rfl
theorem Zfh : binR .eq (.int i) (.int j) = .ok (.bl (i == j)) := id rfl
theorem Zfi : binR .eq (.str s) (.str t) = .ok (.bl (s == t)) := id rfl
theorem Zfj : binR .eq (.bl b) (.bl c) = .ok (.bl (b == c)) := id rfl
theorem Zfk : binR .ne (.int i) (.int j) = .ok (.bl (!(i == j))) := id rfl
theorem Zfl : binR .ne (.str s) (.str t) = .ok (.bl (!(s == t))) := id rfl
theorem Zfm : binR .ne (.bl b) (.bl c) = .ok (.bl (!(b == c))) := id rfl
theorem Zfn (x c : D) : binR .inn x c = (inR x c).bind fun r => .ok (.bl r) := id rfl
theorem Zfo (x c : D) : binR .nin x c = (inR x c).bind fun r => .ok (.bl (!r)) := id rfl
theorem Zfp (x y : D) : binR .eq x y = (eqR x y).bind fun r => .ok (.bl r) := id rfl
theorem Zfq (x y : D) : binR .ne x y = (eqR x y).bind fun r => .ok (.bl (!r)) := id rfl
theorem Zfr (x y : D) (hx : cmpB x = true) (hy : cmpB y = true) : eqR x y = .ok (eqD x y) := by unfold eqR; rw [hx, hy]; rfl
theorem Zfv (z : Nat) : inR (.str [z]) (.str s) = .ok (s.any fun c => c == z) := id rfl
theorem Zft (x : D) (hx : cmpB x = true) (hy : cmpB (.lst ys) = true) : inR x (.lst ys) = .ok (ys.any fun y => eqD y x) := by unfold inR; simp only [hx, hy]; rfl
theorem Zfu (x : D) (hx : cmpB x = true) (hy : cmpB (.tup ys) = true) : inR x (.tup ys) = .ok (ys.any fun y => eqD y x) := by unfold inR; simp only [hx, hy]; rfl
theorem Zfw : eqD (.int i) (.int j) = (i == j) := by simp only [eqD]
theorem Zfx : eqD (.str s) (.str t) = (s == t) := by simp only [eqD]
theorem Zfy : eqD (.bl b) (.bl c) = (b == c) := by simp only [eqD]
theorem Zfz : eqD (.tup xs) (.tup ys) = eqDs xs ys := by simp only [eqD]
theorem Zga : eqD (.lst xs) (.lst ys) = eqDs xs ys := by simp only [eqD]
theorem Zgb : eqD .non .non = true := by simp only [eqD]
theorem Zgc : eqDs [] [] = true := by simp only [eqDs]
theorem Zgd (x y : D) : eqDs (x :: xs) (y :: ys) = (eqD x y && eqDs xs ys) := by simp only [eqDs]
theorem Zge : boolR (.bl b) = .ok b := id rfl
theorem Zgf : intD (.int i) = .ok i := id rfl
theorem Zcs {xs : List D} : lstD (.lst xs) = .ok xs := id rfl
theorem Zgg : truR (.bl b) = .ok b := id rfl
theorem Zgh : truR (.int i) = .ok (i != 0) := id rfl
theorem Zgi : addI (.int i) (.int j) = .ok (.int (i + j)) := id rfl
theorem Zgj : isTy (.int i) .bool = false := id rfl
theorem Zgk : isTy (.int i) .int = true := id rfl
theorem Zgl : isTy (.bl b) .bool = true := id rfl
theorem Zgm : isTy (.bl b) .int = true := id rfl
theorem Zgn : isTy (.tup xs) .tuple = true := id rfl
theorem Zgo : isTy (.str s) .str = true := id rfl
theorem Zgp : isTy (.lst xs) .list = true := id rfl
theorem Zgq : itemsR (.lst xs) = .ok xs := id rfl
theorem Zgr : itemsR (.tup xs) = .ok xs := id rfl
theorem Zgs : itemsR (.str s) = .ok (s.map fun c => .str [c]) := id rfl
theorem Zgt : bltR .len [.str s] = .ok (.int s.length) := id rfl
theorem Zgu : bltR .len [.tup xs] = .ok (.int xs.length) := id rfl
theorem Zgv : bltR .len [.lst xs] = .ok (.int xs.length) := id rfl
theorem Zgw : bltR .tuple [.lst xs] = .ok (.tup xs) := id rfl
theorem Zgx : bltR .tuple [.tup xs] = .ok (.tup xs) := id rfl
theorem Zgy : bltR .list [.lst xs] = .ok (.lst xs) := id rfl
theorem Zgz : bltR .list [.tup xs] = .ok (.lst xs) := id rfl
theorem Zha : bltR .int [.int i] = .ok (.int i) := id rfl
theorem Zhb : bltR .int [.bl b] = .ok (.int (if b then 1 else 0)) := id rfl
theorem Zhc : bltR .max2 [.int i, .int j] = .ok (.int (if j > i then j else i)) := id rfl
theorem Zhd : bltR .min2 [.int i, .int j] = .ok (.int (if j < i then j else i)) := id rfl
theorem Zhe : idxR (.lst xs) (.int i) = ofOpt (atP xs i) := id rfl
theorem Zhf : idxR (.tup xs) (.int i) = ofOpt (atP xs i) := id rfl
theorem Zhg : idxR (.str s) (.int i) = (ofOpt (atP s i)).bind fun c => .ok (.str [c]) := id rfl
theorem Zhh {α : Type} (a : α) : ofOpt (some a) = .ok a := id rfl
theorem Zhi (lo hi : Option Int) : slcR (.lst xs) lo hi = .ok (.lst (cutP xs lo hi)) := id rfl
theorem Zhj (lo hi : Option Int) : slcR (.tup xs) lo hi = .ok (.tup (cutP xs lo hi)) := id rfl
theorem Zhk (lo hi : Option Int) : slcR (.str s) lo hi = .ok (.str (cutP s lo hi)) := id rfl
end
theorem SZ_val : SZ = 16777216 := rfl
theorem le_SZ {n : Nat} (h : n ≤ 1000000) : n ≤ SZ := by rw [SZ_val]; omega
theorem lt_SZ {n : Nat} (h : n < 1000000) : n < SZ := by rw [SZ_val]; omega
theorem atP_nat {α : Type} {xs : List α} {i : Int} {n : Nat} {a : α} (hi : i = n) (h : xs[n]? = some a) : atP xs i = some a := by
  subst hi
  have hn : n < xs.length := (List.getElem?_eq_some_iff.mp h).1
  unfold atP ixP
  rw [if_pos (by omega), if_pos (by omega)]
  simpa using h
theorem cut_from {α : Type} (xs : List α) (n : Nat) : cutP xs (some (n : Int)) none = xs.drop n := by
  unfold cutP bndP
  simp only
  rw [if_neg (by omega), Int.toNat_natCast]
  by_cases h : n ≤ xs.length
  · rw [Nat.min_eq_left h, List.take_of_length_le (by simp)]
  · rw [Nat.min_eq_right (by omega), List.drop_length, List.drop_of_length_le (by omega)]
    simp
/-- a comprehension whose items never fail -/
theorem compL_ok {f : D → Res (Option D)} {xs : List D} (g : D → Option D) (h : ∀ x ∈ xs, f x = .ok (g x)) : compL f xs = .ok (xs.filterMap g) := by
  induction xs with
  | nil => rfl
  | cons x xs ih =>
    simp only [compL, h x (by simp), Res.bind_ok, ih fun y hy => h y (List.mem_cons_of_mem _ hy)]
    cases hg : g x with
    | none => simp [List.filterMap_cons, hg]
    | some y => simp [List.filterMap_cons, hg]
theorem compL_map {f : D → Res (Option D)} {xs : List D} (g : D → D) (h : ∀ x ∈ xs, f x = .ok (some (g x))) : compL f xs = .ok (xs.map g) := by
  rw [compL_ok (fun x => some (g x)) h, List.filterMap_eq_map']
theorem Zdx {α : Type} (a : α) : quiet (.ok a) = .ok a := id rfl
theorem bits_le {i : Int} {n : Nat} (h : i.natAbs < 2 ^ n) : bitsI i ≤ n := by
  unfold bitsI
  by_cases z : i = 0
  · rw [if_pos z]; exact Nat.zero_le _
  · rw [if_neg z]
    have hz : i.natAbs ≠ 0 := by omega
    have := (Nat.log2_lt hz).mpr h
    omega
theorem bits_lt_ {i : Int} : i.natAbs < 2 ^ bitsI i := by
  unfold bitsI
  by_cases z : i = 0
  · rw [if_pos z, z]; decide
  · rw [if_neg z]
    have hz : i.natAbs ≠ 0 := by omega
    exact (Nat.log2_lt hz).mp (Nat.lt_succ_self _)
/-- at most n bits -/
theorem bits_abs {i : Int} {n : Nat} (h : bitsI i ≤ n) : i.natAbs < 2 ^ n := Nat.lt_of_lt_of_le bits_lt_ (Nat.pow_le_pow_right (by decide) h)
/-- how deep at most, found by instances -/
class Dp (d : D) (n : outParam Nat) : Prop where
  le : dep d ≤ n
class Dps (d : List D) (n : outParam Nat) : Prop where
  le : deps d ≤ n
instance : Dp .non 0 := ⟨Nat.le_refl _⟩
instance {b : Bool} : Dp (.bl b) 0 := ⟨Nat.le_refl _⟩
instance {i : Int} : Dp (.int i) 0 := ⟨Nat.le_refl _⟩
instance {s : List Nat} : Dp (.str s) 0 := ⟨Nat.le_refl _⟩
instance {xs : List D} {n : Nat} [h : Dps xs n] : Dp (.tup xs) (n + 1) := ⟨by have := h.le; simp only [dep]; omega⟩
instance {xs : List D} {n : Nat} [h : Dps xs n] : Dp (.lst xs) (n + 1) := ⟨by have := h.le; simp only [dep]; omega⟩
instance : Dps [] 0 := ⟨by simp only [deps]; exact Nat.le_refl _⟩
instance {x : D} {xs : List D} {m n : Nat} [a : Dp x m] [h : Dps xs n] : Dps (x :: xs) (m + n) := ⟨by have := h.le; have := a.le; simp only [deps]; omega⟩
theorem deps_all {xs : List D} {n : Nat} (h : ∀ x ∈ xs, dep x ≤ n) : deps xs ≤ n := by
  induction xs with
  | nil => simp only [deps]; exact Nat.zero_le _
  | cons x xs ih =>
    have h1 := h x (by simp)
    have h2 := ih fun y hy => h y (List.mem_cons_of_mem _ hy)
    simp only [deps]
    omega
instance {α : Type} {f : α → D} {xs : List α} {n : Nat} [h : ∀ x, Dp (f x) n] : Dps (xs.map f) n := ⟨deps_all fun x hx => by
  obtain ⟨y, _, e⟩ := List.mem_map.mp hx
  rw [← e]
  exact (h y).le⟩
theorem Zfs (d : D) {n : Nat} [a : Dp d n] (h : n ≤ 64) : cmpB d = true := decide_eq_true (Nat.le_trans a.le h)
class Fact' (p : Prop) : Prop where
  out : p
/-- a whole number below 2 ^ n in size, n found by instances -/
class Bd (i : Int) (n : outParam Nat) : Prop where
  lt : i.natAbs < 2 ^ n
theorem pow2_add (m n : Nat) : 2 ^ m + 2 ^ n ≤ 2 ^ (m + n + 1) := by
  have h1 : 2 ^ m ≤ 2 ^ (m + n) := Nat.pow_le_pow_right (by decide) (Nat.le_add_right _ _)
  have h2 : 2 ^ n ≤ 2 ^ (m + n) := Nat.pow_le_pow_right (by decide) (Nat.le_add_left _ _)
  rw [Nat.pow_succ]
  omega
instance bd_add {i j : Int} {m n : Nat} [a : Bd i m] [b : Bd j n] : Bd (i + j) (m + n + 1) := ⟨by
  have := pow2_add m n
  have := a.lt
  have := b.lt
  omega⟩
instance bd_sub {i j : Int} {m n : Nat} [a : Bd i m] [b : Bd j n] : Bd (i - j) (m + n + 1) := ⟨by
  have := pow2_add m n
  have := a.lt
  have := b.lt
  omega⟩
instance bd_neg {i : Int} {m : Nat} [a : Bd i m] : Bd (-i) m := ⟨by
  have := a.lt
  omega⟩
instance bd_mul {i j : Int} {m n : Nat} [a : Bd i m] [b : Bd j n] : Bd (i * j) (m + n) := ⟨by
  rw [Int.natAbs_mul, Nat.pow_add]
  exact Nat.mul_lt_mul'' a.lt b.lt⟩
instance bd_div {i j : Int} {m : Nat} [a : Bd i m] : Bd (i / j) (m + 1) := ⟨by
  have := a.lt
  have h := Int.natAbs_ediv_le_natAbs i j
  rw [Nat.pow_succ]
  omega⟩
instance bd_mod {i j : Int} {n : Nat} [b : Bd j n] [h : Fact' (0 < j)] : Bd (i % j) n := ⟨by
  have := b.lt
  have h := h.out
  have h1 := Int.emod_nonneg i (Int.ne_of_gt h)
  have h2 := Int.emod_lt_of_pos i h
  omega⟩
instance : Bd (0 : Int) 0 := ⟨by decide⟩
instance : Bd (1 : Int) 1 := ⟨by decide⟩
instance : Bd (2 : Int) 2 := ⟨by decide⟩
instance : Bd (3 : Int) 2 := ⟨by decide⟩
instance : Bd (4 : Int) 3 := ⟨by decide⟩
instance : Bd (5 : Int) 3 := ⟨by decide⟩
instance : Bd (6 : Int) 3 := ⟨by decide⟩
instance : Bd (7 : Int) 3 := ⟨by decide⟩
instance : Bd (8 : Int) 4 := ⟨by decide⟩
instance : Bd (9 : Int) 4 := ⟨by decide⟩
instance : Bd (10 : Int) 4 := ⟨by decide⟩
instance : Bd (11 : Int) 4 := ⟨by decide⟩
instance : Bd (12 : Int) 4 := ⟨by decide⟩
instance : Bd (13 : Int) 4 := ⟨by decide⟩
instance : Bd (14 : Int) 4 := ⟨by decide⟩
instance : Bd (15 : Int) 4 := ⟨by decide⟩
instance : Bd (16 : Int) 5 := ⟨by decide⟩
instance : Bd (17 : Int) 5 := ⟨by decide⟩
instance : Bd (20 : Int) 5 := ⟨by decide⟩
instance : Bd (21 : Int) 5 := ⟨by decide⟩
instance : Bd (22 : Int) 5 := ⟨by decide⟩
instance : Bd (23 : Int) 5 := ⟨by decide⟩
instance : Bd (24 : Int) 5 := ⟨by decide⟩
instance : Bd (25 : Int) 5 := ⟨by decide⟩
instance : Bd (26 : Int) 5 := ⟨by decide⟩
instance : Bd (27 : Int) 5 := ⟨by decide⟩
instance : Bd (28 : Int) 5 := ⟨by decide⟩
instance : Bd (29 : Int) 5 := ⟨by decide⟩
instance : Bd (30 : Int) 5 := ⟨by decide⟩
instance : Bd (31 : Int) 5 := ⟨by decide⟩
instance : Bd (32 : Int) 6 := ⟨by decide⟩
instance : Bd (33 : Int) 6 := ⟨by decide⟩
instance : Bd (34 : Int) 6 := ⟨by decide⟩
instance : Bd (35 : Int) 6 := ⟨by decide⟩
instance : Bd (36 : Int) 6 := ⟨by decide⟩
instance : Bd (37 : Int) 6 := ⟨by decide⟩
instance : Bd (39 : Int) 6 := ⟨by decide⟩
instance : Bd (40 : Int) 6 := ⟨by decide⟩
instance : Bd (41 : Int) 6 := ⟨by decide⟩
instance : Bd (42 : Int) 6 := ⟨by decide⟩
instance : Bd (45 : Int) 6 := ⟨by decide⟩
instance : Bd (48 : Int) 6 := ⟨by decide⟩
instance : Bd (49 : Int) 6 := ⟨by decide⟩
instance : Bd (50 : Int) 6 := ⟨by decide⟩
instance : Bd (55 : Int) 6 := ⟨by decide⟩
instance : Bd (59 : Int) 6 := ⟨by decide⟩
instance : Bd (60 : Int) 6 := ⟨by decide⟩
instance : Bd (62 : Int) 6 := ⟨by decide⟩
instance : Bd (63 : Int) 6 := ⟨by decide⟩
instance : Bd (64 : Int) 7 := ⟨by decide⟩
instance : Bd (67 : Int) 7 := ⟨by decide⟩
instance : Bd (70 : Int) 7 := ⟨by decide⟩
instance : Bd (71 : Int) 7 := ⟨by decide⟩
instance : Bd (72 : Int) 7 := ⟨by decide⟩
instance : Bd (73 : Int) 7 := ⟨by decide⟩
instance : Bd (74 : Int) 7 := ⟨by decide⟩
instance : Bd (80 : Int) 7 := ⟨by decide⟩
instance : Bd (83 : Int) 7 := ⟨by decide⟩
instance : Bd (90 : Int) 7 := ⟨by decide⟩
instance : Bd (96 : Int) 7 := ⟨by decide⟩
instance : Bd (99 : Int) 7 := ⟨by decide⟩
instance : Bd (100 : Int) 7 := ⟨by decide⟩
instance : Bd (102 : Int) 7 := ⟨by decide⟩
instance : Bd (110 : Int) 7 := ⟨by decide⟩
instance : Bd (111 : Int) 7 := ⟨by decide⟩
instance : Bd (120 : Int) 7 := ⟨by decide⟩
instance : Bd (144 : Int) 8 := ⟨by decide⟩
instance : Bd (147 : Int) 8 := ⟨by decide⟩
instance : Bd (150 : Int) 8 := ⟨by decide⟩
instance : Bd (192 : Int) 8 := ⟨by decide⟩
instance : Bd (200 : Int) 8 := ⟨by decide⟩
instance : Bd (240 : Int) 8 := ⟨by decide⟩
instance : Bd (250 : Int) 8 := ⟨by decide⟩
instance : Bd (256 : Int) 9 := ⟨by decide⟩
instance : Bd (300 : Int) 9 := ⟨by decide⟩
instance : Bd (320 : Int) 9 := ⟨by decide⟩
instance : Bd (360 : Int) 9 := ⟨by decide⟩
instance : Bd (400 : Int) 9 := ⟨by decide⟩
instance : Bd (768 : Int) 10 := ⟨by decide⟩
instance : Bd (972 : Int) 10 := ⟨by decide⟩
instance : Bd (1000 : Int) 10 := ⟨by decide⟩
instance : Bd (2000 : Int) 11 := ⟨by decide⟩
instance : Bd (2048 : Int) 12 := ⟨by decide⟩
instance : Bd (2600 : Int) 12 := ⟨by decide⟩
instance : Bd (3072 : Int) 12 := ⟨by decide⟩
instance : Bd (3744 : Int) 12 := ⟨by decide⟩
instance : Bd (4096 : Int) 13 := ⟨by decide⟩
instance : Bd (5000 : Int) 13 := ⟨by decide⟩
instance : Bd (6804 : Int) 13 := ⟨by decide⟩
instance : Bd (7919 : Int) 13 := ⟨by decide⟩
instance : Bd (8192 : Int) 14 := ⟨by decide⟩
instance : Bd (9216 : Int) 14 := ⟨by decide⟩
instance : Bd (16807 : Int) 15 := ⟨by decide⟩
instance : Bd (27648 : Int) 15 := ⟨by decide⟩
instance : Bd (39373 : Int) 16 := ⟨by decide⟩
instance : Bd (48271 : Int) 16 := ⟨by decide⟩
instance : Bd (67600 : Int) 17 := ⟨by decide⟩
instance : Bd (69621 : Int) 17 := ⟨by decide⟩
instance : Bd (82944 : Int) 17 := ⟨by decide⟩
instance : Bd (93600 : Int) 17 := ⟨by decide⟩
instance : Bd (248832 : Int) 18 := ⟨by decide⟩
instance : Bd (870912 : Int) 20 := ⟨by decide⟩
instance : Bd (1000003 : Int) 20 := ⟨by decide⟩
instance : Bd (2000006 : Int) 21 := ⟨by decide⟩
instance : Bd (16111872 : Int) 24 := ⟨by decide⟩
instance : Bd (998244353 : Int) 30 := ⟨by decide⟩
instance : Bd (2147483587 : Int) 31 := ⟨by decide⟩
instance : Bd (2147483629 : Int) 31 := ⟨by decide⟩
instance : Bd (2147483646 : Int) 31 := ⟨by decide⟩
instance : Bd (2147483647 : Int) 31 := ⟨by decide⟩
instance {c : Prop} [Decidable c] : Bd (if c then (1 : Int) else 0) 1 := ⟨by split <;> decide⟩
instance : Bd (122470950010456506152021579891552879 : Int) 120 := ⟨by decide⟩
theorem Bd.bits {i : Int} {n : Nat} (b : Bd i n) : bitsI i ≤ n := bits_le b.lt
theorem Bd.of {i : Int} {n : Nat} (h : bitsI i ≤ n) : Bd i n := ⟨bits_abs h⟩
theorem Zez (i j : Int) {m n : Nat} [a : Bd i m] [b : Bd j n] (h : m + n ≤ 134217728) : binR .mul (.int i) (.int j) = .ok (.int (i * j)) := by
  rw [b_mul, if_pos (by have := a.bits; have := b.bits; omega)]
theorem Zfa (i j : Int) (h : 0 < j) (h2 : j < 1267650600228229401496703205376) : binR .fdiv (.int i) (.int j) = .ok (.int (i / j)) := by
  rw [b_fdiv, if_pos ⟨h, Nat.le_trans (bits_le (n := 100) (by omega)) (by decide)⟩]
theorem Zfc (i j : Int) (h0 : 0 ≤ j) (h1 : j ≤ 1000000) (h2 : 0 ≤ i) (h3 : i < 1152921504606846976) : binR .pow (.int i) (.int j) = .ok (.int (i ^ j.toNat)) := by
  rw [b_pow, if_pos ⟨h0, h1, Nat.le_trans (bits_le (n := 60) (by omega)) (by decide)⟩]
theorem Zfb (i j : Int) (h : 0 < j) : binR .mod (.int i) (.int j) = .ok (.int (i % j)) := by
  rw [b_mod, if_pos h]
end Ps
end
section
set_option maxHeartbeats 4000000
/-! PsL2: expressions, rule by rule. -/
namespace Ps
section
variable {Φ : FEnv} {ρ : Rho} {Q : Post}
def tupR (xs : List D) : Res D := if xs.length ≤ SZ then .ok (.tup xs) else .stuck
def lstR (xs : List D) : Res D := if xs.length ≤ SZ then .ok (.lst xs) else .stuck
def isNR (n : Bool) : D → Res D
  | .non => .ok (.bl (!n))
  | _ => .ok (.bl n)
/-- a key that a lambda tells -/
def kFun (Φ : FEnv) (f : String) (x : D) : Res D := Φ f [x]
def kItem (Φ : FEnv) (b : CE) (i : Nat) (ρ : Rho) (x : D) : Res D := ev Φ b (ρ.set i (some x))
def cItem (Φ : FEnv) (elt : CE) (t : Tg) (cd : CL) (ρ : Rho) (x : D) : Res (Option D) :=
  match bindT ρ t x with
  | none => .stuck
  | some ρ' => (evc Φ cd ρ').bind fun k => bif k then (ev Φ elt ρ').bind fun y => .ok (some y) else .ok none
theorem Zbx (i : Nat) : ev Φ (.var i) ρ = getv ρ i := by simp only [ev]
theorem Zby (d : D) : ev Φ (.cst d) ρ = .ok d := by simp only [ev]
theorem Zbz (o : BO) (a b : CE) : ev Φ (.bin o a b) ρ = (ev Φ a ρ).bind fun x => (ev Φ b ρ).bind fun y => binR o x y := by simp only [ev]
theorem Zca (a : CE) : ev Φ (.neg a) ρ = (ev Φ a ρ).bind fun x => (intD x).bind fun i => .ok (.int (-i)) := by simp only [ev]
theorem Zcb (n : Bool) (a : CE) : ev Φ (.isN n a) ρ = (ev Φ a ρ).bind (isNR n) := by
  simp only [ev]
  congr 1
theorem Zcc (p q : BO) (a b c : CE) : ev Φ (.chain p q a b c) ρ = (ev Φ a ρ).bind fun x => (ev Φ b ρ).bind fun y => (binR p x y).bind fun r => (boolR r).bind fun k =>
    bif k then (ev Φ c ρ).bind fun z => (binR q y z).bind fun r' => (boolR r').bind fun k' => .ok (.bl k') else .ok (.bl false) := by
  simp only [ev]
  rfl
theorem Zcd (n : Bool) (a l h : CE) : ev Φ (.inr n a l h) ρ = (ev Φ a ρ).bind fun x => (ev Φ l ρ).bind fun y => (ev Φ h ρ).bind fun z => inrR n x y z := by simp only [ev]
theorem Zce (n : Bool) (i l h : Int) : inrR n (.int i) (.int l) (.int h) = .ok (.bl (n != decide (l ≤ i ∧ i < h))) := id rfl
theorem Zcf (a b : Bool) : binR .is_ (.bl a) (.bl b) = .ok (.bl (a == b)) := id rfl
theorem Zcg (a b : Bool) : binR .isn (.bl a) (.bl b) = .ok (.bl (!(a == b))) := id rfl
theorem Zch (a b : CE) : ev Φ (.and a b) ρ = (ev Φ a ρ).bind fun x => (boolR x).bind fun k => bif k then ev Φ b ρ else .ok (.bl false) := by
  simp only [ev]
  rfl
theorem Zci (a b : CE) : ev Φ (.or a b) ρ = (ev Φ a ρ).bind fun x => (boolR x).bind fun k => bif k then .ok (.bl true) else ev Φ b ρ := by
  simp only [ev]
  rfl
theorem Zcj (a : CE) : ev Φ (.not a) ρ = (ev Φ a ρ).bind fun x => (boolR x).bind fun k => .ok (.bl (!k)) := by simp only [ev]
theorem Zck (c a b : CE) : ev Φ (.ite c a b) ρ = (ev Φ c ρ).bind fun x => (truR x).bind fun k => bif k then ev Φ a ρ else ev Φ b ρ := by
  simp only [ev]
  rfl
theorem Zcl (es : CL) : ev Φ (.tup es) ρ = (evs Φ es ρ).bind tupR := by simp only [ev]; rfl
theorem Zcm (es : CL) : ev Φ (.lst es) ρ = (evs Φ es ρ).bind lstR := by simp only [ev]; rfl
theorem Zcn (a i : CE) : ev Φ (.ix a i) ρ = (ev Φ a ρ).bind fun x => (ev Φ i ρ).bind fun y => idxR x y := by simp only [ev]
theorem Zco (a : CE) (l h : CO) : ev Φ (.slc a l h) ρ = (ev Φ a ρ).bind fun x => (evo Φ l ρ).bind fun p => (evo Φ h ρ).bind fun q => slcR x p q := by simp only [ev]
def repX (y : Res D) (xs : List D) : Res D := if xs.length ≤ SZ then y.bind fun y => repR xs y else .stuck
theorem Zcp (es : CL) (b : CE) : ev Φ (.rep es b) ρ = (evs Φ es ρ).bind (repX (ev Φ b ρ)) := by simp only [ev]; rfl
theorem Zcq (y : Res D) (a : D) : repX y [a] = y.bind fun y => repR [a] y := id rfl
theorem Zcr : ev Φ .dnew ρ = .ok (.dic []) := by simp only [ev]
theorem Zct (a : CE) : ev Φ (.rev a) ρ = (ev Φ a ρ).bind revR := by simp only [ev]
theorem Zcu (xs : List D) : revR (.tup xs) = .ok (.tup xs.reverse) := id rfl
theorem Zcv (xs : List D) : revR (.lst xs) = .ok (.lst xs.reverse) := id rfl
theorem Zcw (xs : List Nat) : revR (.str xs) = .ok (.str xs.reverse) := id rfl
theorem Zcx (a : CE) : ev Φ (.sset a) ρ = (ev Φ a ρ).bind ssetR := by simp only [ev]
theorem Zda (s : List Nat) (c : Nat) : smR .count s (.str [c]) = .ok (.int (s.count c : Nat)) := id rfl
theorem Zdb (f : String) (es : CL) : ev Φ (.call f es) ρ = (evs Φ es ρ).bind fun xs => Φ f xs := by simp only [ev]
theorem Zdc (f : BF) (es : CL) : ev Φ (.blt f es) ρ = (evs Φ es ρ).bind fun xs => bltR f xs := by simp only [ev]
def smX (y : Res D) : D → Res D
  | .str s => y.bind fun y => smR .count s y
  | _ => .stuck
theorem Zcy (o a : CE) : ev Φ (.sm1 .count o a) ρ = (ev Φ o ρ).bind (smX (ev Φ a ρ)) := by
  simp only [ev]
  congr 1
theorem Zcz (y : Res D) (s : List Nat) : smX y (.str s) = y.bind fun y => smR .count s y := id rfl
theorem Zdd (a : CE) (t : Ty) : ev Φ (.isi a t) ρ = (ev Φ a ρ).bind fun x => .ok (.bl (isTy x t)) := by simp only [ev]
theorem Zde (elt : CE) (t : Tg) (it : CI) (cd : CL) (own : List Nat) : ev Φ (.comp elt t it cd own) ρ = (evi Φ it ρ).bind fun xs => (quiet (compL (cItem Φ elt t cd (wipeE ρ own)) xs)).bind lstR := by
  simp only [ev]
  rfl
theorem Zdj : evs Φ .nil ρ = .ok [] := by simp only [evs]
theorem Zdk (e : CE) (es : CL) : evs Φ (.cons e es) ρ = (ev Φ e ρ).bind fun x => (evs Φ es ρ).bind fun xs => .ok (x :: xs) := by simp only [evs]
theorem Zdl : evc Φ .nil ρ = .ok true := by simp only [evc]
theorem Zdm (e : CE) : evc Φ (.cons e .nil) ρ = (ev Φ e ρ).bind truR := by simp only [evc]
theorem Zdn : evo Φ .no ρ = .ok none := by simp only [evo]
theorem Zdo (e : CE) : evo Φ (.yes e) ρ = (ev Φ e ρ).bind fun x => (intD x).bind fun i => .ok (some i) := by simp only [evo]
theorem Zdp (e : CE) : evi Φ (.seq e) ρ = (ev Φ e ρ).bind itemsR := by simp only [evi]
theorem Zdq (a : CE) : evi Φ (.rng1 a) ρ = (ev Φ a ρ).bind fun x => (intD x).bind fun j => rngR 0 j := by simp only [evi]
theorem Zdr (a b : CE) : evi Φ (.rng2 a b) ρ = (ev Φ a ρ).bind fun x => (ev Φ b ρ).bind fun y => (intD x).bind fun i => (intD y).bind fun j => rngR2 i j := by simp only [evi]
theorem Zds (a b : CE) : evi Φ (.rng3 a b) ρ = (ev Φ a ρ).bind fun x => (ev Φ b ρ).bind fun y => (intD x).bind fun i => (intD y).bind fun j => rngR3 i j := by simp only [evi]
theorem Zdt (a : CE) : evi Φ (.enu a) ρ = (ev Φ a ρ).bind fun x => (itemsR x).bind fun xs => .ok (xs.zipIdx.map fun p => .tup [.int (p.2 : Int), p.1]) := by simp only [evi]
theorem Zdu (a b : CE) : evi Φ (.zip a b) ρ = (ev Φ a ρ).bind fun x => (ev Φ b ρ).bind fun y => zipR x y := by simp only [evi]
theorem Zdv (a b c : CE) : evi Φ (.zip3 a b c) ρ = (ev Φ a ρ).bind fun x => (ev Φ b ρ).bind fun y => (ev Φ c ρ).bind fun z => zip3R x y z := by simp only [evi]
theorem Zdy : tupR [] = .ok (.tup []) := id rfl
theorem Zdz (a : D) : tupR [a] = .ok (.tup [a]) := id rfl
theorem Zea (a b : D) : tupR [a, b] = .ok (.tup [a, b]) := id rfl
theorem Zeb (a b c : D) : tupR [a, b, c] = .ok (.tup [a, b, c]) := id rfl
theorem Zec (a b c d e f g h : D) : tupR [a, b, c, d, e, f, g, h] = .ok (.tup [a, b, c, d, e, f, g, h]) := id rfl
theorem lstR_le {xs : List D} (h : xs.length ≤ SZ) : lstR xs = .ok (.lst xs) := by unfold lstR; rw [if_pos h]
theorem Zed : lstR [] = .ok (.lst []) := id rfl
theorem Zee (a : D) : lstR [a] = .ok (.lst [a]) := id rfl
theorem Zef (a b : D) : lstR [a, b] = .ok (.lst [a, b]) := id rfl
theorem Zeg (a b c : D) : lstR [a, b, c] = .ok (.lst [a, b, c]) := id rfl
theorem Zeh (a b c d : D) : lstR [a, b, c, d] = .ok (.lst [a, b, c, d]) := id rfl
theorem Zei (a b c d e : D) : lstR [a, b, c, d, e] = .ok (.lst [a, b, c, d, e]) := id rfl
theorem Zej (a b c d e f : D) : lstR [a, b, c, d, e, f] = .ok (.lst [a, b, c, d, e, f]) := id rfl
theorem Zek (a b c d e f g h : D) : lstR [a, b, c, d, e, f, g, h] = .ok (.lst [a, b, c, d, e, f, g, h]) := id rfl
theorem Zel (n : Bool) : isNR n .non = .ok (.bl (!n)) := id rfl
theorem Zem (n : Bool) (xs : List D) : isNR n (.tup xs) = .ok (.bl n) := id rfl
theorem Zen (n : Bool) (i : Int) : isNR n (.int i) = .ok (.bl n) := id rfl
theorem Zeo (n : Bool) (i : List Nat) : isNR n (.str i) = .ok (.bl n) := id rfl
theorem Zep (n : Bool) (i : List D) : isNR n (.lst i) = .ok (.bl n) := id rfl
theorem Zeq (n : Bool) (i : Bool) : isNR n (.bl i) = .ok (.bl n) := id rfl
theorem Zer {α : Type} (a b : α) : (bif true then a else b) = a := id rfl
theorem Zes {α : Type} (a b : α) : (bif false then a else b) = b := id rfl
theorem Zet {α : Type} (k : Bool) (a b : α) : (bif k then Res.ok a else Res.ok b) = .ok (bif k then a else b) := by cases k <;> rfl
theorem Zeu (k a b : Bool) : (bif k then D.bl a else D.bl b) = .bl (bif k then a else b) := by cases k <;> rfl
theorem Zev (k a : Bool) : (bif k then a else false) = (k && a) := by cases k <;> rfl
theorem Zew (k a : Bool) : (bif k then true else a) = (k || a) := by cases k <;> rfl
theorem rng_ok1 {i j : Int} (h : -(2 ^ 62) ≤ i ∧ i < 2 ^ 62 ∧ -(2 ^ 62) ≤ j ∧ j < 2 ^ 62) : rngR i j = .ok ((List.range (j - i).toNat).map fun (n : Nat) => .int (i + (n : Int))) := by unfold rngR; rw [if_pos h]
theorem rng_nat {n : Nat} (h : n < 4611686018427387904) : rngR 0 (n : Int) = .ok ((List.range n).map fun (k : Nat) => .int (k : Int)) := by
  rw [rng_ok1 (by omega)]
  have e : ((n : Int) - 0).toNat = n := by omega
  rw [e]
  congr 1
  apply List.map_congr_left
  intro k _
  rw [Int.zero_add]
theorem Zdw {j : Int} (h0 : 0 ≤ j) (h : j < 4611686018427387904) : rngR 0 j = .ok ((List.range j.toNat).map fun (k : Nat) => .int (k : Int)) := by
  have e : j = ((j.toNat : Nat) : Int) := by omega
  rw [e, rng_nat (by omega), Int.toNat_natCast]
theorem compF {α : Type} {f : D → Res (Option D)} {g : α → D} {ys : List α} (k : α → Option D) (h : ∀ y ∈ ys, f (g y) = .ok (k y)) : compL f (ys.map g) = .ok (ys.filterMap k) := by
  induction ys with
  | nil => rfl
  | cons y ys ih =>
    simp only [List.map_cons, compL, h y (by simp), Res.bind_ok, ih fun z hz => h z (List.mem_cons_of_mem _ hz)]
    cases hk : k y with
    | none => simp [hk]
    | some z => simp [hk]
theorem Zdf (a b : CE) (i : Nat) : ev Φ (.minK a i b) ρ = (ev Φ a ρ).bind fun x => (lstD x).bind fun xs => (quiet (keysL (kItem Φ b i ρ) xs)).bind (pickK xs) := by simp only [ev]; rfl
theorem Zdg (a : CE) (f : String) : ev Φ (.minF a f) ρ = (ev Φ a ρ).bind fun x => (lstD x).bind fun xs => (quiet (datL (kFun Φ f) xs)).bind (pickD xs) := by simp only [ev]; rfl
theorem Zdh (f : String) (x : D) : kFun Φ f x = Φ f [x] := id rfl
theorem Zdi (b : CE) (i : Nat) (x : D) : kItem Φ b i ρ x = ev Φ b (ρ.set i (some x)) := id rfl
theorem Zbn (elt : CE) (i : Nat) (cd : CL) (x : D) : cItem Φ elt (.nm i) cd ρ x = (evc Φ cd (ρ.set i (some x))).bind fun k => bif k then (ev Φ elt (ρ.set i (some x))).bind fun y => .ok (some y) else .ok none := id rfl
theorem Zbo (elt : CE) (i j : Nat) (cd : CL) (x y : D) : cItem Φ elt (.tp [i, j]) cd ρ (.tup [x, y]) = (evc Φ cd ((ρ.set i (some x)).set j (some y))).bind fun k => bif k then (ev Φ elt ((ρ.set i (some x)).set j (some y))).bind fun y => .ok (some y) else .ok none := id rfl
theorem Zbp (elt : CE) (i j k : Nat) (cd : CL) (x y z : D) : cItem Φ elt (.tp [i, j, k]) cd ρ (.tup [x, y, z]) = (evc Φ cd (((ρ.set i (some x)).set j (some y)).set k (some z))).bind fun q => bif q then (ev Φ elt (((ρ.set i (some x)).set j (some y)).set k (some z))).bind fun y => .ok (some y) else .ok none := id rfl
theorem Zbq : wipeE ρ [] = ρ := id rfl
theorem Zbr (v : Nat) (vs : List Nat) : wipeE ρ (v :: vs) = (wipeE ρ vs).set v none := id rfl
end
end Ps
end
section
set_option maxHeartbeats 4000000
/-! PsLX: rules for refusals: defs that raise, try, suites. -/
namespace Ps
/-- a def that raises -/
def QX (T : String → List D → Prop) : Post := ⟨fun _ => False, fun _ _ => False, fun _ => False, fun _ => False, fun c ps _ => T c ps⟩
theorem Zkj (T : String → List D → Prop) (c : String) (ps : List D) (ρ : Rho) : (QX T).xc c ps ρ = T c ps := id rfl
theorem Zkk (T : String → List D → Prop) (ρ : Rho) : (QX T).nx ρ = False := id rfl
theorem Zkl (T : String → List D → Prop) (d : D) (ρ : Rho) : (QX T).rt d ρ = False := id rfl
/-- a def that may raise or not -/
def QE (T : D → Prop) (X : String → List D → Prop) : Post := ⟨fun _ => T .non, fun d _ => T d, fun _ => False, fun _ => False, fun c ps _ => X c ps⟩
theorem Zkm (T : D → Prop) (X : String → List D → Prop) (c : String) (ps : List D) (ρ : Rho) : (QE T X).xc c ps ρ = X c ps := id rfl
theorem Zkn (T : D → Prop) (X : String → List D → Prop) (ρ : Rho) : (QE T X).nx ρ = T .non := id rfl
theorem Zko (T : D → Prop) (X : String → List D → Prop) (d : D) (ρ : Rho) : (QE T X).rt d ρ = T d := id rfl
/-- the clauses, one behind the other -/
structure HK (Φ : FEnv) (hs : List (String × Option Nat × List XS)) (c : String) (ps : List D) (ks : List CS) (ρ : Rho) (Q : Post) : Prop where
  run : (match hs.find? (fun h : String × Option Nat × List XS => subX c h.1) with | some h => offO h.2.1 (xx Φ c ((xflds c).zip ps) h.2.2 (offX ρ h.2.1)) | none => .exc c ps ρ).sat { Q with nx := fun ρ' => NX Φ ks ρ' Q }
/-- a suite -/
structure XK (Φ : FEnv) (c : String) (fs : List (String × D)) (b : List XS) (i : Option Nat) (ks : List CS) (ρ : Rho) (Q : Post) : Prop where
  run : (offO i (xx Φ c fs b ρ)).sat { Q with nx := fun ρ' => NX Φ ks ρ' Q }
/-- what a suite's statement computes: stored -/
structure YK (Φ : FEnv) (r : Res D) (j : Nat) (c : String) (fs : List (String × D)) (b : List XS) (i : Option Nat) (ks : List CS) (ρ : Rho) (Q : Post) : Prop where
  run : (offO i ((quiet r).out ρ fun d => xx Φ c fs b (ρ.set j (some d)))).sat { Q with nx := fun ρ' => NX Φ ks ρ' Q }
/-- .. given back -/
structure ZK (r : Res D) (ρ : Rho) (Q : Post) : Prop where
  run : ((quiet r).out ρ fun d => .rt d ρ).sat Q
structure VK_ (Φ : FEnv) (r : Res Bool) (e : XE) (c : String) (fs : List (String × D)) (b : List XS) (i : Option Nat) (ks : List CS) (ρ : Rho) (Q : Post) : Prop where
  run : (offO i ((quiet r).out ρ fun k => match k with | true => (quiet (xv Φ c fs e ρ)).out ρ fun d => .rt d ρ | false => xx Φ c fs b ρ)).sat { Q with nx := fun ρ' => NX Φ ks ρ' Q }
section
variable {Φ : FEnv} {ρ : Rho} {Q : Post} {ks : List CS}
theorem Zjg (b : CS) (hs : List (String × Option Nat × List XS)) : NX Φ (.tryX b hs :: ks) ρ Q ↔ NX Φ [b] ρ { Q with nx := fun ρ' => NX Φ ks ρ' Q, xc := fun c ps ρ' => HK Φ hs c ps ks ρ' Q } := by
  have e : NXr Φ ks = fun ρ' Q => NX Φ ks ρ' Q := by funext ρ' Q'; exact propext (nx_iff Φ ks ρ' Q').symm
  rw [nx_iff, nx_iff]
  simp only [NXr, ex, e]
  generalize ex Φ b ρ = o
  cases o with
  | exc c ps ρ' => exact ⟨fun h => ⟨h⟩, fun h => h.run⟩
  | _ => exact Iff.rfl
theorem Zjh (c : String) (ps : List D) : HK Φ [] c ps ks ρ Q ↔ Q.xc c ps ρ := ⟨fun h => h.run, fun h => ⟨h⟩⟩
theorem Zji (n : String) (i : Option Nat) (b : List XS) (hs : List (String × Option Nat × List XS)) (c : String) (ps : List D) (h : subX c n = true) : HK Φ ((n, i, b) :: hs) c ps ks ρ Q ↔ XK Φ c ((xflds c).zip ps) b i ks (offX ρ i) Q := by
  have e : List.find? (fun h : String × Option Nat × List XS => subX c h.1) ((n, i, b) :: hs) = some (n, i, b) := List.find?_cons_of_pos (p := fun h : String × Option Nat × List XS => subX c h.1) h
  refine ⟨fun z => ⟨?_⟩, fun z => ⟨?_⟩⟩
  · have z := z.run
    rw [e] at z
    exact z
  · rw [e]
    exact z.run
theorem Zjj (n : String) (i : Option Nat) (b : List XS) (hs : List (String × Option Nat × List XS)) (c : String) (ps : List D) (h : subX c n = false) : HK Φ ((n, i, b) :: hs) c ps ks ρ Q ↔ HK Φ hs c ps ks ρ Q := by
  have e : List.find? (fun h : String × Option Nat × List XS => subX c h.1) ((n, i, b) :: hs) = List.find? (fun h => subX c h.1) hs := List.find?_cons_of_neg (p := fun h : String × Option Nat × List XS => subX c h.1) (by rw [h]; simp)
  refine ⟨fun z => ⟨?_⟩, fun z => ⟨?_⟩⟩
  · have z := z.run
    rw [e] at z
    exact z
  · rw [e]
    exact z.run
theorem Zjk (c : String) (fs : List (String × D)) (i : Option Nat) : XK Φ c fs [] i ks ρ Q ↔ NX Φ ks (offX ρ i) Q := ⟨fun h => h.run, fun h => ⟨h⟩⟩
theorem Zjl (c : String) (fs : List (String × D)) (j : Nat) (e : XE) (b : List XS) (i : Option Nat) : XK Φ c fs (.asg j e :: b) i ks ρ Q ↔ YK Φ (xv Φ c fs e ρ) j c fs b i ks ρ Q := ⟨fun h => ⟨h.run⟩, fun h => ⟨h.run⟩⟩
theorem Zjm (d : D) (j : Nat) (c : String) (fs : List (String × D)) (b : List XS) (i : Option Nat) : YK Φ (.ok d) j c fs b i ks ρ Q ↔ XK Φ c fs b i ks (ρ.set j (some d)) Q := ⟨fun h => ⟨h.run⟩, fun h => ⟨h.run⟩⟩
theorem Zjn (c : String) (fs : List (String × D)) (e : XE) (b : List XS) (i : Option Nat) : XK Φ c fs (.ret e :: b) i ks ρ Q ↔ ZK (xv Φ c fs e ρ) ρ Q := by
  refine ⟨fun z => ⟨?_⟩, fun z => ⟨?_⟩⟩
  · have z := z.run
    simp only [xx] at z
    generalize xv Φ c fs e ρ = r at z ⊢
    cases r <;> exact z
  · have z := z.run
    simp only [xx]
    generalize xv Φ c fs e ρ = r at z ⊢
    cases r <;> exact z
theorem Zjo (d : D) : ZK (.ok d) ρ Q ↔ Q.rt d ρ := ⟨fun h => h.run, fun h => ⟨h⟩⟩
theorem Zjp (c : String) (fs : List (String × D)) (k e : XE) (b : List XS) (i : Option Nat) : XK Φ c fs (.ifR k e :: b) i ks ρ Q ↔ VK_ Φ ((xv Φ c fs k ρ).bind truR) e c fs b i ks ρ Q := ⟨fun h => ⟨h.run⟩, fun h => ⟨h.run⟩⟩
theorem Zjq (e : XE) (c : String) (fs : List (String × D)) (b : List XS) (i : Option Nat) : VK_ Φ (.ok true) e c fs b i ks ρ Q ↔ ZK (xv Φ c fs e ρ) ρ Q := by
  refine ⟨fun z => ⟨?_⟩, fun z => ⟨?_⟩⟩
  · have z := z.run
    simp only [quiet, Res.out_ok] at z
    generalize xv Φ c fs e ρ = r at z ⊢
    cases r <;> exact z
  · have z := z.run
    simp only [quiet, Res.out_ok]
    generalize xv Φ c fs e ρ = r at z ⊢
    cases r <;> exact z
theorem Zjr (e : XE) (c : String) (fs : List (String × D)) (b : List XS) (i : Option Nat) : VK_ Φ (.ok false) e c fs b i ks ρ Q ↔ XK Φ c fs b i ks ρ Q := ⟨fun h => ⟨h.run⟩, fun h => ⟨h.run⟩⟩
theorem Zjs (b : List XS) (c : String) (fs : List (String × D)) (ρ : Rho) : NX Φ [.xdef b] (some (.obj c fs) :: ρ) Q ↔ XK (fun _ _ => .stuck) c fs b none [] (none :: ρ) Q := by
  have sh : ∀ o : Out, o.sat { Q with nx := fun ρ' => Q.nx ρ' } ↔ (offO none o).sat { Q with nx := fun ρ' => NX (fun _ _ => .stuck) [] ρ' Q } := fun o => by
    cases o with
    | nx ρ => exact (Za (Φ := fun _ _ => .stuck)).symm
    | _ => exact Iff.rfl
  rw [nx_iff]
  refine ⟨fun z => ⟨(sh _).1 z⟩, fun z => (sh _).2 z.run⟩
theorem Zjd (c : String) (ps : List D) (t : Tg) (b : CS) : LK Φ (.exc c ps) t b ks ρ Q ↔ Q.xc c ps ρ := ⟨fun h => h.run, fun h => ⟨h⟩⟩
theorem Zje (c : String) (ps : List D) (f : D → Rho → Out) : (Out.exc c ps ρ).thn f = .exc c ps ρ := id rfl
theorem Zjf {α : Type} (c : String) (ps : List D) (f : α → Out) : (Res.exc c ps : Res α).out ρ f = .exc c ps ρ := id rfl
theorem Zjt : offX ρ none = ρ := id rfl
theorem Zju (i : Nat) : offX ρ (some i) = ρ.set i none := id rfl
variable {c : String} {fs : List (String × D)}
theorem Zjv (d : D) : xv Φ c fs (.cst d) ρ = .ok d := by simp only [xv]
theorem Zjw (i : Nat) : xv Φ c fs (.var i) ρ = getv ρ i := by simp only [xv]
theorem Zjx (n : String) : xv Φ c fs (.isI n) ρ = .ok (.bl (subX c n)) := by simp only [xv]
theorem Zjy (ns : List String) : xv Φ c fs (.isM ns) ρ = .ok (.bl (ns.any (subX c))) := by simp only [xv]
theorem Zjz (f : String) : xv Φ c fs (.fld f) ρ = ofOpt (fs.lookup f) := by simp only [xv]
theorem Zka (f : String) (t : Ty) : xv Φ c fs (.fty f t) ρ = (ofOpt (fs.lookup f)).bind fun d => .ok (.bl (isTy d t)) := by simp only [xv]
theorem Zkb (a : XE) : xv Φ c fs (.not a) ρ = (xv Φ c fs a ρ).bind fun x => (boolR x).bind fun k => .ok (.bl (!k)) := by simp only [xv]
theorem Zkc (a b : XE) : xv Φ c fs (.and a b) ρ = (xv Φ c fs a ρ).bind fun x => (boolR x).bind fun k => bif k then xv Φ c fs b ρ else .ok (.bl false) := by
  simp only [xv]; first | rfl | (congr 1; funext x; congr 1; funext k; cases k <;> rfl)
theorem Zkd (a b : XE) : xv Φ c fs (.or a b) ρ = (xv Φ c fs a ρ).bind fun x => (boolR x).bind fun k => bif k then .ok (.bl true) else xv Φ c fs b ρ := by
  simp only [xv]; first | rfl | (congr 1; funext x; congr 1; funext k; cases k <;> rfl)
theorem Zke (es : XL) : xv Φ c fs (.lst es) ρ = (xvs Φ c fs es ρ).bind fun xs => lstR xs := by simp only [xv]; rfl
theorem Zkf (a b : XE) : xv Φ c fs (.add a b) ρ = (xv Φ c fs a ρ).bind fun x => (xv Φ c fs b ρ).bind fun y => addR x y := by simp only [xv]
theorem Zkg (f : String) : xv Φ c fs (.call f) ρ = quiet (Φ f [.obj c fs]) := by simp only [xv]
theorem Zkh : xvs Φ c fs .nil ρ = .ok [] := by simp only [xvs]
theorem Zki (e : XE) (es : XL) : xvs Φ c fs (.cons e es) ρ = (xv Φ c fs e ρ).bind fun x => (xvs Φ c fs es ρ).bind fun xs => .ok (x :: xs) := by simp only [xvs]
end
theorem Ziz {ρ : Rho} {Q : Post} (c : String) (h : xflds c = []) : EK (.ok []) c ρ Q ↔ Q.xc c [] ρ := Zja [] c (by rw [h]; rfl)
theorem Zks : xflds "NoText" = [] := by decide
theorem Zkt : xflds "NoSeating" = [] := by decide
theorem Zku : xflds "NoHall" = [] := by decide
theorem Zkv : xflds "NoGroup" = [] := by decide
theorem Zkw : xflds "NoRow" = [] := by decide
theorem Zkx : xflds "NoName" = [] := by decide
theorem Zky : xflds "Twice" = [] := by decide
theorem Zkz : xflds "Full" = ["paper"] := by decide
theorem Zla : xflds "TooGreat" = ["many", "most"] := by decide
/-! ### texts -/
def smY (f : SM) (y : Res D) : D → Res D
  | .str s => y.bind fun y => smR f s y
  | _ => .stuck
section
variable {Φ : FEnv} {ρ : Rho}
theorem v_smY (f : SM) (o a : CE) : ev Φ (.sm1 f o a) ρ = (ev Φ o ρ).bind (smY f (ev Φ a ρ)) := by
  simp only [ev]
  congr 1
theorem Zlb (o a : CE) : ev Φ (.sm1 .split o a) ρ = (ev Φ o ρ).bind (smY .split (ev Φ a ρ)) := v_smY _ _ _
theorem Zlc (o a : CE) : ev Φ (.sm1 .part o a) ρ = (ev Φ o ρ).bind (smY .part (ev Φ a ρ)) := v_smY _ _ _
theorem Zld (o a : CE) : ev Φ (.sm1 .index o a) ρ = (ev Φ o ρ).bind (smY .index (ev Φ a ρ)) := v_smY _ _ _
theorem Zle (o a : CE) : ev Φ (.sm1 .upper o a) ρ = (ev Φ o ρ).bind (smY .upper (ev Φ a ρ)) := v_smY _ _ _
theorem Zlf (o a : CE) : ev Φ (.sm1 .join o a) ρ = (ev Φ o ρ).bind (smY .join (ev Φ a ρ)) := v_smY _ _ _
theorem Zlg (f : SM) (y : Res D) (s : List Nat) : smY f y (.str s) = y.bind fun y => smR f s y := id rfl
theorem Zlh (s : List Nat) (xs : List D) : smR .join s (.lst xs) = joinR s xs := id rfl
theorem Zli (s : List Nat) (xs : List D) : smR .join s (.tup xs) = joinR s xs := id rfl
theorem sm_split_ok {s : List Nat} {c : Nat} (h : c < 256) (h2 : s.length ≤ 900000) : smR .split s (.str [c]) = .ok (.lst ((splC c [] s).map .str)) := if_pos ⟨h, le_SZ (by omega)⟩
end
theorem Zkp (c : String) : subX c c = true := by simp [subX]
theorem Zkq (c : String) : subX c "SeatError" = true := by simp [subX]
theorem Zkr (c : String) : subX c "ValueError" = true := by simp [subX]
end Ps
end
section
namespace Ps
def txAZ : List Nat := [97, 98, 99, 100, 101, 102, 103, 104, 105, 106, 107, 108, 109, 110, 111, 112, 113, 114, 115, 116, 117, 118, 119, 120, 121, 122]
def txSigns : List Nat := [46, 61, 35, 97, 98, 99, 100, 101, 102, 103, 104, 105, 106, 107, 108, 109, 110, 111, 112, 113, 114, 115, 116, 117, 118, 119, 120, 121, 122]
end Ps
end
section
set_option maxHeartbeats 1000000
/-! B_Gen: halls and groups as data; what the laws' generators (k21 to k44) build. -/
namespace Ps
def c__law_cell_at : CS := (.seq (.cond (.bin .lt (.var 1) (.blt .len (.cons (.var 0) .nil))) (.ret (.ix (.var 0) (.var 1))) .skip) (.ret (.cst (.int 0))))
def f__law_cell_at : Fn := ⟨2, 2, c__law_cell_at, []⟩
/-! ### halls, groups -/
structure HallOk (h : List (List Nat)) : Prop where
  r1 : 1 ≤ h.length
  r6 : h.length ≤ 6
  ex : ∃ C, 1 ≤ C ∧ C ≤ 12 ∧ ∀ l ∈ h, l.length = C ∧ ∀ c ∈ l, c ∈ txSigns
def encH (h : List (List Nat)) : D := .tup (h.map .str)
structure Grp where
  name : List Nat
  w : Nat
  d : Nat
  kind : List Nat
  wide : Nat
  gap : Nat
  worth : Nat
  wishes : List (Nat × Nat)
def encW (p : Nat × Nat) : D := .tup [.int (p.1 : Int), .int (p.2 : Int)]
def encG (g : Grp) : D := .tup [.str g.name, .int (g.w : Int), .int (g.d : Int), .str g.kind, .int (g.wide : Int), .int (g.gap : Int), .int (g.worth : Int), .tup (g.wishes.map encW)]
structure WishOk (ws : List (Nat × Nat)) : Prop where
  row : ∀ p ∈ ws, p.1 < 6 ∧ 1 ≤ p.2 ∧ p.2 < 10 ^ 60
  rise : (ws.map (·.1)).Pairwise (· < ·)
/-! ### indexing -/
theorem at_mod {α : Type} {xs : List α} {z n : Int} (hn : 0 < n) (hl : n = xs.length) (P : α → Prop) (h : ∀ x ∈ xs, P x) : ∃ x, P x ∧ atP xs (z % n) = some x := by
  have h1 := Int.emod_nonneg z (Int.ne_of_gt hn)
  have h2 := Int.emod_lt_of_pos z hn
  have hlt : (z % n).toNat < xs.length := by omega
  exact ⟨xs[(z % n).toNat], h _ (List.getElem_mem hlt), atP_nat (n := (z % n).toNat) (by omega) (by simp [hlt])⟩
theorem az_len : txAZ.length = 26 := by decide
theorem signs_len : txSigns.length = 29 := by decide
theorem az_signs : ∀ c ∈ txAZ, c ∈ txSigns := by decide +kernel
theorem modN {z n : Int} (hn : 0 < n) : ∃ k : Nat, z % n = (k : Int) ∧ (k : Int) < n :=
  ⟨(z % n).toNat, by have := Int.emod_nonneg z (Int.ne_of_gt hn); omega, by have := Int.emod_nonneg z (Int.ne_of_gt hn); have := Int.emod_lt_of_pos z hn; omega⟩
/-! ### a script's cell, mixed numbers -/
def cellS (ns : List Int) (k : Int) : Int := if k < ns.length then (ns[k.toNat]?).getD 0 else 0
theorem cell_run {P : Prog} [Has P "_law_cell_at" f__law_cell_at] (m : Nat) (ns : List Int) (k : Int) (h : 0 ≤ k) : run P (m + 1) "_law_cell_at" [.lst (ns.map .int), .int k] = .ok (.int (cellS ns k)) := by
  refine run_eq (Has.eq (f := f__law_cell_at)) m _ [some (.lst (ns.map .int)), some (.int k)] _ rfl rfl ?_
  unfold f__law_cell_at c__law_cell_at
  simp only [Za, Zb, Zd, Ze, Zf, Zg, Zh, Zi, Zj, Zk, Zl, Zm, Zn, Zo, Zp, Zq, Zr, Zs, Zt, Zu, Zv, Zw, Zx, Zy, Zz, Zaa, Zab, Zac, Zad, Zae, Zaf, Zag, Zah, Zai, Zaj, Zak, Zal, Zam, Zan, Zao, Zap, Zaq, Zar, Zas, Zat, Zau, Zav, Zaw, Zax, Zay, Zaz, Zba, Zbb, Zbc, Zbd, Zbe, Zbf, Zbg, Zbh, Zbi, Zbj, Zbk, Zbl, Zbm, Zbn, Zbo, Zbp, Zbq, Zbr, Zbs, Zbt, Zbu, Zbv, Zbw, Zbx, Zby, Zbz, Zca, Zcb, Zcc, Zcd, Zce, Zcf, Zcg, Zch, Zci, Zcj, Zck, Zcl, Zcm, Zcn, Zco, Zcp, Zcq, Zcr, Zcs, Zct, Zcu, Zcv, Zcw, Zcx, Zcy, Zcz, Zda, Zdb, Zdc, Zdd, Zde, Zdf, Zdg, Zdh, Zdi, Zdj, Zdk, Zdl, Zdm, Zdn, Zdo, Zdp, Zdq, Zdr, Zds, Zdt, Zdu, Zdv, Zdw, Int.toNat_natCast, Int.natCast_nonneg, Zdx, Zdy, Zdz, Zea, Zeb, Zec, Zed, Zee, Zef, Zeg, Zeh, Zei, Zej, Zek, Zel, Zem, Zen, Zeo, Zep, Zeq, Zer, Zes, Zet, Zeu, Zev, Zew, Zex, Zey, Zez, Zfa, Zfb, Zfc, Zfd, Zfe, Zff, Zfg, Zfh, Zfi, Zfj, Zfk, Zfl, Zfm, Zfn, Zfo, Zfp, Zfq, Zfr, Zfs, Zft, Zfu, Zfv, Zfw, Zfx, Zfy, Zfz, Zga, Zgb, Zgc, Zgd, Zge, Zgf, Zgg, Zgh, Zgi, Zgj, Zgk, Zgl, Zgm, Zgn, Zgo, Zgp, Zgq, Zgr, Zgs, Zgt, Zgu, Zgv, Zgw, Zgx, Zgy, Zgz, Zha, Zhb, Zhc, Zhd, Zhe, Zhf, Zhg, Zhh, Zhi, Zhj, Zhk, if_true, if_false, Bool.false_eq_true, Bool.true_eq_false, decide_eq_true_eq, reduceIte, Int.reduceLT, Int.reduceLE, Nat.reduceAdd, Nat.reduceLeDiff, Nat.reduceMul, Int.reduceNeg, Int.reduceAdd, Int.reduceMul, Int.reduceSub, Int.reducePow, Int.reduceToNat, and_self, and_true, true_and, List.length_map]
  unfold cellS
  refine IK_by (fun e => ?_) fun e => ?_
  · have e := of_decide_eq_true e
    have hlt : k.toNat < ns.length := by omega
    simp only [Za, Zb, Zd, Ze, Zf, Zg, Zh, Zi, Zj, Zk, Zl, Zm, Zn, Zo, Zp, Zq, Zr, Zs, Zt, Zu, Zv, Zw, Zx, Zy, Zz, Zaa, Zab, Zac, Zad, Zae, Zaf, Zag, Zah, Zai, Zaj, Zak, Zal, Zam, Zan, Zao, Zap, Zaq, Zar, Zas, Zat, Zau, Zav, Zaw, Zax, Zay, Zaz, Zba, Zbb, Zbc, Zbd, Zbe, Zbf, Zbg, Zbh, Zbi, Zbj, Zbk, Zbl, Zbm, Zbn, Zbo, Zbp, Zbq, Zbr, Zbs, Zbt, Zbu, Zbv, Zbw, Zbx, Zby, Zbz, Zca, Zcb, Zcc, Zcd, Zce, Zcf, Zcg, Zch, Zci, Zcj, Zck, Zcl, Zcm, Zcn, Zco, Zcp, Zcq, Zcr, Zcs, Zct, Zcu, Zcv, Zcw, Zcx, Zcy, Zcz, Zda, Zdb, Zdc, Zdd, Zde, Zdf, Zdg, Zdh, Zdi, Zdj, Zdk, Zdl, Zdm, Zdn, Zdo, Zdp, Zdq, Zdr, Zds, Zdt, Zdu, Zdv, Zdw, Int.toNat_natCast, Int.natCast_nonneg, Zdx, Zdy, Zdz, Zea, Zeb, Zec, Zed, Zee, Zef, Zeg, Zeh, Zei, Zej, Zek, Zel, Zem, Zen, Zeo, Zep, Zeq, Zer, Zes, Zet, Zeu, Zev, Zew, Zex, Zey, Zez, Zfa, Zfb, Zfc, Zfd, Zfe, Zff, Zfg, Zfh, Zfi, Zfj, Zfk, Zfl, Zfm, Zfn, Zfo, Zfp, Zfq, Zfr, Zfs, Zft, Zfu, Zfv, Zfw, Zfx, Zfy, Zfz, Zga, Zgb, Zgc, Zgd, Zge, Zgf, Zgg, Zgh, Zgi, Zgj, Zgk, Zgl, Zgm, Zgn, Zgo, Zgp, Zgq, Zgr, Zgs, Zgt, Zgu, Zgv, Zgw, Zgx, Zgy, Zgz, Zha, Zhb, Zhc, Zhd, Zhe, Zhf, Zhg, Zhh, Zhi, Zhj, Zhk, if_true, if_false, Bool.false_eq_true, Bool.true_eq_false, decide_eq_true_eq, reduceIte, Int.reduceLT, Int.reduceLE, Nat.reduceAdd, Nat.reduceLeDiff, Nat.reduceMul, Int.reduceNeg, Int.reduceAdd, Int.reduceMul, Int.reduceSub, Int.reducePow, Int.reduceToNat, and_self, and_true, true_and]
    rw [atP_nat (n := k.toNat) (by omega) (by rw [List.getElem?_map, List.getElem?_eq_getElem hlt]; rfl), if_pos e, List.getElem?_eq_getElem hlt]
    simp only [Za, Zb, Zd, Ze, Zf, Zg, Zh, Zi, Zj, Zk, Zl, Zm, Zn, Zo, Zp, Zq, Zr, Zs, Zt, Zu, Zv, Zw, Zx, Zy, Zz, Zaa, Zab, Zac, Zad, Zae, Zaf, Zag, Zah, Zai, Zaj, Zak, Zal, Zam, Zan, Zao, Zap, Zaq, Zar, Zas, Zat, Zau, Zav, Zaw, Zax, Zay, Zaz, Zba, Zbb, Zbc, Zbd, Zbe, Zbf, Zbg, Zbh, Zbi, Zbj, Zbk, Zbl, Zbm, Zbn, Zbo, Zbp, Zbq, Zbr, Zbs, Zbt, Zbu, Zbv, Zbw, Zbx, Zby, Zbz, Zca, Zcb, Zcc, Zcd, Zce, Zcf, Zcg, Zch, Zci, Zcj, Zck, Zcl, Zcm, Zcn, Zco, Zcp, Zcq, Zcr, Zcs, Zct, Zcu, Zcv, Zcw, Zcx, Zcy, Zcz, Zda, Zdb, Zdc, Zdd, Zde, Zdf, Zdg, Zdh, Zdi, Zdj, Zdk, Zdl, Zdm, Zdn, Zdo, Zdp, Zdq, Zdr, Zds, Zdt, Zdu, Zdv, Zdw, Int.toNat_natCast, Int.natCast_nonneg, Zdx, Zdy, Zdz, Zea, Zeb, Zec, Zed, Zee, Zef, Zeg, Zeh, Zei, Zej, Zek, Zel, Zem, Zen, Zeo, Zep, Zeq, Zer, Zes, Zet, Zeu, Zev, Zew, Zex, Zey, Zez, Zfa, Zfb, Zfc, Zfd, Zfe, Zff, Zfg, Zfh, Zfi, Zfj, Zfk, Zfl, Zfm, Zfn, Zfo, Zfp, Zfq, Zfr, Zfs, Zft, Zfu, Zfv, Zfw, Zfx, Zfy, Zfz, Zga, Zgb, Zgc, Zgd, Zge, Zgf, Zgg, Zgh, Zgi, Zgj, Zgk, Zgl, Zgm, Zgn, Zgo, Zgp, Zgq, Zgr, Zgs, Zgt, Zgu, Zgv, Zgw, Zgx, Zgy, Zgz, Zha, Zhb, Zhc, Zhd, Zhe, Zhf, Zhg, Zhh, Zhi, Zhj, Zhk, if_true, if_false, Bool.false_eq_true, Bool.true_eq_false, decide_eq_true_eq, reduceIte, Int.reduceLT, Int.reduceLE, Nat.reduceAdd, Nat.reduceLeDiff, Nat.reduceMul, Int.reduceNeg, Int.reduceAdd, Int.reduceMul, Int.reduceSub, Int.reducePow, Int.reduceToNat, and_self, and_true, true_and]
    rfl
  · have e := of_decide_eq_false e
    simp only [Za, Zb, Zd, Ze, Zf, Zg, Zh, Zi, Zj, Zk, Zl, Zm, Zn, Zo, Zp, Zq, Zr, Zs, Zt, Zu, Zv, Zw, Zx, Zy, Zz, Zaa, Zab, Zac, Zad, Zae, Zaf, Zag, Zah, Zai, Zaj, Zak, Zal, Zam, Zan, Zao, Zap, Zaq, Zar, Zas, Zat, Zau, Zav, Zaw, Zax, Zay, Zaz, Zba, Zbb, Zbc, Zbd, Zbe, Zbf, Zbg, Zbh, Zbi, Zbj, Zbk, Zbl, Zbm, Zbn, Zbo, Zbp, Zbq, Zbr, Zbs, Zbt, Zbu, Zbv, Zbw, Zbx, Zby, Zbz, Zca, Zcb, Zcc, Zcd, Zce, Zcf, Zcg, Zch, Zci, Zcj, Zck, Zcl, Zcm, Zcn, Zco, Zcp, Zcq, Zcr, Zcs, Zct, Zcu, Zcv, Zcw, Zcx, Zcy, Zcz, Zda, Zdb, Zdc, Zdd, Zde, Zdf, Zdg, Zdh, Zdi, Zdj, Zdk, Zdl, Zdm, Zdn, Zdo, Zdp, Zdq, Zdr, Zds, Zdt, Zdu, Zdv, Zdw, Int.toNat_natCast, Int.natCast_nonneg, Zdx, Zdy, Zdz, Zea, Zeb, Zec, Zed, Zee, Zef, Zeg, Zeh, Zei, Zej, Zek, Zel, Zem, Zen, Zeo, Zep, Zeq, Zer, Zes, Zet, Zeu, Zev, Zew, Zex, Zey, Zez, Zfa, Zfb, Zfc, Zfd, Zfe, Zff, Zfg, Zfh, Zfi, Zfj, Zfk, Zfl, Zfm, Zfn, Zfo, Zfp, Zfq, Zfr, Zfs, Zft, Zfu, Zfv, Zfw, Zfx, Zfy, Zfz, Zga, Zgb, Zgc, Zgd, Zge, Zgf, Zgg, Zgh, Zgi, Zgj, Zgk, Zgl, Zgm, Zgn, Zgo, Zgp, Zgq, Zgr, Zgs, Zgt, Zgu, Zgv, Zgw, Zgx, Zgy, Zgz, Zha, Zhb, Zhc, Zhd, Zhe, Zhf, Zhg, Zhh, Zhi, Zhj, Zhk, if_true, if_false, Bool.false_eq_true, Bool.true_eq_false, decide_eq_true_eq, reduceIte, Int.reduceLT, Int.reduceLE, Nat.reduceAdd, Nat.reduceLeDiff, Nat.reduceMul, Int.reduceNeg, Int.reduceAdd, Int.reduceMul, Int.reduceSub, Int.reducePow, Int.reduceToNat, and_self, and_true, true_and]
    rw [if_neg e]
def mixS (c k : Int) : Int :=
  let n := (c % 2147483629 + 7919 * k * k + k) * 48271 % 2147483647
  let n := (n * n + 69621 * n + k) % 2147483647
  (n * 39373 + 11 * k) % 2147483587
instance : Fact' ((0 : Int) < 2147483629) := ⟨by decide⟩
instance : Fact' ((0 : Int) < 2147483647) := ⟨by decide⟩
instance : Fact' ((0 : Int) < 2147483587) := ⟨by decide⟩
theorem mixS_nn (c k : Int) : 0 ≤ mixS c k := Int.emod_nonneg _ (by decide)
theorem mixS_lt (c k : Int) : mixS c k < 2147483587 := Int.emod_lt_of_pos _ (by decide)
instance (c k : Int) : Bd (mixS c k) 31 := ⟨by have := mixS_nn c k; have := mixS_lt c k; omega⟩
theorem Bd.mono {i : Int} {m n : Nat} (b : Bd i m) (h : m ≤ n) : Bd i n := ⟨Nat.lt_of_lt_of_le b.lt (Nat.pow_le_pow_right (by decide) h)⟩
/-- a letter by a number -/
def azS (z : Int) : Nat := (txAZ[(z % 26).toNat]?).getD 97
theorem azS_at (z : Int) : atP txAZ (z % 26) = some (azS z) := by
  have h1 := Int.emod_nonneg z (show (26 : Int) ≠ 0 by decide)
  have h2 := Int.emod_lt_of_pos z (show (0 : Int) < 26 by decide)
  have hlt : (z % 26).toNat < txAZ.length := by rw [az_len]; omega
  unfold azS
  rw [atP_nat (n := (z % 26).toNat) (by omega) (List.getElem?_eq_getElem hlt), List.getElem?_eq_getElem hlt]
  rfl
theorem azS_mem (z : Int) : azS z ∈ txAZ := by
  obtain ⟨x, hx, e⟩ := at_mod (xs := txAZ) (z := z) (n := 26) (by decide) (by rw [az_len]; rfl) (fun x => x ∈ txAZ) (fun x h => h)
  rw [azS_at] at e
  cases e
  exact hx
theorem modN1 {z n : Int} (hn : 0 < n) : ∃ k : Nat, 1 + z % n = (k : Int) ∧ 1 ≤ k ∧ (k : Int) ≤ n := by
  obtain ⟨k, e, h⟩ := modN (z := z) hn
  exact ⟨1 + k, by rw [e]; omega, by omega, by omega⟩
/-- wishes for rows below i -/
structure WishTo (i : Nat) (ws : List (Nat × Nat)) : Prop where
  row : ∀ p ∈ ws, p.1 < i ∧ 1 ≤ p.2 ∧ p.2 < 10 ^ 60
  rise : (ws.map (·.1)).Pairwise (· < ·)
  len : ws.length ≤ i
theorem WishTo.ok {ws : List (Nat × Nat)} (h : WishTo 6 ws) : WishOk ws := ⟨h.row, h.rise⟩
theorem WishTo.nil : WishTo 0 [] := ⟨by simp, by simp, by simp⟩
theorem WishTo.keep {i : Nat} {ws : List (Nat × Nat)} (h : WishTo i ws) : WishTo (i + 1) ws := ⟨fun p hp => by have := h.row p hp; omega, h.rise, by have := h.len; omega⟩
theorem WishTo.add {i more : Nat} {ws : List (Nat × Nat)} (h : WishTo i ws) (h1 : 1 ≤ more) (h2 : more < 10 ^ 60) : WishTo (i + 1) (ws ++ [(i, more)]) := by
  refine ⟨fun p hp => ?_, ?_, by have := h.len; simp; omega⟩
  · rcases List.mem_append.mp hp with q | q
    · have := h.row p q; omega
    · rw [List.mem_singleton.mp q]; exact ⟨by simp, h1, h2⟩
  · rw [List.map_append, List.pairwise_append]
    refine ⟨h.rise, by simp, fun a ha b hb => ?_⟩
    obtain ⟨q, hq, rfl⟩ := List.mem_map.mp ha
    have : b = i := by simpa using hb
    subst this
    exact (h.row q hq).1
end Ps
end
section
set_option maxHeartbeats 1000000
/-! B_Pl: places, seats, who is apart. -/
namespace Ps
def encP (p : Int × Int) : D := .tup [.int p.1, .int p.2]
instance {p : Int × Int} : Dp (encP p) 1 := ⟨by show dep (.tup [.int p.1, .int p.2]) ≤ 1; simp [dep, deps]⟩
theorem Zif (xs ys : List (Int × Int)) : eqDs (xs.map encP) (ys.map encP) = decide (xs = ys) := by
  induction xs generalizing ys with
  | nil => cases ys <;> simp [eqDs]
  | cons x xs ih =>
    cases ys with
    | nil => simp [eqDs]
    | cons y ys =>
      obtain ⟨a, b⟩ := x
      obtain ⟨c, d⟩ := y
      have e : eqD (encP (a, b)) (encP (c, d)) = decide ((a, b) = (c, d)) := by
        show eqD (.tup [.int a, .int b]) (.tup [.int c, .int d]) = _
        simp [eqD, eqDs]
        by_cases h : a = c <;> by_cases h2 : b = d <;> simp [h, h2]
      simp only [List.map_cons, Zgd, ih, e]
      by_cases h : (a, b) = (c, d) <;> by_cases h2 : xs = ys <;> simp_all
theorem Zig (xs ys : List Int) : eqDs (xs.map D.int) (ys.map D.int) = decide (xs = ys) := by
  induction xs generalizing ys with
  | nil => cases ys <;> simp [eqDs]
  | cons x xs ih =>
    cases ys with
    | nil => simp [eqDs]
    | cons y ys =>
      simp only [List.map_cons, Zgd, ih, Zfw]
      by_cases h : x = y <;> by_cases h2 : xs = ys <;> simp_all
theorem Zih (xs : List D) : eqDs xs [] = decide (xs = []) := by cases xs <;> simp [eqDs]
theorem Zii [i : Decidable True] : decide True = true := decide_eq_true trivial
theorem eqP (p q : Int × Int) : eqD (encP p) (encP q) = decide (p = q) := by
  have := Zif [p] [q]
  simp only [List.map_cons, List.map_nil, Zgd, Zgc, Bool.and_true, List.cons.injEq, and_true] at this
  exact this
theorem anyP (ps : List (Int × Int)) (p : Int × Int) : ((ps.map encP).any fun y => eqD y (encP p)) = decide (p ∈ ps) := by
  induction ps with
  | nil => simp
  | cons q ps ih =>
    simp only [List.map_cons, List.any_cons, ih, eqP, List.mem_cons]
    by_cases h : p = q
    · subst h
      simp
    · have : ¬ q = p := fun e => h e.symm
      simp [h, this]
theorem Zie (ps : List (Int × Int)) (a b : Int) : ((ps.map encP).any fun y => eqD y (.tup [.int a, .int b])) = decide ((a, b) ∈ ps) := anyP ps (a, b)
theorem Zhu (p : Int × Int) : encP p = .tup [.int p.1, .int p.2] := id rfl
theorem Zhz : (!true) = false := id rfl
theorem Zia : (!false) = true := id rfl
theorem Zir (k : Bool) : (k || false) = k := by cases k <;> rfl
theorem Zis (k : Bool) : (k || true) = true := by cases k <;> rfl
theorem Zit (k : Bool) : (k && true) = k := by cases k <;> rfl
theorem Ziu (k : Bool) : (k && false) = false := by cases k <;> rfl
theorem Zim (k : Bool) : (false || k) = k := by cases k <;> rfl
theorem Zin (k : Bool) : (true || k) = true := by cases k <;> rfl
theorem Ziq (k : Bool) : (true && k) = k := by cases k <;> rfl
theorem Zio (k : Bool) : (false && k) = false := by cases k <;> rfl
theorem Zik (a : D) : (([a].length : Nat) : Int) = 1 := id rfl
theorem Zij (a b : D) : (([a, b].length : Nat) : Int) = 2 := id rfl
theorem Zil (a b c : D) : (([a, b, c].length : Nat) : Int) = 3 := id rfl
theorem Ziv (i : Int) : (i == i) = true := by simp
theorem Ziw (i : Bool) : (i == i) = true := by simp
theorem Zix (i : Bool) : (!!i) = i := by cases i <;> rfl
theorem Zib (a b c d : D) : tupR [a, b, c, d] = .ok (.tup [a, b, c, d]) := id rfl
theorem Zic (a b c d e : D) : tupR [a, b, c, d, e] = .ok (.tup [a, b, c, d, e]) := id rfl
theorem Zid (a b c d e f : D) : tupR [a, b, c, d, e, f] = .ok (.tup [a, b, c, d, e, f]) := id rfl
instance {p : Nat × Nat} : Dp (encW p) 1 := ⟨by show dep (.tup [.int (p.1 : Int), .int (p.2 : Int)]) ≤ 1; simp [dep, deps]⟩
instance {g : Grp} : Dp (encG g) 3 := inferInstanceAs (Dp (D.tup [.str g.name, .int (g.w : Int), .int (g.d : Int), .str g.kind, .int (g.wide : Int), .int (g.gap : Int), .int (g.worth : Int), .tup (g.wishes.map encW)]) 3)
theorem Zhl {g : Grp} : idxR (encG g) (.int 0) = .ok (.str g.name) := id rfl
theorem Zhm {g : Grp} : idxR (encG g) (.int 1) = .ok (.int (g.w : Int)) := id rfl
theorem Zhn {g : Grp} : idxR (encG g) (.int 2) = .ok (.int (g.d : Int)) := id rfl
theorem Zho {g : Grp} : idxR (encG g) (.int 3) = .ok (.str g.kind) := id rfl
theorem Zhp {g : Grp} : idxR (encG g) (.int 4) = .ok (.int (g.wide : Int)) := id rfl
theorem Zhq {g : Grp} : idxR (encG g) (.int 5) = .ok (.int (g.gap : Int)) := id rfl
theorem Zhr {g : Grp} : idxR (encG g) (.int 6) = .ok (.int (g.worth : Int)) := id rfl
theorem Zhs {g : Grp} : idxR (encG g) (.int 7) = .ok (.tup (g.wishes.map encW)) := id rfl
theorem Zht {n : Bool} {g : Grp} : isNR n (encG g) = .ok (.bl n) := id rfl
theorem Zhx {h : List (List Nat)} : bltR .len [encH h] = .ok (.int h.length) := by
  show Res.ok (D.int (((h.map D.str).length : Nat) : Int)) = _
  rw [List.length_map]
theorem Zhy {h : List (List Nat)} : isTy (encH h) .tuple = true := id rfl
theorem Zhv {α : Type} {a b : α} : atP [a, b] 0 = some a := id rfl
theorem Zhw {α : Type} {a b : α} : atP [a, b] 1 = some b := id rfl
instance bd59 : Bd 100000000000000000000000000000000000000000000000000000000000 197 := ⟨by decide⟩
/-! ### takes -/
/-! ### seats -/
theorem FK_split {Φ : FEnv} {ks : List CS} {ρ : Rho} {Q : Post} {α : Type} {g : α → D} {t : Tg} {b : CS} {ys : List α} (I : List α → Rho → Prop) (h0 : I [] ρ)
    (hs : ∀ pre y post ρ', ys = pre ++ y :: post → I pre ρ' → BK Φ (g y) t b ρ' { Q with nx := I (pre ++ [y]), ct := I (pre ++ [y]), bk := fun ρ' => NX Φ ks ρ' Q }) (he : ∀ ρ', I ys ρ' → NX Φ ks ρ' Q) : FK Φ (ys.map g) t b ks ρ Q := by
  refine FK_map (fun i => I (ys.take i)) (by simpa using h0) (fun i y ρ' hy h => ?_) (fun ρ' h => he ρ' (by simpa using h))
  obtain ⟨hi, rfl⟩ := List.getElem?_eq_some_iff.1 hy
  rw [List.take_succ_eq_append_getElem hi]
  exact hs (ys.take i) ys[i] (ys.drop (i + 1)) ρ' (by simp) h
/-! ### in the hall -/
def colsH (h : List (List Nat)) : Nat := (h.headD []).length
theorem HallOk.cols {h : List (List Nat)} (H : HallOk h) : 1 ≤ colsH h ∧ colsH h ≤ 12 ∧ ∀ l ∈ h, l.length = colsH h ∧ ∀ c ∈ l, c ∈ txSigns := by
  obtain ⟨C, c1, c2, c3⟩ := H.ex
  cases h with
  | nil => have := H.r1; simp at this
  | cons l h =>
    have e : colsH (l :: h) = C := (c3 l (by simp)).1
    rw [e]
    exact ⟨c1, c2, c3⟩
/-! ### all places -/
/-! ### apart -/
/-! ### as the laws look at it -/
/-- a comprehension with a condition -/
theorem compQ {α : Type} {f : D → Res (Option D)} {g : α → D} {ys : List α} (q : α → Bool) (k : α → D) (h : ∀ y ∈ ys, f (g y) = .ok (bif q y then some (k y) else none)) : compL f (ys.map g) = .ok ((ys.filter q).map k) := by
  rw [compF (fun y => bif q y then some (k y) else none) h]
  congr 1
  induction ys with
  | nil => rfl
  | cons y ys ih =>
    have := ih fun z hz => h z (List.mem_cons_of_mem _ hz)
    by_cases e : q y = true <;> simp [e] <;> simpa using this
end Ps
end
section
set_option maxHeartbeats 1000000
/-! B_Old: the generators of laws k01 to k14. -/
namespace Ps
def c__law_mixed : CS := (.seq (.cond (.bin .eq (.bin .mod (.bin .fdiv (.var 0) (.cst (.int 1000003))) (.cst (.int 2))) (.cst (.int 1))) (.ret (.bin .mod (.bin .shr (.bin .fdiv (.var 0) (.cst (.int 2000006))) (.bin .mul (.cst (.int 12)) (.var 1))) (.cst (.int 4096)))) .skip) (.seq (.asg (.nm 2) (.bin .mod (.bin .mul (.bin .add (.bin .add (.bin .mod (.var 0) (.cst (.int 2147483647))) (.bin .mul (.bin .mul (.cst (.int 7919)) (.var 1)) (.var 1))) (.var 1)) (.cst (.int 48271))) (.cst (.int 2147483647)))) (.seq (.asg (.nm 2) (.bin .mod (.bin .mul (.var 2) (.var 2)) (.cst (.int 1000003)))) (.ret (.bin .mod (.bin .add (.bin .add (.bin .mul (.var 2) (.var 2)) (.bin .mul (.cst (.int 69621)) (.var 2))) (.var 1)) (.cst (.int 998244353)))))))
def f__law_mixed : Fn := ⟨2, 3, c__law_mixed, []⟩
instance : Bd (1000003 : Int) 20 := ⟨by decide⟩
instance : Fact' ((0 : Int) < 1000003) := ⟨by decide⟩
def mixN1 (c k : Int) : Int := (c % 2147483647 + 7919 * k * k + k) * 48271 % 2147483647
def mixN2 (c k : Int) : Int := mixN1 c k * mixN1 c k % 1000003
def mixO (c k : Int) : Int := if (c / 1000003 % 2 == 1) = true then c / 2000006 / 2 ^ (12 * k).toNat % 4096 else (mixN2 c k * mixN2 c k + 69621 * mixN2 c k + k) % 998244353
theorem mixO_run {P : Prog} [Has P "_law_mixed" f__law_mixed] (m : Nat) (c k : Int) {n : Nat} [hb : Bd k n] (hn : n ≤ 60) (h0 : 0 ≤ k) : run P (m + 1) "_law_mixed" [.int c, .int k] = .ok (.int (mixO c k)) := by
  have b60 : Bd k 60 := hb.mono hn
  clear hb
  refine run_eq (Has.eq (f := f__law_mixed)) m _ [some (.int c), some (.int k), none] _ rfl rfl ?_
  unfold f__law_mixed c__law_mixed
  simp only [Za, Zb, Zd, Ze, Zf, Zg, Zh, Zi, Zj, Zk, Zl, Zm, Zn, Zo, Zp, Zq, Zr, Zs, Zt, Zu, Zv, Zw, Zx, Zy, Zz, Zaa, Zab, Zac, Zad, Zae, Zaf, Zag, Zah, Zai, Zaj, Zak, Zal, Zam, Zan, Zao, Zap, Zaq, Zar, Zas, Zat, Zau, Zav, Zaw, Zax, Zay, Zaz, Zba, Zbb, Zbc, Zbd, Zbe, Zbf, Zbg, Zbh, Zbi, Zbj, Zbk, Zbl, Zbm, Zbn, Zbo, Zbp, Zbq, Zbr, Zbs, Zbt, Zbu, Zbv, Zbw, Zbx, Zby, Zbz, Zca, Zcb, Zcc, Zcd, Zce, Zcf, Zcg, Zch, Zci, Zcj, Zck, Zcl, Zcm, Zcn, Zco, Zcp, Zcq, Zcr, Zcs, Zct, Zcu, Zcv, Zcw, Zcx, Zcy, Zcz, Zda, Zdb, Zdc, Zdd, Zde, Zdf, Zdg, Zdh, Zdi, Zdj, Zdk, Zdl, Zdm, Zdn, Zdo, Zdp, Zdq, Zdr, Zds, Zdt, Zdu, Zdv, Zdw, Int.toNat_natCast, Int.natCast_nonneg, Zdx, Zdy, Zdz, Zea, Zeb, Zec, Zed, Zee, Zef, Zeg, Zeh, Zei, Zej, Zek, Zel, Zem, Zen, Zeo, Zep, Zeq, Zer, Zes, Zet, Zeu, Zev, Zew, Zex, Zey, Zez, Zfa, Zfb, Zfc, Zfd, Zfe, Zff, Zfg, Zfh, Zfi, Zfj, Zfk, Zfl, Zfm, Zfn, Zfo, Zfp, Zfq, Zfr, Zfs, Zft, Zfu, Zfv, Zfw, Zfx, Zfy, Zfz, Zga, Zgb, Zgc, Zgd, Zge, Zgf, Zgg, Zgh, Zgi, Zgj, Zgk, Zgl, Zgm, Zgn, Zgo, Zgp, Zgq, Zgr, Zgs, Zgt, Zgu, Zgv, Zgw, Zgx, Zgy, Zgz, Zha, Zhb, Zhc, Zhd, Zhe, Zhf, Zhg, Zhh, Zhi, Zhj, Zhk, if_true, if_false, Bool.false_eq_true, Bool.true_eq_false, decide_eq_true_eq, reduceIte, Int.reduceLT, Int.reduceLE, Nat.reduceAdd, Nat.reduceLeDiff, Nat.reduceMul, Int.reduceNeg, Int.reduceAdd, Int.reduceMul, Int.reduceSub, Int.reducePow, Int.reduceToNat, and_self, and_true, true_and, Zhl, Zhm, Zhn, Zho, Zhp, Zhq, Zhr, Zhs, Zht, Zhu, Zhv, Zhw, Zhx, Zhy, Zhz, Zia, Zib, Zic, Zid, Zie, Zif, Zig, Zih, Zii, Zij, Zik, Zil, Zim, Zin, Zio, Ziq, Zir, Zis, Zit, Ziu, Ziv, Ziw, Zix, Int.reduceBEq]
  refine IK_by (fun e => ?_) fun e => ?_
  · simp only [Za, Zb, Zd, Ze, Zf, Zg, Zh, Zi, Zj, Zk, Zl, Zm, Zn, Zo, Zp, Zq, Zr, Zs, Zt, Zu, Zv, Zw, Zx, Zy, Zz, Zaa, Zab, Zac, Zad, Zae, Zaf, Zag, Zah, Zai, Zaj, Zak, Zal, Zam, Zan, Zao, Zap, Zaq, Zar, Zas, Zat, Zau, Zav, Zaw, Zax, Zay, Zaz, Zba, Zbb, Zbc, Zbd, Zbe, Zbf, Zbg, Zbh, Zbi, Zbj, Zbk, Zbl, Zbm, Zbn, Zbo, Zbp, Zbq, Zbr, Zbs, Zbt, Zbu, Zbv, Zbw, Zbx, Zby, Zbz, Zca, Zcb, Zcc, Zcd, Zce, Zcf, Zcg, Zch, Zci, Zcj, Zck, Zcl, Zcm, Zcn, Zco, Zcp, Zcq, Zcr, Zcs, Zct, Zcu, Zcv, Zcw, Zcx, Zcy, Zcz, Zda, Zdb, Zdc, Zdd, Zde, Zdf, Zdg, Zdh, Zdi, Zdj, Zdk, Zdl, Zdm, Zdn, Zdo, Zdp, Zdq, Zdr, Zds, Zdt, Zdu, Zdv, Zdw, Int.toNat_natCast, Int.natCast_nonneg, Zdx, Zdy, Zdz, Zea, Zeb, Zec, Zed, Zee, Zef, Zeg, Zeh, Zei, Zej, Zek, Zel, Zem, Zen, Zeo, Zep, Zeq, Zer, Zes, Zet, Zeu, Zev, Zew, Zex, Zey, Zez, Zfa, Zfb, Zfc, Zfd, Zfe, Zff, Zfg, Zfh, Zfi, Zfj, Zfk, Zfl, Zfm, Zfn, Zfo, Zfp, Zfq, Zfr, Zfs, Zft, Zfu, Zfv, Zfw, Zfx, Zfy, Zfz, Zga, Zgb, Zgc, Zgd, Zge, Zgf, Zgg, Zgh, Zgi, Zgj, Zgk, Zgl, Zgm, Zgn, Zgo, Zgp, Zgq, Zgr, Zgs, Zgt, Zgu, Zgv, Zgw, Zgx, Zgy, Zgz, Zha, Zhb, Zhc, Zhd, Zhe, Zhf, Zhg, Zhh, Zhi, Zhj, Zhk, if_true, if_false, Bool.false_eq_true, Bool.true_eq_false, decide_eq_true_eq, reduceIte, Int.reduceLT, Int.reduceLE, Nat.reduceAdd, Nat.reduceLeDiff, Nat.reduceMul, Int.reduceNeg, Int.reduceAdd, Int.reduceMul, Int.reduceSub, Int.reducePow, Int.reduceToNat, and_self, and_true, true_and, Zhl, Zhm, Zhn, Zho, Zhp, Zhq, Zhr, Zhs, Zht, Zhu, Zhv, Zhw, Zhx, Zhy, Zhz, Zia, Zib, Zic, Zid, Zie, Zif, Zig, Zih, Zii, Zij, Zik, Zil, Zim, Zin, Zio, Ziq, Zir, Zis, Zit, Ziu, Ziv, Ziw, Zix, Int.reduceBEq]
    rw [b_shr, if_pos (by omega)]
    simp only [Za, Zb, Zd, Ze, Zf, Zg, Zh, Zi, Zj, Zk, Zl, Zm, Zn, Zo, Zp, Zq, Zr, Zs, Zt, Zu, Zv, Zw, Zx, Zy, Zz, Zaa, Zab, Zac, Zad, Zae, Zaf, Zag, Zah, Zai, Zaj, Zak, Zal, Zam, Zan, Zao, Zap, Zaq, Zar, Zas, Zat, Zau, Zav, Zaw, Zax, Zay, Zaz, Zba, Zbb, Zbc, Zbd, Zbe, Zbf, Zbg, Zbh, Zbi, Zbj, Zbk, Zbl, Zbm, Zbn, Zbo, Zbp, Zbq, Zbr, Zbs, Zbt, Zbu, Zbv, Zbw, Zbx, Zby, Zbz, Zca, Zcb, Zcc, Zcd, Zce, Zcf, Zcg, Zch, Zci, Zcj, Zck, Zcl, Zcm, Zcn, Zco, Zcp, Zcq, Zcr, Zcs, Zct, Zcu, Zcv, Zcw, Zcx, Zcy, Zcz, Zda, Zdb, Zdc, Zdd, Zde, Zdf, Zdg, Zdh, Zdi, Zdj, Zdk, Zdl, Zdm, Zdn, Zdo, Zdp, Zdq, Zdr, Zds, Zdt, Zdu, Zdv, Zdw, Int.toNat_natCast, Int.natCast_nonneg, Zdx, Zdy, Zdz, Zea, Zeb, Zec, Zed, Zee, Zef, Zeg, Zeh, Zei, Zej, Zek, Zel, Zem, Zen, Zeo, Zep, Zeq, Zer, Zes, Zet, Zeu, Zev, Zew, Zex, Zey, Zez, Zfa, Zfb, Zfc, Zfd, Zfe, Zff, Zfg, Zfh, Zfi, Zfj, Zfk, Zfl, Zfm, Zfn, Zfo, Zfp, Zfq, Zfr, Zfs, Zft, Zfu, Zfv, Zfw, Zfx, Zfy, Zfz, Zga, Zgb, Zgc, Zgd, Zge, Zgf, Zgg, Zgh, Zgi, Zgj, Zgk, Zgl, Zgm, Zgn, Zgo, Zgp, Zgq, Zgr, Zgs, Zgt, Zgu, Zgv, Zgw, Zgx, Zgy, Zgz, Zha, Zhb, Zhc, Zhd, Zhe, Zhf, Zhg, Zhh, Zhi, Zhj, Zhk, if_true, if_false, Bool.false_eq_true, Bool.true_eq_false, decide_eq_true_eq, reduceIte, Int.reduceLT, Int.reduceLE, Nat.reduceAdd, Nat.reduceLeDiff, Nat.reduceMul, Int.reduceNeg, Int.reduceAdd, Int.reduceMul, Int.reduceSub, Int.reducePow, Int.reduceToNat, and_self, and_true, true_and, Zhl, Zhm, Zhn, Zho, Zhp, Zhq, Zhr, Zhs, Zht, Zhu, Zhv, Zhw, Zhx, Zhy, Zhz, Zia, Zib, Zic, Zid, Zie, Zif, Zig, Zih, Zii, Zij, Zik, Zil, Zim, Zin, Zio, Ziq, Zir, Zis, Zit, Ziu, Ziv, Ziw, Zix, Int.reduceBEq]
    rw [mixO, if_pos e]
  · simp only [Za, Zb, Zd, Ze, Zf, Zg, Zh, Zi, Zj, Zk, Zl, Zm, Zn, Zo, Zp, Zq, Zr, Zs, Zt, Zu, Zv, Zw, Zx, Zy, Zz, Zaa, Zab, Zac, Zad, Zae, Zaf, Zag, Zah, Zai, Zaj, Zak, Zal, Zam, Zan, Zao, Zap, Zaq, Zar, Zas, Zat, Zau, Zav, Zaw, Zax, Zay, Zaz, Zba, Zbb, Zbc, Zbd, Zbe, Zbf, Zbg, Zbh, Zbi, Zbj, Zbk, Zbl, Zbm, Zbn, Zbo, Zbp, Zbq, Zbr, Zbs, Zbt, Zbu, Zbv, Zbw, Zbx, Zby, Zbz, Zca, Zcb, Zcc, Zcd, Zce, Zcf, Zcg, Zch, Zci, Zcj, Zck, Zcl, Zcm, Zcn, Zco, Zcp, Zcq, Zcr, Zcs, Zct, Zcu, Zcv, Zcw, Zcx, Zcy, Zcz, Zda, Zdb, Zdc, Zdd, Zde, Zdf, Zdg, Zdh, Zdi, Zdj, Zdk, Zdl, Zdm, Zdn, Zdo, Zdp, Zdq, Zdr, Zds, Zdt, Zdu, Zdv, Zdw, Int.toNat_natCast, Int.natCast_nonneg, Zdx, Zdy, Zdz, Zea, Zeb, Zec, Zed, Zee, Zef, Zeg, Zeh, Zei, Zej, Zek, Zel, Zem, Zen, Zeo, Zep, Zeq, Zer, Zes, Zet, Zeu, Zev, Zew, Zex, Zey, Zez, Zfa, Zfb, Zfc, Zfd, Zfe, Zff, Zfg, Zfh, Zfi, Zfj, Zfk, Zfl, Zfm, Zfn, Zfo, Zfp, Zfq, Zfr, Zfs, Zft, Zfu, Zfv, Zfw, Zfx, Zfy, Zfz, Zga, Zgb, Zgc, Zgd, Zge, Zgf, Zgg, Zgh, Zgi, Zgj, Zgk, Zgl, Zgm, Zgn, Zgo, Zgp, Zgq, Zgr, Zgs, Zgt, Zgu, Zgv, Zgw, Zgx, Zgy, Zgz, Zha, Zhb, Zhc, Zhd, Zhe, Zhf, Zhg, Zhh, Zhi, Zhj, Zhk, if_true, if_false, Bool.false_eq_true, Bool.true_eq_false, decide_eq_true_eq, reduceIte, Int.reduceLT, Int.reduceLE, Nat.reduceAdd, Nat.reduceLeDiff, Nat.reduceMul, Int.reduceNeg, Int.reduceAdd, Int.reduceMul, Int.reduceSub, Int.reducePow, Int.reduceToNat, and_self, and_true, true_and, Zhl, Zhm, Zhn, Zho, Zhp, Zhq, Zhr, Zhs, Zht, Zhu, Zhv, Zhw, Zhx, Zhy, Zhz, Zia, Zib, Zic, Zid, Zie, Zif, Zig, Zih, Zii, Zij, Zik, Zil, Zim, Zin, Zio, Ziq, Zir, Zis, Zit, Ziu, Ziv, Ziw, Zix, Int.reduceBEq]
    rw [mixO, if_neg (by rw [e]; decide)]
    rfl
end Ps
end
section
set_option maxHeartbeats 1000000
/-! B_OldHall: the halls of laws k01 to k14. -/
namespace Ps
def c__law_letters : CS := (.seq (.asg (.nm 1) (.cst (.str txAZ))) (.ret (.lst (.cons (.ix (.var 1) (.bin .mod (.bin .fdiv (.var 0) (.cst (.int 100))) (.cst (.int 26)))) (.cons (.ix (.var 1) (.bin .mod (.bin .fdiv (.var 0) (.cst (.int 2600))) (.cst (.int 26)))) .nil)))))
def f__law_letters : Fn := ⟨1, 2, c__law_letters, []⟩
def c__law_hall_B1 : CS := (.seq (.cond (.bin .eq (.bin .mod (.var 9) (.var 5)) (.cst (.int 0))) (.app 8 (.cst (.str []))) .skip) (.seq (.asg (.nm 10) (.ix (.var 6) (.bin .mod (.call "_law_mixed" (.cons (.call "_law_cell_at" (.cons (.var 0) (.cons (.var 9) .nil))) (.cons (.var 9) .nil))) (.cst (.int 8))))) (.seq (.cond (.bin .eq (.bin .mod (.bin .fdiv (.var 1) (.cst (.int 67600))) (.cst (.int 2))) (.cst (.int 1))) (.seq (.asg (.nm 10) (.ix (.cst (.str txSigns)) (.bin .mod (.var 7) (.cst (.int 29))))) (.asg (.nm 7) (.bin .fdiv (.var 7) (.cst (.int 29))))) .skip) (.put 8 (.neg (.cst (.int 1))) (.bin .add (.ix (.var 8) (.neg (.cst (.int 1)))) (.var 10))))))
def c__law_hall_L1 : CS := (.loop (.nm 9) (.rng1 (.bin .mul (.var 4) (.var 5))) c__law_hall_B1)
def c__law_hall : CS := (.seq (.asg (.nm 4) (.bin .add (.cst (.int 1)) (.bin .mod (.var 1) (.var 2)))) (.seq (.asg (.nm 5) (.bin .add (.cst (.int 1)) (.bin .mod (.bin .fdiv (.var 1) (.cst (.int 8))) (.var 3)))) (.seq (.asg (.nm 6) (.bin .add (.bin .add (.lst (.cons (.cst (.str [46])) (.cons (.cst (.str [46])) (.cons (.cst (.str [61])) (.cons (.cst (.str [46])) .nil))))) (.call "_law_letters" (.cons (.var 1) .nil))) (.lst (.cons (.cst (.str [35])) (.cons (.cst (.str [46])) .nil))))) (.seq (.asg (.nm 7) (.call "_law_cell_at" (.cons (.var 0) (.cons (.cst (.int 0)) .nil)))) (.seq (.asg (.nm 8) (.lst .nil)) (.seq c__law_hall_L1 (.ret (.blt .tuple (.cons (.var 8) .nil)))))))))
def f__law_hall : Fn := ⟨4, 11, c__law_hall, []⟩
theorem letters_old {P : Prog} [Has P "_law_letters" f__law_letters] (m : Nat) (c : Int) : run P (m + 1) "_law_letters" [.int c] = .ok (.lst [.str [azS (c / 100)], .str [azS (c / 2600)]]) := by
  refine run_eq (Has.eq (f := f__law_letters)) m _ [some (.int c), none] _ rfl rfl ?_
  unfold f__law_letters c__law_letters
  simp only [Za, Zb, Zd, Ze, Zf, Zg, Zh, Zi, Zj, Zk, Zl, Zm, Zn, Zo, Zp, Zq, Zr, Zs, Zt, Zu, Zv, Zw, Zx, Zy, Zz, Zaa, Zab, Zac, Zad, Zae, Zaf, Zag, Zah, Zai, Zaj, Zak, Zal, Zam, Zan, Zao, Zap, Zaq, Zar, Zas, Zat, Zau, Zav, Zaw, Zax, Zay, Zaz, Zba, Zbb, Zbc, Zbd, Zbe, Zbf, Zbg, Zbh, Zbi, Zbj, Zbk, Zbl, Zbm, Zbn, Zbo, Zbp, Zbq, Zbr, Zbs, Zbt, Zbu, Zbv, Zbw, Zbx, Zby, Zbz, Zca, Zcb, Zcc, Zcd, Zce, Zcf, Zcg, Zch, Zci, Zcj, Zck, Zcl, Zcm, Zcn, Zco, Zcp, Zcq, Zcr, Zcs, Zct, Zcu, Zcv, Zcw, Zcx, Zcy, Zcz, Zda, Zdb, Zdc, Zdd, Zde, Zdf, Zdg, Zdh, Zdi, Zdj, Zdk, Zdl, Zdm, Zdn, Zdo, Zdp, Zdq, Zdr, Zds, Zdt, Zdu, Zdv, Zdw, Int.toNat_natCast, Int.natCast_nonneg, Zdx, Zdy, Zdz, Zea, Zeb, Zec, Zed, Zee, Zef, Zeg, Zeh, Zei, Zej, Zek, Zel, Zem, Zen, Zeo, Zep, Zeq, Zer, Zes, Zet, Zeu, Zev, Zew, Zex, Zey, Zez, Zfa, Zfb, Zfc, Zfd, Zfe, Zff, Zfg, Zfh, Zfi, Zfj, Zfk, Zfl, Zfm, Zfn, Zfo, Zfp, Zfq, Zfr, Zfs, Zft, Zfu, Zfv, Zfw, Zfx, Zfy, Zfz, Zga, Zgb, Zgc, Zgd, Zge, Zgf, Zgg, Zgh, Zgi, Zgj, Zgk, Zgl, Zgm, Zgn, Zgo, Zgp, Zgq, Zgr, Zgs, Zgt, Zgu, Zgv, Zgw, Zgx, Zgy, Zgz, Zha, Zhb, Zhc, Zhd, Zhe, Zhf, Zhg, Zhh, Zhi, Zhj, Zhk, if_true, if_false, Bool.false_eq_true, Bool.true_eq_false, decide_eq_true_eq, reduceIte, Int.reduceLT, Int.reduceLE, Nat.reduceAdd, Nat.reduceLeDiff, Nat.reduceMul, Int.reduceNeg, Int.reduceAdd, Int.reduceMul, Int.reduceSub, Int.reducePow, Int.reduceToNat, and_self, and_true, true_and, Zhl, Zhm, Zhn, Zho, Zhp, Zhq, Zhr, Zhs, Zht, Zhu, Zhv, Zhw, Zhx, Zhy, Zhz, Zia, Zib, Zic, Zid, Zie, Zif, Zig, Zih, Zii, Zij, Zik, Zil, Zim, Zin, Zio, Ziq, Zir, Zis, Zit, Ziu, Ziv, Ziw, Zix, Int.reduceBEq, azS_at]
structure Rows (C k : Nat) (init : List (List Nat)) (last : List Nat) : Prop where
  k : k = init.length * C + last.length
  lt : last.length < C
  rows : ∀ l ∈ init, l.length = C ∧ ∀ c ∈ l, c ∈ txSigns
  last : ∀ c ∈ last, c ∈ txSigns
def encR (init : List (List Nat)) (last : List Nat) : List D := (init ++ (if last = [] then [] else [last])).map D.str
theorem Rows.step {C k : Nat} {init : List (List Nat)} {last : List Nat} (h : Rows C k init last) (c : Nat) (hc : c ∈ txSigns) : ∃ init' last', Rows C (k + 1) init' last' ∧ encR init' last' = init.map D.str ++ [D.str (last ++ [c])] := by
  have hk := h.k
  have hlt := h.lt
  have hl : ∀ d ∈ last ++ [c], d ∈ txSigns := by
    intro d hd
    rcases List.mem_append.1 hd with hd | hd
    · exact h.last d hd
    · rw [List.mem_singleton.1 hd]; exact hc
  by_cases e : last.length + 1 = C
  · refine ⟨init ++ [last ++ [c]], [], ⟨?_, by simp; omega, fun l hm => ?_, by simp⟩, by simp [encR]⟩
    · simp only [List.length_append, List.length_singleton, List.length_nil, Nat.add_mul]
      omega
    · rcases List.mem_append.1 hm with hm | hm
      · exact h.rows l hm
      · rw [List.mem_singleton.1 hm]
        exact ⟨by simp; omega, hl⟩
  · refine ⟨init, last ++ [c], ⟨by simp; omega, by simp; omega, h.rows, hl⟩, by simp [encR]⟩
theorem atD_neg1 (xs : List D) (x : D) : atP (xs ++ [x]) (-1) = some x := by
  have e : ixP (xs ++ [x]).length (-1) = some xs.length := by
    unfold ixP
    simp
    omega
  unfold atP
  rw [e]
  simp
theorem put_neg1 (xs : List D) (x y : D) : putR (.lst (xs ++ [x])) (.int (-1)) y = .ok (.lst (xs ++ [y])) := by
  have e : ixP (xs ++ [x]).length (-1) = some xs.length := by
    unfold ixP
    simp
    omega
  rw [putR_ok e]
  simp
theorem hall_old {P : Prog} [Has P "_law_cell_at" f__law_cell_at] [Has P "_law_letters" f__law_letters] [Has P "_law_mixed" f__law_mixed] [Has P "_law_hall" f__law_hall] (m : Nat) (cs : List Int) (hd : Int) : ∃ h, HallOk h ∧ run P (m + 2) "_law_hall" [.lst (cs.map .int), .int hd, .int 6, .int 12] = .ok (encH h) := by
  suffices ∃ d, run P (m + 2) "_law_hall" [.lst (cs.map .int), .int hd, .int 6, .int 12] = .ok d ∧ ∃ h, HallOk h ∧ d = encH h by
    obtain ⟨d, e, h, h1, h2⟩ := this
    exact ⟨h, h1, by rw [e, h2]⟩
  refine run_sat (Has.eq (f := f__law_hall)) (m + 1) _ [some (.lst (cs.map .int)), some (.int hd), some (.int 6), some (.int 12), none, none, none, none, none, none, none] _ rfl rfl ?_
  obtain ⟨R, eR, R1, R6⟩ := modN1 (z := hd) (n := 6) (by decide)
  obtain ⟨C, eC, C1, C12⟩ := modN1 (z := hd / 8) (n := 12) (by decide)
  have bR : Bd (R : Int) 3 := ⟨by omega⟩
  have bC : Bd (C : Int) 4 := ⟨by omega⟩
  have hC : (0 : Int) < (C : Int) := by omega
  have eRC : (R : Int) * (C : Int) = ((R * C : Nat) : Int) := by simp
  have hRC : R * C ≤ 72 := Nat.le_trans (Nat.mul_le_mul (show R ≤ 6 by omega) (show C ≤ 12 by omega)) (by decide)
  have l62 : ((R * C : Nat) : Int) < 4611686018427387904 := by omega
  unfold f__law_hall c__law_hall
  simp only [Za, Zb, Zd, Ze, Zf, Zg, Zh, Zi, Zj, Zk, Zl, Zm, Zn, Zo, Zp, Zq, Zr, Zs, Zt, Zu, Zv, Zw, Zx, Zy, Zz, Zaa, Zab, Zac, Zad, Zae, Zaf, Zag, Zah, Zai, Zaj, Zak, Zal, Zam, Zan, Zao, Zap, Zaq, Zar, Zas, Zat, Zau, Zav, Zaw, Zax, Zay, Zaz, Zba, Zbb, Zbc, Zbd, Zbe, Zbf, Zbg, Zbh, Zbi, Zbj, Zbk, Zbl, Zbm, Zbn, Zbo, Zbp, Zbq, Zbr, Zbs, Zbt, Zbu, Zbv, Zbw, Zbx, Zby, Zbz, Zca, Zcb, Zcc, Zcd, Zce, Zcf, Zcg, Zch, Zci, Zcj, Zck, Zcl, Zcm, Zcn, Zco, Zcp, Zcq, Zcr, Zcs, Zct, Zcu, Zcv, Zcw, Zcx, Zcy, Zcz, Zda, Zdb, Zdc, Zdd, Zde, Zdf, Zdg, Zdh, Zdi, Zdj, Zdk, Zdl, Zdm, Zdn, Zdo, Zdp, Zdq, Zdr, Zds, Zdt, Zdu, Zdv, Zdw, Int.toNat_natCast, Int.natCast_nonneg, Zdx, Zdy, Zdz, Zea, Zeb, Zec, Zed, Zee, Zef, Zeg, Zeh, Zei, Zej, Zek, Zel, Zem, Zen, Zeo, Zep, Zeq, Zer, Zes, Zet, Zeu, Zev, Zew, Zex, Zey, Zez, Zfa, Zfb, Zfc, Zfd, Zfe, Zff, Zfg, Zfh, Zfi, Zfj, Zfk, Zfl, Zfm, Zfn, Zfo, Zfp, Zfq, Zfr, Zfs, Zft, Zfu, Zfv, Zfw, Zfx, Zfy, Zfz, Zga, Zgb, Zgc, Zgd, Zge, Zgf, Zgg, Zgh, Zgi, Zgj, Zgk, Zgl, Zgm, Zgn, Zgo, Zgp, Zgq, Zgr, Zgs, Zgt, Zgu, Zgv, Zgw, Zgx, Zgy, Zgz, Zha, Zhb, Zhc, Zhd, Zhe, Zhf, Zhg, Zhh, Zhi, Zhj, Zhk, if_true, if_false, Bool.false_eq_true, Bool.true_eq_false, decide_eq_true_eq, reduceIte, Int.reduceLT, Int.reduceLE, Nat.reduceAdd, Nat.reduceLeDiff, Nat.reduceMul, Int.reduceNeg, Int.reduceAdd, Int.reduceMul, Int.reduceSub, Int.reducePow, Int.reduceToNat, and_self, and_true, true_and, Zhl, Zhm, Zhn, Zho, Zhp, Zhq, Zhr, Zhs, Zht, Zhu, Zhv, Zhw, Zhx, Zhy, Zhz, Zia, Zib, Zic, Zid, Zie, Zif, Zig, Zih, Zii, Zij, Zik, Zil, Zim, Zin, Zio, Ziq, Zir, Zis, Zit, Ziu, Ziv, Ziw, Zix, Int.reduceBEq, eR, eC, letters_old, cell_run]
  rw [b_addlI _ _ (le_SZ (by simp))]
  simp only [Za, Zb, Zd, Ze, Zf, Zg, Zh, Zi, Zj, Zk, Zl, Zm, Zn, Zo, Zp, Zq, Zr, Zs, Zt, Zu, Zv, Zw, Zx, Zy, Zz, Zaa, Zab, Zac, Zad, Zae, Zaf, Zag, Zah, Zai, Zaj, Zak, Zal, Zam, Zan, Zao, Zap, Zaq, Zar, Zas, Zat, Zau, Zav, Zaw, Zax, Zay, Zaz, Zba, Zbb, Zbc, Zbd, Zbe, Zbf, Zbg, Zbh, Zbi, Zbj, Zbk, Zbl, Zbm, Zbn, Zbo, Zbp, Zbq, Zbr, Zbs, Zbt, Zbu, Zbv, Zbw, Zbx, Zby, Zbz, Zca, Zcb, Zcc, Zcd, Zce, Zcf, Zcg, Zch, Zci, Zcj, Zck, Zcl, Zcm, Zcn, Zco, Zcp, Zcq, Zcr, Zcs, Zct, Zcu, Zcv, Zcw, Zcx, Zcy, Zcz, Zda, Zdb, Zdc, Zdd, Zde, Zdf, Zdg, Zdh, Zdi, Zdj, Zdk, Zdl, Zdm, Zdn, Zdo, Zdp, Zdq, Zdr, Zds, Zdt, Zdu, Zdv, Zdw, Int.toNat_natCast, Int.natCast_nonneg, Zdx, Zdy, Zdz, Zea, Zeb, Zec, Zed, Zee, Zef, Zeg, Zeh, Zei, Zej, Zek, Zel, Zem, Zen, Zeo, Zep, Zeq, Zer, Zes, Zet, Zeu, Zev, Zew, Zex, Zey, Zez, Zfa, Zfb, Zfc, Zfd, Zfe, Zff, Zfg, Zfh, Zfi, Zfj, Zfk, Zfl, Zfm, Zfn, Zfo, Zfp, Zfq, Zfr, Zfs, Zft, Zfu, Zfv, Zfw, Zfx, Zfy, Zfz, Zga, Zgb, Zgc, Zgd, Zge, Zgf, Zgg, Zgh, Zgi, Zgj, Zgk, Zgl, Zgm, Zgn, Zgo, Zgp, Zgq, Zgr, Zgs, Zgt, Zgu, Zgv, Zgw, Zgx, Zgy, Zgz, Zha, Zhb, Zhc, Zhd, Zhe, Zhf, Zhg, Zhh, Zhi, Zhj, Zhk, if_true, if_false, Bool.false_eq_true, Bool.true_eq_false, decide_eq_true_eq, reduceIte, Int.reduceLT, Int.reduceLE, Nat.reduceAdd, Nat.reduceLeDiff, Nat.reduceMul, Int.reduceNeg, Int.reduceAdd, Int.reduceMul, Int.reduceSub, Int.reducePow, Int.reduceToNat, and_self, and_true, true_and, Zhl, Zhm, Zhn, Zho, Zhp, Zhq, Zhr, Zhs, Zht, Zhu, Zhv, Zhw, Zhx, Zhy, Zhz, Zia, Zib, Zic, Zid, Zie, Zif, Zig, Zih, Zii, Zij, Zik, Zil, Zim, Zin, Zio, Ziq, Zir, Zis, Zit, Ziu, Ziv, Ziw, Zix, Int.reduceBEq]
  rw [b_addlI _ _ (le_SZ (by simp))]
  simp only [Za, Zb, Zd, Ze, Zf, Zg, Zh, Zi, Zj, Zk, Zl, Zm, Zn, Zo, Zp, Zq, Zr, Zs, Zt, Zu, Zv, Zw, Zx, Zy, Zz, Zaa, Zab, Zac, Zad, Zae, Zaf, Zag, Zah, Zai, Zaj, Zak, Zal, Zam, Zan, Zao, Zap, Zaq, Zar, Zas, Zat, Zau, Zav, Zaw, Zax, Zay, Zaz, Zba, Zbb, Zbc, Zbd, Zbe, Zbf, Zbg, Zbh, Zbi, Zbj, Zbk, Zbl, Zbm, Zbn, Zbo, Zbp, Zbq, Zbr, Zbs, Zbt, Zbu, Zbv, Zbw, Zbx, Zby, Zbz, Zca, Zcb, Zcc, Zcd, Zce, Zcf, Zcg, Zch, Zci, Zcj, Zck, Zcl, Zcm, Zcn, Zco, Zcp, Zcq, Zcr, Zcs, Zct, Zcu, Zcv, Zcw, Zcx, Zcy, Zcz, Zda, Zdb, Zdc, Zdd, Zde, Zdf, Zdg, Zdh, Zdi, Zdj, Zdk, Zdl, Zdm, Zdn, Zdo, Zdp, Zdq, Zdr, Zds, Zdt, Zdu, Zdv, Zdw, Int.toNat_natCast, Int.natCast_nonneg, Zdx, Zdy, Zdz, Zea, Zeb, Zec, Zed, Zee, Zef, Zeg, Zeh, Zei, Zej, Zek, Zel, Zem, Zen, Zeo, Zep, Zeq, Zer, Zes, Zet, Zeu, Zev, Zew, Zex, Zey, Zez, Zfa, Zfb, Zfc, Zfd, Zfe, Zff, Zfg, Zfh, Zfi, Zfj, Zfk, Zfl, Zfm, Zfn, Zfo, Zfp, Zfq, Zfr, Zfs, Zft, Zfu, Zfv, Zfw, Zfx, Zfy, Zfz, Zga, Zgb, Zgc, Zgd, Zge, Zgf, Zgg, Zgh, Zgi, Zgj, Zgk, Zgl, Zgm, Zgn, Zgo, Zgp, Zgq, Zgr, Zgs, Zgt, Zgu, Zgv, Zgw, Zgx, Zgy, Zgz, Zha, Zhb, Zhc, Zhd, Zhe, Zhf, Zhg, Zhh, Zhi, Zhj, Zhk, if_true, if_false, Bool.false_eq_true, Bool.true_eq_false, decide_eq_true_eq, reduceIte, Int.reduceLT, Int.reduceLE, Nat.reduceAdd, Nat.reduceLeDiff, Nat.reduceMul, Int.reduceNeg, Int.reduceAdd, Int.reduceMul, Int.reduceSub, Int.reducePow, Int.reduceToNat, and_self, and_true, true_and, Zhl, Zhm, Zhn, Zho, Zhp, Zhq, Zhr, Zhs, Zht, Zhu, Zhv, Zhw, Zhx, Zhy, Zhz, Zia, Zib, Zic, Zid, Zie, Zif, Zig, Zih, Zii, Zij, Zik, Zil, Zim, Zin, Zio, Ziq, Zir, Zis, Zit, Ziu, Ziv, Ziw, Zix, Int.reduceBEq, cell_run]
  unfold c__law_hall_L1
  simp only [Za, Zb, Zd, Ze, Zf, Zg, Zh, Zi, Zj, Zk, Zl, Zm, Zn, Zo, Zp, Zq, Zr, Zs, Zt, Zu, Zv, Zw, Zx, Zy, Zz, Zaa, Zab, Zac, Zad, Zae, Zaf, Zag, Zah, Zai, Zaj, Zak, Zal, Zam, Zan, Zao, Zap, Zaq, Zar, Zas, Zat, Zau, Zav, Zaw, Zax, Zay, Zaz, Zba, Zbb, Zbc, Zbd, Zbe, Zbf, Zbg, Zbh, Zbi, Zbj, Zbk, Zbl, Zbm, Zbn, Zbo, Zbp, Zbq, Zbr, Zbs, Zbt, Zbu, Zbv, Zbw, Zbx, Zby, Zbz, Zca, Zcb, Zcc, Zcd, Zce, Zcf, Zcg, Zch, Zci, Zcj, Zck, Zcl, Zcm, Zcn, Zco, Zcp, Zcq, Zcr, Zcs, Zct, Zcu, Zcv, Zcw, Zcx, Zcy, Zcz, Zda, Zdb, Zdc, Zdd, Zde, Zdf, Zdg, Zdh, Zdi, Zdj, Zdk, Zdl, Zdm, Zdn, Zdo, Zdp, Zdq, Zdr, Zds, Zdt, Zdu, Zdv, Zdw, Int.toNat_natCast, Int.natCast_nonneg, Zdx, Zdy, Zdz, Zea, Zeb, Zec, Zed, Zee, Zef, Zeg, Zeh, Zei, Zej, Zek, Zel, Zem, Zen, Zeo, Zep, Zeq, Zer, Zes, Zet, Zeu, Zev, Zew, Zex, Zey, Zez, Zfa, Zfb, Zfc, Zfd, Zfe, Zff, Zfg, Zfh, Zfi, Zfj, Zfk, Zfl, Zfm, Zfn, Zfo, Zfp, Zfq, Zfr, Zfs, Zft, Zfu, Zfv, Zfw, Zfx, Zfy, Zfz, Zga, Zgb, Zgc, Zgd, Zge, Zgf, Zgg, Zgh, Zgi, Zgj, Zgk, Zgl, Zgm, Zgn, Zgo, Zgp, Zgq, Zgr, Zgs, Zgt, Zgu, Zgv, Zgw, Zgx, Zgy, Zgz, Zha, Zhb, Zhc, Zhd, Zhe, Zhf, Zhg, Zhh, Zhi, Zhj, Zhk, if_true, if_false, Bool.false_eq_true, Bool.true_eq_false, decide_eq_true_eq, reduceIte, Int.reduceLT, Int.reduceLE, Nat.reduceAdd, Nat.reduceLeDiff, Nat.reduceMul, Int.reduceNeg, Int.reduceAdd, Int.reduceMul, Int.reduceSub, Int.reducePow, Int.reduceToNat, and_self, and_true, true_and, Zhl, Zhm, Zhn, Zho, Zhp, Zhq, Zhr, Zhs, Zht, Zhu, Zhv, Zhw, Zhx, Zhy, Zhz, Zia, Zib, Zic, Zid, Zie, Zif, Zig, Zih, Zii, Zij, Zik, Zil, Zim, Zin, Zio, Ziq, Zir, Zis, Zit, Ziu, Ziv, Ziw, Zix, Int.reduceBEq, eRC, l62]
  generalize cellS cs 0 = lf
  refine FK_rng (fun k ρ => ∃ init last lf u9 u10, Rows C k init last ∧ ρ = [some (.lst (cs.map .int)), some (.int hd), some (.int 6), some (.int 12), some (.int (R : Int)), some (.int (C : Int)), some (.lst ([.str [46], .str [46], .str [61], .str [46]] ++ [.str [azS (hd / 100)], .str [azS (hd / 2600)]] ++ [.str [35], .str [46]])), some (.int lf), some (.lst (encR init last)), u9, u10]) ⟨[], [], _, _, _, ⟨by simp, by simp; omega, by simp, by simp⟩, rfl⟩ ?_ ?_
  · rintro k ρ hk ⟨init, last, lf, u9, u10, hr, rfl⟩
    have hk2 := hr.k
    have hlt := hr.lt
    have q0 : (0 : Int) ≤ (k : Int) := by omega
    have bk : Bd (k : Int) 7 := ⟨by omega⟩
    have ek : (k : Int) % (C : Int) = (last.length : Int) := by
      rw [hk2, ← Int.natCast_emod, Nat.mul_comm, Nat.mul_add_mod, Nat.mod_eq_of_lt hlt]
    have bl : init.length ≤ 72 := by
      refine Nat.le_trans (Nat.le_mul_of_pos_right _ (by omega : 0 < C)) ?_
      omega
    have smem : ∀ x ∈ [D.str [46], .str [46], .str [61], .str [46]] ++ [.str [azS (hd / 100)], .str [azS (hd / 2600)]] ++ [.str [35], .str [46]], ∃ c ∈ txSigns, x = .str [c] := by
      intro x hx
      simp only [List.mem_append, List.mem_cons, List.not_mem_nil, or_false] at hx
      have m1 : (46 : Nat) ∈ txSigns := by decide +kernel
      have m2 : (61 : Nat) ∈ txSigns := by decide +kernel
      have m3 : (35 : Nat) ∈ txSigns := by decide +kernel
      have m4 := az_signs _ (azS_mem (hd / 100))
      have m5 := az_signs _ (azS_mem (hd / 2600))
      rcases hx with ((rfl | rfl | rfl | rfl) | rfl | rfl) | rfl | rfl
      all_goals first | exact ⟨_, m1, rfl⟩ | exact ⟨_, m2, rfl⟩ | exact ⟨_, m3, rfl⟩ | exact ⟨_, m4, rfl⟩ | exact ⟨_, m5, rfl⟩
    unfold c__law_hall_B1
    simp only [Za, Zb, Zd, Ze, Zf, Zg, Zh, Zi, Zj, Zk, Zl, Zm, Zn, Zo, Zp, Zq, Zr, Zs, Zt, Zu, Zv, Zw, Zx, Zy, Zz, Zaa, Zab, Zac, Zad, Zae, Zaf, Zag, Zah, Zai, Zaj, Zak, Zal, Zam, Zan, Zao, Zap, Zaq, Zar, Zas, Zat, Zau, Zav, Zaw, Zax, Zay, Zaz, Zba, Zbb, Zbc, Zbd, Zbe, Zbf, Zbg, Zbh, Zbi, Zbj, Zbk, Zbl, Zbm, Zbn, Zbo, Zbp, Zbq, Zbr, Zbs, Zbt, Zbu, Zbv, Zbw, Zbx, Zby, Zbz, Zca, Zcb, Zcc, Zcd, Zce, Zcf, Zcg, Zch, Zci, Zcj, Zck, Zcl, Zcm, Zcn, Zco, Zcp, Zcq, Zcr, Zcs, Zct, Zcu, Zcv, Zcw, Zcx, Zcy, Zcz, Zda, Zdb, Zdc, Zdd, Zde, Zdf, Zdg, Zdh, Zdi, Zdj, Zdk, Zdl, Zdm, Zdn, Zdo, Zdp, Zdq, Zdr, Zds, Zdt, Zdu, Zdv, Zdw, Int.toNat_natCast, Int.natCast_nonneg, Zdx, Zdy, Zdz, Zea, Zeb, Zec, Zed, Zee, Zef, Zeg, Zeh, Zei, Zej, Zek, Zel, Zem, Zen, Zeo, Zep, Zeq, Zer, Zes, Zet, Zeu, Zev, Zew, Zex, Zey, Zez, Zfa, Zfb, Zfc, Zfd, Zfe, Zff, Zfg, Zfh, Zfi, Zfj, Zfk, Zfl, Zfm, Zfn, Zfo, Zfp, Zfq, Zfr, Zfs, Zft, Zfu, Zfv, Zfw, Zfx, Zfy, Zfz, Zga, Zgb, Zgc, Zgd, Zge, Zgf, Zgg, Zgh, Zgi, Zgj, Zgk, Zgl, Zgm, Zgn, Zgo, Zgp, Zgq, Zgr, Zgs, Zgt, Zgu, Zgv, Zgw, Zgx, Zgy, Zgz, Zha, Zhb, Zhc, Zhd, Zhe, Zhf, Zhg, Zhh, Zhi, Zhj, Zhk, if_true, if_false, Bool.false_eq_true, Bool.true_eq_false, decide_eq_true_eq, reduceIte, Int.reduceLT, Int.reduceLE, Nat.reduceAdd, Nat.reduceLeDiff, Nat.reduceMul, Int.reduceNeg, Int.reduceAdd, Int.reduceMul, Int.reduceSub, Int.reducePow, Int.reduceToNat, and_self, and_true, true_and, Zhl, Zhm, Zhn, Zho, Zhp, Zhq, Zhr, Zhs, Zht, Zhu, Zhv, Zhw, Zhx, Zhy, Zhz, Zia, Zib, Zic, Zid, Zie, Zif, Zig, Zih, Zii, Zij, Zik, Zil, Zim, Zin, Zio, Ziq, Zir, Zis, Zit, Ziu, Ziv, Ziw, Zix, Int.reduceBEq, ek, hC]
    by_cases hl : last = []
    · subst hl
      have e0 : encR init [] = init.map D.str := by simp [encR]
      simp only [Za, Zb, Zd, Ze, Zf, Zg, Zh, Zi, Zj, Zk, Zl, Zm, Zn, Zo, Zp, Zq, Zr, Zs, Zt, Zu, Zv, Zw, Zx, Zy, Zz, Zaa, Zab, Zac, Zad, Zae, Zaf, Zag, Zah, Zai, Zaj, Zak, Zal, Zam, Zan, Zao, Zap, Zaq, Zar, Zas, Zat, Zau, Zav, Zaw, Zax, Zay, Zaz, Zba, Zbb, Zbc, Zbd, Zbe, Zbf, Zbg, Zbh, Zbi, Zbj, Zbk, Zbl, Zbm, Zbn, Zbo, Zbp, Zbq, Zbr, Zbs, Zbt, Zbu, Zbv, Zbw, Zbx, Zby, Zbz, Zca, Zcb, Zcc, Zcd, Zce, Zcf, Zcg, Zch, Zci, Zcj, Zck, Zcl, Zcm, Zcn, Zco, Zcp, Zcq, Zcr, Zcs, Zct, Zcu, Zcv, Zcw, Zcx, Zcy, Zcz, Zda, Zdb, Zdc, Zdd, Zde, Zdf, Zdg, Zdh, Zdi, Zdj, Zdk, Zdl, Zdm, Zdn, Zdo, Zdp, Zdq, Zdr, Zds, Zdt, Zdu, Zdv, Zdw, Int.toNat_natCast, Int.natCast_nonneg, Zdx, Zdy, Zdz, Zea, Zeb, Zec, Zed, Zee, Zef, Zeg, Zeh, Zei, Zej, Zek, Zel, Zem, Zen, Zeo, Zep, Zeq, Zer, Zes, Zet, Zeu, Zev, Zew, Zex, Zey, Zez, Zfa, Zfb, Zfc, Zfd, Zfe, Zff, Zfg, Zfh, Zfi, Zfj, Zfk, Zfl, Zfm, Zfn, Zfo, Zfp, Zfq, Zfr, Zfs, Zft, Zfu, Zfv, Zfw, Zfx, Zfy, Zfz, Zga, Zgb, Zgc, Zgd, Zge, Zgf, Zgg, Zgh, Zgi, Zgj, Zgk, Zgl, Zgm, Zgn, Zgo, Zgp, Zgq, Zgr, Zgs, Zgt, Zgu, Zgv, Zgw, Zgx, Zgy, Zgz, Zha, Zhb, Zhc, Zhd, Zhe, Zhf, Zhg, Zhh, Zhi, Zhj, Zhk, if_true, if_false, Bool.false_eq_true, Bool.true_eq_false, decide_eq_true_eq, reduceIte, Int.reduceLT, Int.reduceLE, Nat.reduceAdd, Nat.reduceLeDiff, Nat.reduceMul, Int.reduceNeg, Int.reduceAdd, Int.reduceMul, Int.reduceSub, Int.reducePow, Int.reduceToNat, and_self, and_true, true_and, Zhl, Zhm, Zhn, Zho, Zhp, Zhq, Zhr, Zhs, Zht, Zhu, Zhv, Zhw, Zhx, Zhy, Zhz, Zia, Zib, Zic, Zid, Zie, Zif, Zig, Zih, Zii, Zij, Zik, Zil, Zim, Zin, Zio, Ziq, Zir, Zis, Zit, Ziu, Ziv, Ziw, Zix, Int.reduceBEq, e0, List.length_nil]
      rw [show ((((0 : Nat) : Int)) == 0) = true from rfl]
      simp only [Za, Zb, Zd, Ze, Zf, Zg, Zh, Zi, Zj, Zk, Zl, Zm, Zn, Zo, Zp, Zq, Zr, Zs, Zt, Zu, Zv, Zw, Zx, Zy, Zz, Zaa, Zab, Zac, Zad, Zae, Zaf, Zag, Zah, Zai, Zaj, Zak, Zal, Zam, Zan, Zao, Zap, Zaq, Zar, Zas, Zat, Zau, Zav, Zaw, Zax, Zay, Zaz, Zba, Zbb, Zbc, Zbd, Zbe, Zbf, Zbg, Zbh, Zbi, Zbj, Zbk, Zbl, Zbm, Zbn, Zbo, Zbp, Zbq, Zbr, Zbs, Zbt, Zbu, Zbv, Zbw, Zbx, Zby, Zbz, Zca, Zcb, Zcc, Zcd, Zce, Zcf, Zcg, Zch, Zci, Zcj, Zck, Zcl, Zcm, Zcn, Zco, Zcp, Zcq, Zcr, Zcs, Zct, Zcu, Zcv, Zcw, Zcx, Zcy, Zcz, Zda, Zdb, Zdc, Zdd, Zde, Zdf, Zdg, Zdh, Zdi, Zdj, Zdk, Zdl, Zdm, Zdn, Zdo, Zdp, Zdq, Zdr, Zds, Zdt, Zdu, Zdv, Zdw, Int.toNat_natCast, Int.natCast_nonneg, Zdx, Zdy, Zdz, Zea, Zeb, Zec, Zed, Zee, Zef, Zeg, Zeh, Zei, Zej, Zek, Zel, Zem, Zen, Zeo, Zep, Zeq, Zer, Zes, Zet, Zeu, Zev, Zew, Zex, Zey, Zez, Zfa, Zfb, Zfc, Zfd, Zfe, Zff, Zfg, Zfh, Zfi, Zfj, Zfk, Zfl, Zfm, Zfn, Zfo, Zfp, Zfq, Zfr, Zfs, Zft, Zfu, Zfv, Zfw, Zfx, Zfy, Zfz, Zga, Zgb, Zgc, Zgd, Zge, Zgf, Zgg, Zgh, Zgi, Zgj, Zgk, Zgl, Zgm, Zgn, Zgo, Zgp, Zgq, Zgr, Zgs, Zgt, Zgu, Zgv, Zgw, Zgx, Zgy, Zgz, Zha, Zhb, Zhc, Zhd, Zhe, Zhf, Zhg, Zhh, Zhi, Zhj, Zhk, if_true, if_false, Bool.false_eq_true, Bool.true_eq_false, decide_eq_true_eq, reduceIte, Int.reduceLT, Int.reduceLE, Nat.reduceAdd, Nat.reduceLeDiff, Nat.reduceMul, Int.reduceNeg, Int.reduceAdd, Int.reduceMul, Int.reduceSub, Int.reducePow, Int.reduceToNat, and_self, and_true, true_and, Zhl, Zhm, Zhn, Zho, Zhp, Zhq, Zhr, Zhs, Zht, Zhu, Zhv, Zhw, Zhx, Zhy, Zhz, Zia, Zib, Zic, Zid, Zie, Zif, Zig, Zih, Zii, Zij, Zik, Zil, Zim, Zin, Zio, Ziq, Zir, Zis, Zit, Ziu, Ziv, Ziw, Zix, Int.reduceBEq]
      rw [appR_ok (lt_SZ (by rw [List.length_map]; omega))]
      simp only [Za, Zb, Zd, Ze, Zf, Zg, Zh, Zi, Zj, Zk, Zl, Zm, Zn, Zo, Zp, Zq, Zr, Zs, Zt, Zu, Zv, Zw, Zx, Zy, Zz, Zaa, Zab, Zac, Zad, Zae, Zaf, Zag, Zah, Zai, Zaj, Zak, Zal, Zam, Zan, Zao, Zap, Zaq, Zar, Zas, Zat, Zau, Zav, Zaw, Zax, Zay, Zaz, Zba, Zbb, Zbc, Zbd, Zbe, Zbf, Zbg, Zbh, Zbi, Zbj, Zbk, Zbl, Zbm, Zbn, Zbo, Zbp, Zbq, Zbr, Zbs, Zbt, Zbu, Zbv, Zbw, Zbx, Zby, Zbz, Zca, Zcb, Zcc, Zcd, Zce, Zcf, Zcg, Zch, Zci, Zcj, Zck, Zcl, Zcm, Zcn, Zco, Zcp, Zcq, Zcr, Zcs, Zct, Zcu, Zcv, Zcw, Zcx, Zcy, Zcz, Zda, Zdb, Zdc, Zdd, Zde, Zdf, Zdg, Zdh, Zdi, Zdj, Zdk, Zdl, Zdm, Zdn, Zdo, Zdp, Zdq, Zdr, Zds, Zdt, Zdu, Zdv, Zdw, Int.toNat_natCast, Int.natCast_nonneg, Zdx, Zdy, Zdz, Zea, Zeb, Zec, Zed, Zee, Zef, Zeg, Zeh, Zei, Zej, Zek, Zel, Zem, Zen, Zeo, Zep, Zeq, Zer, Zes, Zet, Zeu, Zev, Zew, Zex, Zey, Zez, Zfa, Zfb, Zfc, Zfd, Zfe, Zff, Zfg, Zfh, Zfi, Zfj, Zfk, Zfl, Zfm, Zfn, Zfo, Zfp, Zfq, Zfr, Zfs, Zft, Zfu, Zfv, Zfw, Zfx, Zfy, Zfz, Zga, Zgb, Zgc, Zgd, Zge, Zgf, Zgg, Zgh, Zgi, Zgj, Zgk, Zgl, Zgm, Zgn, Zgo, Zgp, Zgq, Zgr, Zgs, Zgt, Zgu, Zgv, Zgw, Zgx, Zgy, Zgz, Zha, Zhb, Zhc, Zhd, Zhe, Zhf, Zhg, Zhh, Zhi, Zhj, Zhk, if_true, if_false, Bool.false_eq_true, Bool.true_eq_false, decide_eq_true_eq, reduceIte, Int.reduceLT, Int.reduceLE, Nat.reduceAdd, Nat.reduceLeDiff, Nat.reduceMul, Int.reduceNeg, Int.reduceAdd, Int.reduceMul, Int.reduceSub, Int.reducePow, Int.reduceToNat, and_self, and_true, true_and, Zhl, Zhm, Zhn, Zho, Zhp, Zhq, Zhr, Zhs, Zht, Zhu, Zhv, Zhw, Zhx, Zhy, Zhz, Zia, Zib, Zic, Zid, Zie, Zif, Zig, Zih, Zii, Zij, Zik, Zil, Zim, Zin, Zio, Ziq, Zir, Zis, Zit, Ziu, Ziv, Ziw, Zix, Int.reduceBEq, cell_run, q0, mixO_run]
      obtain ⟨_, ⟨c1, hc1, rfl⟩, ec1⟩ := at_mod (xs := [D.str [46], .str [46], .str [61], .str [46]] ++ [.str [azS (hd / 100)], .str [azS (hd / 2600)]] ++ [.str [35], .str [46]]) (z := mixO (cellS cs (k : Int)) (k : Int)) (n := 8) (by decide) rfl (fun x => ∃ c ∈ txSigns, x = .str [c]) smem
      rw [ec1]
      simp only [Za, Zb, Zd, Ze, Zf, Zg, Zh, Zi, Zj, Zk, Zl, Zm, Zn, Zo, Zp, Zq, Zr, Zs, Zt, Zu, Zv, Zw, Zx, Zy, Zz, Zaa, Zab, Zac, Zad, Zae, Zaf, Zag, Zah, Zai, Zaj, Zak, Zal, Zam, Zan, Zao, Zap, Zaq, Zar, Zas, Zat, Zau, Zav, Zaw, Zax, Zay, Zaz, Zba, Zbb, Zbc, Zbd, Zbe, Zbf, Zbg, Zbh, Zbi, Zbj, Zbk, Zbl, Zbm, Zbn, Zbo, Zbp, Zbq, Zbr, Zbs, Zbt, Zbu, Zbv, Zbw, Zbx, Zby, Zbz, Zca, Zcb, Zcc, Zcd, Zce, Zcf, Zcg, Zch, Zci, Zcj, Zck, Zcl, Zcm, Zcn, Zco, Zcp, Zcq, Zcr, Zcs, Zct, Zcu, Zcv, Zcw, Zcx, Zcy, Zcz, Zda, Zdb, Zdc, Zdd, Zde, Zdf, Zdg, Zdh, Zdi, Zdj, Zdk, Zdl, Zdm, Zdn, Zdo, Zdp, Zdq, Zdr, Zds, Zdt, Zdu, Zdv, Zdw, Int.toNat_natCast, Int.natCast_nonneg, Zdx, Zdy, Zdz, Zea, Zeb, Zec, Zed, Zee, Zef, Zeg, Zeh, Zei, Zej, Zek, Zel, Zem, Zen, Zeo, Zep, Zeq, Zer, Zes, Zet, Zeu, Zev, Zew, Zex, Zey, Zez, Zfa, Zfb, Zfc, Zfd, Zfe, Zff, Zfg, Zfh, Zfi, Zfj, Zfk, Zfl, Zfm, Zfn, Zfo, Zfp, Zfq, Zfr, Zfs, Zft, Zfu, Zfv, Zfw, Zfx, Zfy, Zfz, Zga, Zgb, Zgc, Zgd, Zge, Zgf, Zgg, Zgh, Zgi, Zgj, Zgk, Zgl, Zgm, Zgn, Zgo, Zgp, Zgq, Zgr, Zgs, Zgt, Zgu, Zgv, Zgw, Zgx, Zgy, Zgz, Zha, Zhb, Zhc, Zhd, Zhe, Zhf, Zhg, Zhh, Zhi, Zhj, Zhk, if_true, if_false, Bool.false_eq_true, Bool.true_eq_false, decide_eq_true_eq, reduceIte, Int.reduceLT, Int.reduceLE, Nat.reduceAdd, Nat.reduceLeDiff, Nat.reduceMul, Int.reduceNeg, Int.reduceAdd, Int.reduceMul, Int.reduceSub, Int.reducePow, Int.reduceToNat, and_self, and_true, true_and, Zhl, Zhm, Zhn, Zho, Zhp, Zhq, Zhr, Zhs, Zht, Zhu, Zhv, Zhw, Zhx, Zhy, Zhz, Zia, Zib, Zic, Zid, Zie, Zif, Zig, Zih, Zii, Zij, Zik, Zil, Zim, Zin, Zio, Ziq, Zir, Zis, Zit, Ziu, Ziv, Ziw, Zix, Int.reduceBEq]
      refine IK_by (fun _ => ?_) fun _ => ?_
      · obtain ⟨c2, hc2, ec2⟩ := at_mod (xs := txSigns) (z := lf) (n := 29) (by decide) (by rw [signs_len]; rfl) (fun c => c ∈ txSigns) (fun _ h => h)
        simp only [Za, Zb, Zd, Ze, Zf, Zg, Zh, Zi, Zj, Zk, Zl, Zm, Zn, Zo, Zp, Zq, Zr, Zs, Zt, Zu, Zv, Zw, Zx, Zy, Zz, Zaa, Zab, Zac, Zad, Zae, Zaf, Zag, Zah, Zai, Zaj, Zak, Zal, Zam, Zan, Zao, Zap, Zaq, Zar, Zas, Zat, Zau, Zav, Zaw, Zax, Zay, Zaz, Zba, Zbb, Zbc, Zbd, Zbe, Zbf, Zbg, Zbh, Zbi, Zbj, Zbk, Zbl, Zbm, Zbn, Zbo, Zbp, Zbq, Zbr, Zbs, Zbt, Zbu, Zbv, Zbw, Zbx, Zby, Zbz, Zca, Zcb, Zcc, Zcd, Zce, Zcf, Zcg, Zch, Zci, Zcj, Zck, Zcl, Zcm, Zcn, Zco, Zcp, Zcq, Zcr, Zcs, Zct, Zcu, Zcv, Zcw, Zcx, Zcy, Zcz, Zda, Zdb, Zdc, Zdd, Zde, Zdf, Zdg, Zdh, Zdi, Zdj, Zdk, Zdl, Zdm, Zdn, Zdo, Zdp, Zdq, Zdr, Zds, Zdt, Zdu, Zdv, Zdw, Int.toNat_natCast, Int.natCast_nonneg, Zdx, Zdy, Zdz, Zea, Zeb, Zec, Zed, Zee, Zef, Zeg, Zeh, Zei, Zej, Zek, Zel, Zem, Zen, Zeo, Zep, Zeq, Zer, Zes, Zet, Zeu, Zev, Zew, Zex, Zey, Zez, Zfa, Zfb, Zfc, Zfd, Zfe, Zff, Zfg, Zfh, Zfi, Zfj, Zfk, Zfl, Zfm, Zfn, Zfo, Zfp, Zfq, Zfr, Zfs, Zft, Zfu, Zfv, Zfw, Zfx, Zfy, Zfz, Zga, Zgb, Zgc, Zgd, Zge, Zgf, Zgg, Zgh, Zgi, Zgj, Zgk, Zgl, Zgm, Zgn, Zgo, Zgp, Zgq, Zgr, Zgs, Zgt, Zgu, Zgv, Zgw, Zgx, Zgy, Zgz, Zha, Zhb, Zhc, Zhd, Zhe, Zhf, Zhg, Zhh, Zhi, Zhj, Zhk, if_true, if_false, Bool.false_eq_true, Bool.true_eq_false, decide_eq_true_eq, reduceIte, Int.reduceLT, Int.reduceLE, Nat.reduceAdd, Nat.reduceLeDiff, Nat.reduceMul, Int.reduceNeg, Int.reduceAdd, Int.reduceMul, Int.reduceSub, Int.reducePow, Int.reduceToNat, and_self, and_true, true_and, Zhl, Zhm, Zhn, Zho, Zhp, Zhq, Zhr, Zhs, Zht, Zhu, Zhv, Zhw, Zhx, Zhy, Zhz, Zia, Zib, Zic, Zid, Zie, Zif, Zig, Zih, Zii, Zij, Zik, Zil, Zim, Zin, Zio, Ziq, Zir, Zis, Zit, Ziu, Ziv, Ziw, Zix, Int.reduceBEq, ec2, atD_neg1]
        rw [b_addsI _ _ (le_SZ (by simp <;> omega))]
        simp only [Za, Zb, Zd, Ze, Zf, Zg, Zh, Zi, Zj, Zk, Zl, Zm, Zn, Zo, Zp, Zq, Zr, Zs, Zt, Zu, Zv, Zw, Zx, Zy, Zz, Zaa, Zab, Zac, Zad, Zae, Zaf, Zag, Zah, Zai, Zaj, Zak, Zal, Zam, Zan, Zao, Zap, Zaq, Zar, Zas, Zat, Zau, Zav, Zaw, Zax, Zay, Zaz, Zba, Zbb, Zbc, Zbd, Zbe, Zbf, Zbg, Zbh, Zbi, Zbj, Zbk, Zbl, Zbm, Zbn, Zbo, Zbp, Zbq, Zbr, Zbs, Zbt, Zbu, Zbv, Zbw, Zbx, Zby, Zbz, Zca, Zcb, Zcc, Zcd, Zce, Zcf, Zcg, Zch, Zci, Zcj, Zck, Zcl, Zcm, Zcn, Zco, Zcp, Zcq, Zcr, Zcs, Zct, Zcu, Zcv, Zcw, Zcx, Zcy, Zcz, Zda, Zdb, Zdc, Zdd, Zde, Zdf, Zdg, Zdh, Zdi, Zdj, Zdk, Zdl, Zdm, Zdn, Zdo, Zdp, Zdq, Zdr, Zds, Zdt, Zdu, Zdv, Zdw, Int.toNat_natCast, Int.natCast_nonneg, Zdx, Zdy, Zdz, Zea, Zeb, Zec, Zed, Zee, Zef, Zeg, Zeh, Zei, Zej, Zek, Zel, Zem, Zen, Zeo, Zep, Zeq, Zer, Zes, Zet, Zeu, Zev, Zew, Zex, Zey, Zez, Zfa, Zfb, Zfc, Zfd, Zfe, Zff, Zfg, Zfh, Zfi, Zfj, Zfk, Zfl, Zfm, Zfn, Zfo, Zfp, Zfq, Zfr, Zfs, Zft, Zfu, Zfv, Zfw, Zfx, Zfy, Zfz, Zga, Zgb, Zgc, Zgd, Zge, Zgf, Zgg, Zgh, Zgi, Zgj, Zgk, Zgl, Zgm, Zgn, Zgo, Zgp, Zgq, Zgr, Zgs, Zgt, Zgu, Zgv, Zgw, Zgx, Zgy, Zgz, Zha, Zhb, Zhc, Zhd, Zhe, Zhf, Zhg, Zhh, Zhi, Zhj, Zhk, if_true, if_false, Bool.false_eq_true, Bool.true_eq_false, decide_eq_true_eq, reduceIte, Int.reduceLT, Int.reduceLE, Nat.reduceAdd, Nat.reduceLeDiff, Nat.reduceMul, Int.reduceNeg, Int.reduceAdd, Int.reduceMul, Int.reduceSub, Int.reducePow, Int.reduceToNat, and_self, and_true, true_and, Zhl, Zhm, Zhn, Zho, Zhp, Zhq, Zhr, Zhs, Zht, Zhu, Zhv, Zhw, Zhx, Zhy, Zhz, Zia, Zib, Zic, Zid, Zie, Zif, Zig, Zih, Zii, Zij, Zik, Zil, Zim, Zin, Zio, Ziq, Zir, Zis, Zit, Ziu, Ziv, Ziw, Zix, Int.reduceBEq, put_neg1]
        obtain ⟨init', last', hr', e'⟩ := hr.step c2 hc2
        rw [← e']
        exact ⟨init', last', _, _, _, hr', rfl⟩
      · simp only [Za, Zb, Zd, Ze, Zf, Zg, Zh, Zi, Zj, Zk, Zl, Zm, Zn, Zo, Zp, Zq, Zr, Zs, Zt, Zu, Zv, Zw, Zx, Zy, Zz, Zaa, Zab, Zac, Zad, Zae, Zaf, Zag, Zah, Zai, Zaj, Zak, Zal, Zam, Zan, Zao, Zap, Zaq, Zar, Zas, Zat, Zau, Zav, Zaw, Zax, Zay, Zaz, Zba, Zbb, Zbc, Zbd, Zbe, Zbf, Zbg, Zbh, Zbi, Zbj, Zbk, Zbl, Zbm, Zbn, Zbo, Zbp, Zbq, Zbr, Zbs, Zbt, Zbu, Zbv, Zbw, Zbx, Zby, Zbz, Zca, Zcb, Zcc, Zcd, Zce, Zcf, Zcg, Zch, Zci, Zcj, Zck, Zcl, Zcm, Zcn, Zco, Zcp, Zcq, Zcr, Zcs, Zct, Zcu, Zcv, Zcw, Zcx, Zcy, Zcz, Zda, Zdb, Zdc, Zdd, Zde, Zdf, Zdg, Zdh, Zdi, Zdj, Zdk, Zdl, Zdm, Zdn, Zdo, Zdp, Zdq, Zdr, Zds, Zdt, Zdu, Zdv, Zdw, Int.toNat_natCast, Int.natCast_nonneg, Zdx, Zdy, Zdz, Zea, Zeb, Zec, Zed, Zee, Zef, Zeg, Zeh, Zei, Zej, Zek, Zel, Zem, Zen, Zeo, Zep, Zeq, Zer, Zes, Zet, Zeu, Zev, Zew, Zex, Zey, Zez, Zfa, Zfb, Zfc, Zfd, Zfe, Zff, Zfg, Zfh, Zfi, Zfj, Zfk, Zfl, Zfm, Zfn, Zfo, Zfp, Zfq, Zfr, Zfs, Zft, Zfu, Zfv, Zfw, Zfx, Zfy, Zfz, Zga, Zgb, Zgc, Zgd, Zge, Zgf, Zgg, Zgh, Zgi, Zgj, Zgk, Zgl, Zgm, Zgn, Zgo, Zgp, Zgq, Zgr, Zgs, Zgt, Zgu, Zgv, Zgw, Zgx, Zgy, Zgz, Zha, Zhb, Zhc, Zhd, Zhe, Zhf, Zhg, Zhh, Zhi, Zhj, Zhk, if_true, if_false, Bool.false_eq_true, Bool.true_eq_false, decide_eq_true_eq, reduceIte, Int.reduceLT, Int.reduceLE, Nat.reduceAdd, Nat.reduceLeDiff, Nat.reduceMul, Int.reduceNeg, Int.reduceAdd, Int.reduceMul, Int.reduceSub, Int.reducePow, Int.reduceToNat, and_self, and_true, true_and, Zhl, Zhm, Zhn, Zho, Zhp, Zhq, Zhr, Zhs, Zht, Zhu, Zhv, Zhw, Zhx, Zhy, Zhz, Zia, Zib, Zic, Zid, Zie, Zif, Zig, Zih, Zii, Zij, Zik, Zil, Zim, Zin, Zio, Ziq, Zir, Zis, Zit, Ziu, Ziv, Ziw, Zix, Int.reduceBEq, atD_neg1]
        rw [b_addsI _ _ (le_SZ (by simp <;> omega))]
        simp only [Za, Zb, Zd, Ze, Zf, Zg, Zh, Zi, Zj, Zk, Zl, Zm, Zn, Zo, Zp, Zq, Zr, Zs, Zt, Zu, Zv, Zw, Zx, Zy, Zz, Zaa, Zab, Zac, Zad, Zae, Zaf, Zag, Zah, Zai, Zaj, Zak, Zal, Zam, Zan, Zao, Zap, Zaq, Zar, Zas, Zat, Zau, Zav, Zaw, Zax, Zay, Zaz, Zba, Zbb, Zbc, Zbd, Zbe, Zbf, Zbg, Zbh, Zbi, Zbj, Zbk, Zbl, Zbm, Zbn, Zbo, Zbp, Zbq, Zbr, Zbs, Zbt, Zbu, Zbv, Zbw, Zbx, Zby, Zbz, Zca, Zcb, Zcc, Zcd, Zce, Zcf, Zcg, Zch, Zci, Zcj, Zck, Zcl, Zcm, Zcn, Zco, Zcp, Zcq, Zcr, Zcs, Zct, Zcu, Zcv, Zcw, Zcx, Zcy, Zcz, Zda, Zdb, Zdc, Zdd, Zde, Zdf, Zdg, Zdh, Zdi, Zdj, Zdk, Zdl, Zdm, Zdn, Zdo, Zdp, Zdq, Zdr, Zds, Zdt, Zdu, Zdv, Zdw, Int.toNat_natCast, Int.natCast_nonneg, Zdx, Zdy, Zdz, Zea, Zeb, Zec, Zed, Zee, Zef, Zeg, Zeh, Zei, Zej, Zek, Zel, Zem, Zen, Zeo, Zep, Zeq, Zer, Zes, Zet, Zeu, Zev, Zew, Zex, Zey, Zez, Zfa, Zfb, Zfc, Zfd, Zfe, Zff, Zfg, Zfh, Zfi, Zfj, Zfk, Zfl, Zfm, Zfn, Zfo, Zfp, Zfq, Zfr, Zfs, Zft, Zfu, Zfv, Zfw, Zfx, Zfy, Zfz, Zga, Zgb, Zgc, Zgd, Zge, Zgf, Zgg, Zgh, Zgi, Zgj, Zgk, Zgl, Zgm, Zgn, Zgo, Zgp, Zgq, Zgr, Zgs, Zgt, Zgu, Zgv, Zgw, Zgx, Zgy, Zgz, Zha, Zhb, Zhc, Zhd, Zhe, Zhf, Zhg, Zhh, Zhi, Zhj, Zhk, if_true, if_false, Bool.false_eq_true, Bool.true_eq_false, decide_eq_true_eq, reduceIte, Int.reduceLT, Int.reduceLE, Nat.reduceAdd, Nat.reduceLeDiff, Nat.reduceMul, Int.reduceNeg, Int.reduceAdd, Int.reduceMul, Int.reduceSub, Int.reducePow, Int.reduceToNat, and_self, and_true, true_and, Zhl, Zhm, Zhn, Zho, Zhp, Zhq, Zhr, Zhs, Zht, Zhu, Zhv, Zhw, Zhx, Zhy, Zhz, Zia, Zib, Zic, Zid, Zie, Zif, Zig, Zih, Zii, Zij, Zik, Zil, Zim, Zin, Zio, Ziq, Zir, Zis, Zit, Ziu, Ziv, Ziw, Zix, Int.reduceBEq, put_neg1]
        obtain ⟨init', last', hr', e'⟩ := hr.step c1 hc1
        rw [← e']
        exact ⟨init', last', _, _, _, hr', rfl⟩
    · have e0 : encR init last = init.map D.str ++ [.str last] := by simp [encR, hl]
      have hn : ((last.length : Int) == 0) = false := by
        have := List.length_pos_iff.2 hl
        simp
        exact hl
      simp only [Za, Zb, Zd, Ze, Zf, Zg, Zh, Zi, Zj, Zk, Zl, Zm, Zn, Zo, Zp, Zq, Zr, Zs, Zt, Zu, Zv, Zw, Zx, Zy, Zz, Zaa, Zab, Zac, Zad, Zae, Zaf, Zag, Zah, Zai, Zaj, Zak, Zal, Zam, Zan, Zao, Zap, Zaq, Zar, Zas, Zat, Zau, Zav, Zaw, Zax, Zay, Zaz, Zba, Zbb, Zbc, Zbd, Zbe, Zbf, Zbg, Zbh, Zbi, Zbj, Zbk, Zbl, Zbm, Zbn, Zbo, Zbp, Zbq, Zbr, Zbs, Zbt, Zbu, Zbv, Zbw, Zbx, Zby, Zbz, Zca, Zcb, Zcc, Zcd, Zce, Zcf, Zcg, Zch, Zci, Zcj, Zck, Zcl, Zcm, Zcn, Zco, Zcp, Zcq, Zcr, Zcs, Zct, Zcu, Zcv, Zcw, Zcx, Zcy, Zcz, Zda, Zdb, Zdc, Zdd, Zde, Zdf, Zdg, Zdh, Zdi, Zdj, Zdk, Zdl, Zdm, Zdn, Zdo, Zdp, Zdq, Zdr, Zds, Zdt, Zdu, Zdv, Zdw, Int.toNat_natCast, Int.natCast_nonneg, Zdx, Zdy, Zdz, Zea, Zeb, Zec, Zed, Zee, Zef, Zeg, Zeh, Zei, Zej, Zek, Zel, Zem, Zen, Zeo, Zep, Zeq, Zer, Zes, Zet, Zeu, Zev, Zew, Zex, Zey, Zez, Zfa, Zfb, Zfc, Zfd, Zfe, Zff, Zfg, Zfh, Zfi, Zfj, Zfk, Zfl, Zfm, Zfn, Zfo, Zfp, Zfq, Zfr, Zfs, Zft, Zfu, Zfv, Zfw, Zfx, Zfy, Zfz, Zga, Zgb, Zgc, Zgd, Zge, Zgf, Zgg, Zgh, Zgi, Zgj, Zgk, Zgl, Zgm, Zgn, Zgo, Zgp, Zgq, Zgr, Zgs, Zgt, Zgu, Zgv, Zgw, Zgx, Zgy, Zgz, Zha, Zhb, Zhc, Zhd, Zhe, Zhf, Zhg, Zhh, Zhi, Zhj, Zhk, if_true, if_false, Bool.false_eq_true, Bool.true_eq_false, decide_eq_true_eq, reduceIte, Int.reduceLT, Int.reduceLE, Nat.reduceAdd, Nat.reduceLeDiff, Nat.reduceMul, Int.reduceNeg, Int.reduceAdd, Int.reduceMul, Int.reduceSub, Int.reducePow, Int.reduceToNat, and_self, and_true, true_and, Zhl, Zhm, Zhn, Zho, Zhp, Zhq, Zhr, Zhs, Zht, Zhu, Zhv, Zhw, Zhx, Zhy, Zhz, Zia, Zib, Zic, Zid, Zie, Zif, Zig, Zih, Zii, Zij, Zik, Zil, Zim, Zin, Zio, Ziq, Zir, Zis, Zit, Ziu, Ziv, Ziw, Zix, Int.reduceBEq, hn]
      simp only [Za, Zb, Zd, Ze, Zf, Zg, Zh, Zi, Zj, Zk, Zl, Zm, Zn, Zo, Zp, Zq, Zr, Zs, Zt, Zu, Zv, Zw, Zx, Zy, Zz, Zaa, Zab, Zac, Zad, Zae, Zaf, Zag, Zah, Zai, Zaj, Zak, Zal, Zam, Zan, Zao, Zap, Zaq, Zar, Zas, Zat, Zau, Zav, Zaw, Zax, Zay, Zaz, Zba, Zbb, Zbc, Zbd, Zbe, Zbf, Zbg, Zbh, Zbi, Zbj, Zbk, Zbl, Zbm, Zbn, Zbo, Zbp, Zbq, Zbr, Zbs, Zbt, Zbu, Zbv, Zbw, Zbx, Zby, Zbz, Zca, Zcb, Zcc, Zcd, Zce, Zcf, Zcg, Zch, Zci, Zcj, Zck, Zcl, Zcm, Zcn, Zco, Zcp, Zcq, Zcr, Zcs, Zct, Zcu, Zcv, Zcw, Zcx, Zcy, Zcz, Zda, Zdb, Zdc, Zdd, Zde, Zdf, Zdg, Zdh, Zdi, Zdj, Zdk, Zdl, Zdm, Zdn, Zdo, Zdp, Zdq, Zdr, Zds, Zdt, Zdu, Zdv, Zdw, Int.toNat_natCast, Int.natCast_nonneg, Zdx, Zdy, Zdz, Zea, Zeb, Zec, Zed, Zee, Zef, Zeg, Zeh, Zei, Zej, Zek, Zel, Zem, Zen, Zeo, Zep, Zeq, Zer, Zes, Zet, Zeu, Zev, Zew, Zex, Zey, Zez, Zfa, Zfb, Zfc, Zfd, Zfe, Zff, Zfg, Zfh, Zfi, Zfj, Zfk, Zfl, Zfm, Zfn, Zfo, Zfp, Zfq, Zfr, Zfs, Zft, Zfu, Zfv, Zfw, Zfx, Zfy, Zfz, Zga, Zgb, Zgc, Zgd, Zge, Zgf, Zgg, Zgh, Zgi, Zgj, Zgk, Zgl, Zgm, Zgn, Zgo, Zgp, Zgq, Zgr, Zgs, Zgt, Zgu, Zgv, Zgw, Zgx, Zgy, Zgz, Zha, Zhb, Zhc, Zhd, Zhe, Zhf, Zhg, Zhh, Zhi, Zhj, Zhk, if_true, if_false, Bool.false_eq_true, Bool.true_eq_false, decide_eq_true_eq, reduceIte, Int.reduceLT, Int.reduceLE, Nat.reduceAdd, Nat.reduceLeDiff, Nat.reduceMul, Int.reduceNeg, Int.reduceAdd, Int.reduceMul, Int.reduceSub, Int.reducePow, Int.reduceToNat, and_self, and_true, true_and, Zhl, Zhm, Zhn, Zho, Zhp, Zhq, Zhr, Zhs, Zht, Zhu, Zhv, Zhw, Zhx, Zhy, Zhz, Zia, Zib, Zic, Zid, Zie, Zif, Zig, Zih, Zii, Zij, Zik, Zil, Zim, Zin, Zio, Ziq, Zir, Zis, Zit, Ziu, Ziv, Ziw, Zix, Int.reduceBEq, cell_run, q0, mixO_run, e0]
      obtain ⟨_, ⟨c1, hc1, rfl⟩, ec1⟩ := at_mod (xs := [D.str [46], .str [46], .str [61], .str [46]] ++ [.str [azS (hd / 100)], .str [azS (hd / 2600)]] ++ [.str [35], .str [46]]) (z := mixO (cellS cs (k : Int)) (k : Int)) (n := 8) (by decide) rfl (fun x => ∃ c ∈ txSigns, x = .str [c]) smem
      rw [ec1]
      simp only [Za, Zb, Zd, Ze, Zf, Zg, Zh, Zi, Zj, Zk, Zl, Zm, Zn, Zo, Zp, Zq, Zr, Zs, Zt, Zu, Zv, Zw, Zx, Zy, Zz, Zaa, Zab, Zac, Zad, Zae, Zaf, Zag, Zah, Zai, Zaj, Zak, Zal, Zam, Zan, Zao, Zap, Zaq, Zar, Zas, Zat, Zau, Zav, Zaw, Zax, Zay, Zaz, Zba, Zbb, Zbc, Zbd, Zbe, Zbf, Zbg, Zbh, Zbi, Zbj, Zbk, Zbl, Zbm, Zbn, Zbo, Zbp, Zbq, Zbr, Zbs, Zbt, Zbu, Zbv, Zbw, Zbx, Zby, Zbz, Zca, Zcb, Zcc, Zcd, Zce, Zcf, Zcg, Zch, Zci, Zcj, Zck, Zcl, Zcm, Zcn, Zco, Zcp, Zcq, Zcr, Zcs, Zct, Zcu, Zcv, Zcw, Zcx, Zcy, Zcz, Zda, Zdb, Zdc, Zdd, Zde, Zdf, Zdg, Zdh, Zdi, Zdj, Zdk, Zdl, Zdm, Zdn, Zdo, Zdp, Zdq, Zdr, Zds, Zdt, Zdu, Zdv, Zdw, Int.toNat_natCast, Int.natCast_nonneg, Zdx, Zdy, Zdz, Zea, Zeb, Zec, Zed, Zee, Zef, Zeg, Zeh, Zei, Zej, Zek, Zel, Zem, Zen, Zeo, Zep, Zeq, Zer, Zes, Zet, Zeu, Zev, Zew, Zex, Zey, Zez, Zfa, Zfb, Zfc, Zfd, Zfe, Zff, Zfg, Zfh, Zfi, Zfj, Zfk, Zfl, Zfm, Zfn, Zfo, Zfp, Zfq, Zfr, Zfs, Zft, Zfu, Zfv, Zfw, Zfx, Zfy, Zfz, Zga, Zgb, Zgc, Zgd, Zge, Zgf, Zgg, Zgh, Zgi, Zgj, Zgk, Zgl, Zgm, Zgn, Zgo, Zgp, Zgq, Zgr, Zgs, Zgt, Zgu, Zgv, Zgw, Zgx, Zgy, Zgz, Zha, Zhb, Zhc, Zhd, Zhe, Zhf, Zhg, Zhh, Zhi, Zhj, Zhk, if_true, if_false, Bool.false_eq_true, Bool.true_eq_false, decide_eq_true_eq, reduceIte, Int.reduceLT, Int.reduceLE, Nat.reduceAdd, Nat.reduceLeDiff, Nat.reduceMul, Int.reduceNeg, Int.reduceAdd, Int.reduceMul, Int.reduceSub, Int.reducePow, Int.reduceToNat, and_self, and_true, true_and, Zhl, Zhm, Zhn, Zho, Zhp, Zhq, Zhr, Zhs, Zht, Zhu, Zhv, Zhw, Zhx, Zhy, Zhz, Zia, Zib, Zic, Zid, Zie, Zif, Zig, Zih, Zii, Zij, Zik, Zil, Zim, Zin, Zio, Ziq, Zir, Zis, Zit, Ziu, Ziv, Ziw, Zix, Int.reduceBEq]
      refine IK_by (fun _ => ?_) fun _ => ?_
      · obtain ⟨c2, hc2, ec2⟩ := at_mod (xs := txSigns) (z := lf) (n := 29) (by decide) (by rw [signs_len]; rfl) (fun c => c ∈ txSigns) (fun _ h => h)
        simp only [Za, Zb, Zd, Ze, Zf, Zg, Zh, Zi, Zj, Zk, Zl, Zm, Zn, Zo, Zp, Zq, Zr, Zs, Zt, Zu, Zv, Zw, Zx, Zy, Zz, Zaa, Zab, Zac, Zad, Zae, Zaf, Zag, Zah, Zai, Zaj, Zak, Zal, Zam, Zan, Zao, Zap, Zaq, Zar, Zas, Zat, Zau, Zav, Zaw, Zax, Zay, Zaz, Zba, Zbb, Zbc, Zbd, Zbe, Zbf, Zbg, Zbh, Zbi, Zbj, Zbk, Zbl, Zbm, Zbn, Zbo, Zbp, Zbq, Zbr, Zbs, Zbt, Zbu, Zbv, Zbw, Zbx, Zby, Zbz, Zca, Zcb, Zcc, Zcd, Zce, Zcf, Zcg, Zch, Zci, Zcj, Zck, Zcl, Zcm, Zcn, Zco, Zcp, Zcq, Zcr, Zcs, Zct, Zcu, Zcv, Zcw, Zcx, Zcy, Zcz, Zda, Zdb, Zdc, Zdd, Zde, Zdf, Zdg, Zdh, Zdi, Zdj, Zdk, Zdl, Zdm, Zdn, Zdo, Zdp, Zdq, Zdr, Zds, Zdt, Zdu, Zdv, Zdw, Int.toNat_natCast, Int.natCast_nonneg, Zdx, Zdy, Zdz, Zea, Zeb, Zec, Zed, Zee, Zef, Zeg, Zeh, Zei, Zej, Zek, Zel, Zem, Zen, Zeo, Zep, Zeq, Zer, Zes, Zet, Zeu, Zev, Zew, Zex, Zey, Zez, Zfa, Zfb, Zfc, Zfd, Zfe, Zff, Zfg, Zfh, Zfi, Zfj, Zfk, Zfl, Zfm, Zfn, Zfo, Zfp, Zfq, Zfr, Zfs, Zft, Zfu, Zfv, Zfw, Zfx, Zfy, Zfz, Zga, Zgb, Zgc, Zgd, Zge, Zgf, Zgg, Zgh, Zgi, Zgj, Zgk, Zgl, Zgm, Zgn, Zgo, Zgp, Zgq, Zgr, Zgs, Zgt, Zgu, Zgv, Zgw, Zgx, Zgy, Zgz, Zha, Zhb, Zhc, Zhd, Zhe, Zhf, Zhg, Zhh, Zhi, Zhj, Zhk, if_true, if_false, Bool.false_eq_true, Bool.true_eq_false, decide_eq_true_eq, reduceIte, Int.reduceLT, Int.reduceLE, Nat.reduceAdd, Nat.reduceLeDiff, Nat.reduceMul, Int.reduceNeg, Int.reduceAdd, Int.reduceMul, Int.reduceSub, Int.reducePow, Int.reduceToNat, and_self, and_true, true_and, Zhl, Zhm, Zhn, Zho, Zhp, Zhq, Zhr, Zhs, Zht, Zhu, Zhv, Zhw, Zhx, Zhy, Zhz, Zia, Zib, Zic, Zid, Zie, Zif, Zig, Zih, Zii, Zij, Zik, Zil, Zim, Zin, Zio, Ziq, Zir, Zis, Zit, Ziu, Ziv, Ziw, Zix, Int.reduceBEq, ec2, atD_neg1]
        rw [b_addsI _ _ (le_SZ (by simp <;> omega))]
        simp only [Za, Zb, Zd, Ze, Zf, Zg, Zh, Zi, Zj, Zk, Zl, Zm, Zn, Zo, Zp, Zq, Zr, Zs, Zt, Zu, Zv, Zw, Zx, Zy, Zz, Zaa, Zab, Zac, Zad, Zae, Zaf, Zag, Zah, Zai, Zaj, Zak, Zal, Zam, Zan, Zao, Zap, Zaq, Zar, Zas, Zat, Zau, Zav, Zaw, Zax, Zay, Zaz, Zba, Zbb, Zbc, Zbd, Zbe, Zbf, Zbg, Zbh, Zbi, Zbj, Zbk, Zbl, Zbm, Zbn, Zbo, Zbp, Zbq, Zbr, Zbs, Zbt, Zbu, Zbv, Zbw, Zbx, Zby, Zbz, Zca, Zcb, Zcc, Zcd, Zce, Zcf, Zcg, Zch, Zci, Zcj, Zck, Zcl, Zcm, Zcn, Zco, Zcp, Zcq, Zcr, Zcs, Zct, Zcu, Zcv, Zcw, Zcx, Zcy, Zcz, Zda, Zdb, Zdc, Zdd, Zde, Zdf, Zdg, Zdh, Zdi, Zdj, Zdk, Zdl, Zdm, Zdn, Zdo, Zdp, Zdq, Zdr, Zds, Zdt, Zdu, Zdv, Zdw, Int.toNat_natCast, Int.natCast_nonneg, Zdx, Zdy, Zdz, Zea, Zeb, Zec, Zed, Zee, Zef, Zeg, Zeh, Zei, Zej, Zek, Zel, Zem, Zen, Zeo, Zep, Zeq, Zer, Zes, Zet, Zeu, Zev, Zew, Zex, Zey, Zez, Zfa, Zfb, Zfc, Zfd, Zfe, Zff, Zfg, Zfh, Zfi, Zfj, Zfk, Zfl, Zfm, Zfn, Zfo, Zfp, Zfq, Zfr, Zfs, Zft, Zfu, Zfv, Zfw, Zfx, Zfy, Zfz, Zga, Zgb, Zgc, Zgd, Zge, Zgf, Zgg, Zgh, Zgi, Zgj, Zgk, Zgl, Zgm, Zgn, Zgo, Zgp, Zgq, Zgr, Zgs, Zgt, Zgu, Zgv, Zgw, Zgx, Zgy, Zgz, Zha, Zhb, Zhc, Zhd, Zhe, Zhf, Zhg, Zhh, Zhi, Zhj, Zhk, if_true, if_false, Bool.false_eq_true, Bool.true_eq_false, decide_eq_true_eq, reduceIte, Int.reduceLT, Int.reduceLE, Nat.reduceAdd, Nat.reduceLeDiff, Nat.reduceMul, Int.reduceNeg, Int.reduceAdd, Int.reduceMul, Int.reduceSub, Int.reducePow, Int.reduceToNat, and_self, and_true, true_and, Zhl, Zhm, Zhn, Zho, Zhp, Zhq, Zhr, Zhs, Zht, Zhu, Zhv, Zhw, Zhx, Zhy, Zhz, Zia, Zib, Zic, Zid, Zie, Zif, Zig, Zih, Zii, Zij, Zik, Zil, Zim, Zin, Zio, Ziq, Zir, Zis, Zit, Ziu, Ziv, Ziw, Zix, Int.reduceBEq, put_neg1]
        obtain ⟨init', last', hr', e'⟩ := hr.step c2 hc2
        rw [← e']
        exact ⟨init', last', _, _, _, hr', rfl⟩
      · simp only [Za, Zb, Zd, Ze, Zf, Zg, Zh, Zi, Zj, Zk, Zl, Zm, Zn, Zo, Zp, Zq, Zr, Zs, Zt, Zu, Zv, Zw, Zx, Zy, Zz, Zaa, Zab, Zac, Zad, Zae, Zaf, Zag, Zah, Zai, Zaj, Zak, Zal, Zam, Zan, Zao, Zap, Zaq, Zar, Zas, Zat, Zau, Zav, Zaw, Zax, Zay, Zaz, Zba, Zbb, Zbc, Zbd, Zbe, Zbf, Zbg, Zbh, Zbi, Zbj, Zbk, Zbl, Zbm, Zbn, Zbo, Zbp, Zbq, Zbr, Zbs, Zbt, Zbu, Zbv, Zbw, Zbx, Zby, Zbz, Zca, Zcb, Zcc, Zcd, Zce, Zcf, Zcg, Zch, Zci, Zcj, Zck, Zcl, Zcm, Zcn, Zco, Zcp, Zcq, Zcr, Zcs, Zct, Zcu, Zcv, Zcw, Zcx, Zcy, Zcz, Zda, Zdb, Zdc, Zdd, Zde, Zdf, Zdg, Zdh, Zdi, Zdj, Zdk, Zdl, Zdm, Zdn, Zdo, Zdp, Zdq, Zdr, Zds, Zdt, Zdu, Zdv, Zdw, Int.toNat_natCast, Int.natCast_nonneg, Zdx, Zdy, Zdz, Zea, Zeb, Zec, Zed, Zee, Zef, Zeg, Zeh, Zei, Zej, Zek, Zel, Zem, Zen, Zeo, Zep, Zeq, Zer, Zes, Zet, Zeu, Zev, Zew, Zex, Zey, Zez, Zfa, Zfb, Zfc, Zfd, Zfe, Zff, Zfg, Zfh, Zfi, Zfj, Zfk, Zfl, Zfm, Zfn, Zfo, Zfp, Zfq, Zfr, Zfs, Zft, Zfu, Zfv, Zfw, Zfx, Zfy, Zfz, Zga, Zgb, Zgc, Zgd, Zge, Zgf, Zgg, Zgh, Zgi, Zgj, Zgk, Zgl, Zgm, Zgn, Zgo, Zgp, Zgq, Zgr, Zgs, Zgt, Zgu, Zgv, Zgw, Zgx, Zgy, Zgz, Zha, Zhb, Zhc, Zhd, Zhe, Zhf, Zhg, Zhh, Zhi, Zhj, Zhk, if_true, if_false, Bool.false_eq_true, Bool.true_eq_false, decide_eq_true_eq, reduceIte, Int.reduceLT, Int.reduceLE, Nat.reduceAdd, Nat.reduceLeDiff, Nat.reduceMul, Int.reduceNeg, Int.reduceAdd, Int.reduceMul, Int.reduceSub, Int.reducePow, Int.reduceToNat, and_self, and_true, true_and, Zhl, Zhm, Zhn, Zho, Zhp, Zhq, Zhr, Zhs, Zht, Zhu, Zhv, Zhw, Zhx, Zhy, Zhz, Zia, Zib, Zic, Zid, Zie, Zif, Zig, Zih, Zii, Zij, Zik, Zil, Zim, Zin, Zio, Ziq, Zir, Zis, Zit, Ziu, Ziv, Ziw, Zix, Int.reduceBEq, atD_neg1]
        rw [b_addsI _ _ (le_SZ (by simp <;> omega))]
        simp only [Za, Zb, Zd, Ze, Zf, Zg, Zh, Zi, Zj, Zk, Zl, Zm, Zn, Zo, Zp, Zq, Zr, Zs, Zt, Zu, Zv, Zw, Zx, Zy, Zz, Zaa, Zab, Zac, Zad, Zae, Zaf, Zag, Zah, Zai, Zaj, Zak, Zal, Zam, Zan, Zao, Zap, Zaq, Zar, Zas, Zat, Zau, Zav, Zaw, Zax, Zay, Zaz, Zba, Zbb, Zbc, Zbd, Zbe, Zbf, Zbg, Zbh, Zbi, Zbj, Zbk, Zbl, Zbm, Zbn, Zbo, Zbp, Zbq, Zbr, Zbs, Zbt, Zbu, Zbv, Zbw, Zbx, Zby, Zbz, Zca, Zcb, Zcc, Zcd, Zce, Zcf, Zcg, Zch, Zci, Zcj, Zck, Zcl, Zcm, Zcn, Zco, Zcp, Zcq, Zcr, Zcs, Zct, Zcu, Zcv, Zcw, Zcx, Zcy, Zcz, Zda, Zdb, Zdc, Zdd, Zde, Zdf, Zdg, Zdh, Zdi, Zdj, Zdk, Zdl, Zdm, Zdn, Zdo, Zdp, Zdq, Zdr, Zds, Zdt, Zdu, Zdv, Zdw, Int.toNat_natCast, Int.natCast_nonneg, Zdx, Zdy, Zdz, Zea, Zeb, Zec, Zed, Zee, Zef, Zeg, Zeh, Zei, Zej, Zek, Zel, Zem, Zen, Zeo, Zep, Zeq, Zer, Zes, Zet, Zeu, Zev, Zew, Zex, Zey, Zez, Zfa, Zfb, Zfc, Zfd, Zfe, Zff, Zfg, Zfh, Zfi, Zfj, Zfk, Zfl, Zfm, Zfn, Zfo, Zfp, Zfq, Zfr, Zfs, Zft, Zfu, Zfv, Zfw, Zfx, Zfy, Zfz, Zga, Zgb, Zgc, Zgd, Zge, Zgf, Zgg, Zgh, Zgi, Zgj, Zgk, Zgl, Zgm, Zgn, Zgo, Zgp, Zgq, Zgr, Zgs, Zgt, Zgu, Zgv, Zgw, Zgx, Zgy, Zgz, Zha, Zhb, Zhc, Zhd, Zhe, Zhf, Zhg, Zhh, Zhi, Zhj, Zhk, if_true, if_false, Bool.false_eq_true, Bool.true_eq_false, decide_eq_true_eq, reduceIte, Int.reduceLT, Int.reduceLE, Nat.reduceAdd, Nat.reduceLeDiff, Nat.reduceMul, Int.reduceNeg, Int.reduceAdd, Int.reduceMul, Int.reduceSub, Int.reducePow, Int.reduceToNat, and_self, and_true, true_and, Zhl, Zhm, Zhn, Zho, Zhp, Zhq, Zhr, Zhs, Zht, Zhu, Zhv, Zhw, Zhx, Zhy, Zhz, Zia, Zib, Zic, Zid, Zie, Zif, Zig, Zih, Zii, Zij, Zik, Zil, Zim, Zin, Zio, Ziq, Zir, Zis, Zit, Ziu, Ziv, Ziw, Zix, Int.reduceBEq, put_neg1]
        obtain ⟨init', last', hr', e'⟩ := hr.step c1 hc1
        rw [← e']
        exact ⟨init', last', _, _, _, hr', rfl⟩
  · rintro ρ ⟨init, last, lf, u9, u10, hr, rfl⟩
    simp only [Za, Zb, Zd, Ze, Zf, Zg, Zh, Zi, Zj, Zk, Zl, Zm, Zn, Zo, Zp, Zq, Zr, Zs, Zt, Zu, Zv, Zw, Zx, Zy, Zz, Zaa, Zab, Zac, Zad, Zae, Zaf, Zag, Zah, Zai, Zaj, Zak, Zal, Zam, Zan, Zao, Zap, Zaq, Zar, Zas, Zat, Zau, Zav, Zaw, Zax, Zay, Zaz, Zba, Zbb, Zbc, Zbd, Zbe, Zbf, Zbg, Zbh, Zbi, Zbj, Zbk, Zbl, Zbm, Zbn, Zbo, Zbp, Zbq, Zbr, Zbs, Zbt, Zbu, Zbv, Zbw, Zbx, Zby, Zbz, Zca, Zcb, Zcc, Zcd, Zce, Zcf, Zcg, Zch, Zci, Zcj, Zck, Zcl, Zcm, Zcn, Zco, Zcp, Zcq, Zcr, Zcs, Zct, Zcu, Zcv, Zcw, Zcx, Zcy, Zcz, Zda, Zdb, Zdc, Zdd, Zde, Zdf, Zdg, Zdh, Zdi, Zdj, Zdk, Zdl, Zdm, Zdn, Zdo, Zdp, Zdq, Zdr, Zds, Zdt, Zdu, Zdv, Zdw, Int.toNat_natCast, Int.natCast_nonneg, Zdx, Zdy, Zdz, Zea, Zeb, Zec, Zed, Zee, Zef, Zeg, Zeh, Zei, Zej, Zek, Zel, Zem, Zen, Zeo, Zep, Zeq, Zer, Zes, Zet, Zeu, Zev, Zew, Zex, Zey, Zez, Zfa, Zfb, Zfc, Zfd, Zfe, Zff, Zfg, Zfh, Zfi, Zfj, Zfk, Zfl, Zfm, Zfn, Zfo, Zfp, Zfq, Zfr, Zfs, Zft, Zfu, Zfv, Zfw, Zfx, Zfy, Zfz, Zga, Zgb, Zgc, Zgd, Zge, Zgf, Zgg, Zgh, Zgi, Zgj, Zgk, Zgl, Zgm, Zgn, Zgo, Zgp, Zgq, Zgr, Zgs, Zgt, Zgu, Zgv, Zgw, Zgx, Zgy, Zgz, Zha, Zhb, Zhc, Zhd, Zhe, Zhf, Zhg, Zhh, Zhi, Zhj, Zhk, if_true, if_false, Bool.false_eq_true, Bool.true_eq_false, decide_eq_true_eq, reduceIte, Int.reduceLT, Int.reduceLE, Nat.reduceAdd, Nat.reduceLeDiff, Nat.reduceMul, Int.reduceNeg, Int.reduceAdd, Int.reduceMul, Int.reduceSub, Int.reducePow, Int.reduceToNat, and_self, and_true, true_and, Zhl, Zhm, Zhn, Zho, Zhp, Zhq, Zhr, Zhs, Zht, Zhu, Zhv, Zhw, Zhx, Zhy, Zhz, Zia, Zib, Zic, Zid, Zie, Zif, Zig, Zih, Zii, Zij, Zik, Zil, Zim, Zin, Zio, Ziq, Zir, Zis, Zit, Ziu, Ziv, Ziw, Zix, Int.reduceBEq]
    have hk := hr.k
    have hlt := hr.lt
    have C0 : 0 < C := by omega
    have h0 : last.length = 0 := by
      have : (R * C) % C = (init.length * C + last.length) % C := by rw [hk]
      rw [Nat.mul_mod_left, Nat.mul_comm, Nat.mul_add_mod, Nat.mod_eq_of_lt hlt] at this
      exact this.symm
    have h1 : init.length = R := by
      rw [h0, Nat.add_zero] at hk
      exact (Nat.eq_of_mul_eq_mul_right C0 hk).symm
    have hn : last = [] := List.eq_nil_of_length_eq_zero h0
    exact ⟨init, ⟨by omega, by omega, C, by omega, by omega, hr.rows⟩, by rw [hn]; simp [encR, encH]⟩
end Ps
end
section
set_option maxHeartbeats 1000000
/-! B_IsHall: what a hall is; halls as texts. -/
namespace Ps
def c_is_row_B1 : CS := (.cond (.bin .nin (.var 2) (.cst (.str txSigns))) (.ret (.cst (.bl false))) .skip)
def c_is_row_L1 : CS := (.loop (.nm 2) (.seq (.var 0)) c_is_row_B1)
def c_is_row : CS := (.seq (.cond (.or (.not (.isi (.var 0) .str)) (.bin .ne (.blt .len (.cons (.var 0) .nil)) (.var 1))) (.ret (.cst (.bl false))) .skip) (.seq c_is_row_L1 (.ret (.cst (.bl true)))))
def f_is_row : Fn := ⟨2, 3, c_is_row, []⟩
def c_is_hall : CS := (.seq (.cond (.or (.not (.isi (.var 0) .tuple)) (.or (.not (.chain .le .le (.cst (.int 1)) (.blt .len (.cons (.var 0) .nil)) (.cst (.int 6)))) (.not (.isi (.ix (.var 0) (.cst (.int 0))) .str)))) (.ret (.cst (.bl false))) .skip) (.seq (.cond (.not (.chain .le .le (.cst (.int 1)) (.blt .len (.cons (.ix (.var 0) (.cst (.int 0))) .nil)) (.cst (.int 12)))) (.ret (.cst (.bl false))) .skip) (.ret (.blt .all (.cons (.comp (.call "is_row" (.cons (.var 1) (.cons (.blt .len (.cons (.ix (.var 0) (.cst (.int 0))) .nil)) .nil))) (.nm 1) (.seq (.var 0)) .nil [1]) .nil)))))
def f_is_hall : Fn := ⟨1, 2, c_is_hall, []⟩
def c_read_hall : CS := (.seq (.cond (.not (.isi (.var 0) .str)) (.rais "NoText" .nil) .skip) (.seq (.asg (.nm 1) (.blt .tuple (.cons (.sm1 .split (.var 0) (.cst (.str [10]))) .nil))) (.seq (.cond (.not (.call "is_hall" (.cons (.var 1) .nil))) (.rais "NoText" .nil) .skip) (.ret (.var 1)))))
def f_read_hall : Fn := ⟨1, 2, c_read_hall, []⟩
def c_show_hall : CS := (.ret (.sm1 .join (.cst (.str [10])) (.var 0)))
def f_show_hall : Fn := ⟨1, 1, c_show_hall, []⟩
def rowB (n : Nat) : D → Bool
  | .str s => (s.length == n) && s.all fun c => txSigns.any fun d => d == c
  | _ => false
def hallS : D → Bool
  | .tup (.str s :: xs) => decide (xs.length < 6) && (decide (1 ≤ s.length) && (decide (s.length ≤ 12) && ((.str s :: xs).all (rowB s.length))))
  | _ => false
theorem rowB_n {n : Nat} {d : D} (h : isTy d .str = false) : rowB n d = false := by cases d <;> first | rfl | (simp [isTy] at h)
theorem isstr_of {d : D} (h : isTy d .str = true) : ∃ s, d = .str s := by cases d <;> first | exact ⟨_, rfl⟩ | (simp [isTy] at h)
theorem isrow_run {P : Prog} [Has P "is_row" f_is_row] (m : Nat) (d : D) (n : Nat) : run P (m + 1) "is_row" [d, .int (n : Int)] = .ok (.bl (rowB n d)) := by
  refine run_eq (Has.eq (f := f_is_row)) m _ [some d, some (.int (n : Int)), none] _ rfl rfl ?_
  unfold f_is_row c_is_row
  cases h : isTy d .str with
  | false => simp only [Za, Zb, Zd, Ze, Zf, Zg, Zh, Zi, Zj, Zk, Zl, Zm, Zn, Zo, Zp, Zq, Zr, Zs, Zt, Zu, Zv, Zw, Zx, Zy, Zz, Zaa, Zab, Zac, Zad, Zae, Zaf, Zag, Zah, Zai, Zaj, Zak, Zal, Zam, Zan, Zao, Zap, Zaq, Zar, Zas, Zat, Zau, Zav, Zaw, Zax, Zay, Zaz, Zba, Zbb, Zbc, Zbd, Zbe, Zbf, Zbg, Zbh, Zbi, Zbj, Zbk, Zbl, Zbm, Zbn, Zbo, Zbp, Zbq, Zbr, Zbs, Zbt, Zbu, Zbv, Zbw, Zbx, Zby, Zbz, Zca, Zcb, Zcc, Zcd, Zce, Zcf, Zcg, Zch, Zci, Zcj, Zck, Zcl, Zcm, Zcn, Zco, Zcp, Zcq, Zcr, Zcs, Zct, Zcu, Zcv, Zcw, Zcx, Zcy, Zcz, Zda, Zdb, Zdc, Zdd, Zde, Zdf, Zdg, Zdh, Zdi, Zdj, Zdk, Zdl, Zdm, Zdn, Zdo, Zdp, Zdq, Zdr, Zds, Zdt, Zdu, Zdv, Zdw, Int.toNat_natCast, Int.natCast_nonneg, Zdx, Zdy, Zdz, Zea, Zeb, Zec, Zed, Zee, Zef, Zeg, Zeh, Zei, Zej, Zek, Zel, Zem, Zen, Zeo, Zep, Zeq, Zer, Zes, Zet, Zeu, Zev, Zew, Zex, Zey, Zez, Zfa, Zfb, Zfc, Zfd, Zfe, Zff, Zfg, Zfh, Zfi, Zfj, Zfk, Zfl, Zfm, Zfn, Zfo, Zfp, Zfq, Zfr, Zfs, Zft, Zfu, Zfv, Zfw, Zfx, Zfy, Zfz, Zga, Zgb, Zgc, Zgd, Zge, Zgf, Zgg, Zgh, Zgi, Zgj, Zgk, Zgl, Zgm, Zgn, Zgo, Zgp, Zgq, Zgr, Zgs, Zgt, Zgu, Zgv, Zgw, Zgx, Zgy, Zgz, Zha, Zhb, Zhc, Zhd, Zhe, Zhf, Zhg, Zhh, Zhi, Zhj, Zhk, if_true, if_false, Bool.false_eq_true, Bool.true_eq_false, decide_eq_true_eq, reduceIte, Int.reduceLT, Int.reduceLE, Nat.reduceAdd, Nat.reduceLeDiff, Nat.reduceMul, Int.reduceNeg, Int.reduceAdd, Int.reduceMul, Int.reduceSub, Int.reducePow, Int.reduceToNat, and_self, and_true, true_and, Zhl, Zhm, Zhn, Zho, Zhp, Zhq, Zhr, Zhs, Zht, Zhu, Zhv, Zhw, Zhx, Zhy, Zhz, Zia, Zib, Zic, Zid, Zie, Zif, Zig, Zih, Zii, Zij, Zik, Zil, Zim, Zin, Zio, Ziq, Zir, Zis, Zit, Ziu, Ziv, Ziw, Zix, Int.reduceBEq, h, rowB_n h]
  | true =>
    obtain ⟨s, rfl⟩ := isstr_of h
    by_cases e : s.length = n
    · subst e
      have e1 : (((s.length : Nat) : Int) == ((s.length : Nat) : Int)) = true := by simp
      simp only [Za, Zb, Zd, Ze, Zf, Zg, Zh, Zi, Zj, Zk, Zl, Zm, Zn, Zo, Zp, Zq, Zr, Zs, Zt, Zu, Zv, Zw, Zx, Zy, Zz, Zaa, Zab, Zac, Zad, Zae, Zaf, Zag, Zah, Zai, Zaj, Zak, Zal, Zam, Zan, Zao, Zap, Zaq, Zar, Zas, Zat, Zau, Zav, Zaw, Zax, Zay, Zaz, Zba, Zbb, Zbc, Zbd, Zbe, Zbf, Zbg, Zbh, Zbi, Zbj, Zbk, Zbl, Zbm, Zbn, Zbo, Zbp, Zbq, Zbr, Zbs, Zbt, Zbu, Zbv, Zbw, Zbx, Zby, Zbz, Zca, Zcb, Zcc, Zcd, Zce, Zcf, Zcg, Zch, Zci, Zcj, Zck, Zcl, Zcm, Zcn, Zco, Zcp, Zcq, Zcr, Zcs, Zct, Zcu, Zcv, Zcw, Zcx, Zcy, Zcz, Zda, Zdb, Zdc, Zdd, Zde, Zdf, Zdg, Zdh, Zdi, Zdj, Zdk, Zdl, Zdm, Zdn, Zdo, Zdp, Zdq, Zdr, Zds, Zdt, Zdu, Zdv, Zdw, Int.toNat_natCast, Int.natCast_nonneg, Zdx, Zdy, Zdz, Zea, Zeb, Zec, Zed, Zee, Zef, Zeg, Zeh, Zei, Zej, Zek, Zel, Zem, Zen, Zeo, Zep, Zeq, Zer, Zes, Zet, Zeu, Zev, Zew, Zex, Zey, Zez, Zfa, Zfb, Zfc, Zfd, Zfe, Zff, Zfg, Zfh, Zfi, Zfj, Zfk, Zfl, Zfm, Zfn, Zfo, Zfp, Zfq, Zfr, Zfs, Zft, Zfu, Zfv, Zfw, Zfx, Zfy, Zfz, Zga, Zgb, Zgc, Zgd, Zge, Zgf, Zgg, Zgh, Zgi, Zgj, Zgk, Zgl, Zgm, Zgn, Zgo, Zgp, Zgq, Zgr, Zgs, Zgt, Zgu, Zgv, Zgw, Zgx, Zgy, Zgz, Zha, Zhb, Zhc, Zhd, Zhe, Zhf, Zhg, Zhh, Zhi, Zhj, Zhk, if_true, if_false, Bool.false_eq_true, Bool.true_eq_false, decide_eq_true_eq, reduceIte, Int.reduceLT, Int.reduceLE, Nat.reduceAdd, Nat.reduceLeDiff, Nat.reduceMul, Int.reduceNeg, Int.reduceAdd, Int.reduceMul, Int.reduceSub, Int.reducePow, Int.reduceToNat, and_self, and_true, true_and, Zhl, Zhm, Zhn, Zho, Zhp, Zhq, Zhr, Zhs, Zht, Zhu, Zhv, Zhw, Zhx, Zhy, Zhz, Zia, Zib, Zic, Zid, Zie, Zif, Zig, Zih, Zii, Zij, Zik, Zil, Zim, Zin, Zio, Ziq, Zir, Zis, Zit, Ziu, Ziv, Ziw, Zix, Int.reduceBEq, e1]
      unfold c_is_row_L1
      simp only [Za, Zb, Zd, Ze, Zf, Zg, Zh, Zi, Zj, Zk, Zl, Zm, Zn, Zo, Zp, Zq, Zr, Zs, Zt, Zu, Zv, Zw, Zx, Zy, Zz, Zaa, Zab, Zac, Zad, Zae, Zaf, Zag, Zah, Zai, Zaj, Zak, Zal, Zam, Zan, Zao, Zap, Zaq, Zar, Zas, Zat, Zau, Zav, Zaw, Zax, Zay, Zaz, Zba, Zbb, Zbc, Zbd, Zbe, Zbf, Zbg, Zbh, Zbi, Zbj, Zbk, Zbl, Zbm, Zbn, Zbo, Zbp, Zbq, Zbr, Zbs, Zbt, Zbu, Zbv, Zbw, Zbx, Zby, Zbz, Zca, Zcb, Zcc, Zcd, Zce, Zcf, Zcg, Zch, Zci, Zcj, Zck, Zcl, Zcm, Zcn, Zco, Zcp, Zcq, Zcr, Zcs, Zct, Zcu, Zcv, Zcw, Zcx, Zcy, Zcz, Zda, Zdb, Zdc, Zdd, Zde, Zdf, Zdg, Zdh, Zdi, Zdj, Zdk, Zdl, Zdm, Zdn, Zdo, Zdp, Zdq, Zdr, Zds, Zdt, Zdu, Zdv, Zdw, Int.toNat_natCast, Int.natCast_nonneg, Zdx, Zdy, Zdz, Zea, Zeb, Zec, Zed, Zee, Zef, Zeg, Zeh, Zei, Zej, Zek, Zel, Zem, Zen, Zeo, Zep, Zeq, Zer, Zes, Zet, Zeu, Zev, Zew, Zex, Zey, Zez, Zfa, Zfb, Zfc, Zfd, Zfe, Zff, Zfg, Zfh, Zfi, Zfj, Zfk, Zfl, Zfm, Zfn, Zfo, Zfp, Zfq, Zfr, Zfs, Zft, Zfu, Zfv, Zfw, Zfx, Zfy, Zfz, Zga, Zgb, Zgc, Zgd, Zge, Zgf, Zgg, Zgh, Zgi, Zgj, Zgk, Zgl, Zgm, Zgn, Zgo, Zgp, Zgq, Zgr, Zgs, Zgt, Zgu, Zgv, Zgw, Zgx, Zgy, Zgz, Zha, Zhb, Zhc, Zhd, Zhe, Zhf, Zhg, Zhh, Zhi, Zhj, Zhk, if_true, if_false, Bool.false_eq_true, Bool.true_eq_false, decide_eq_true_eq, reduceIte, Int.reduceLT, Int.reduceLE, Nat.reduceAdd, Nat.reduceLeDiff, Nat.reduceMul, Int.reduceNeg, Int.reduceAdd, Int.reduceMul, Int.reduceSub, Int.reducePow, Int.reduceToNat, and_self, and_true, true_and, Zhl, Zhm, Zhn, Zho, Zhp, Zhq, Zhr, Zhs, Zht, Zhu, Zhv, Zhw, Zhx, Zhy, Zhz, Zia, Zib, Zic, Zid, Zie, Zif, Zig, Zih, Zii, Zij, Zik, Zil, Zim, Zin, Zio, Ziq, Zir, Zis, Zit, Ziu, Ziv, Ziw, Zix, Int.reduceBEq]
      refine FK_split (fun pre ρ => (pre.all fun c => txSigns.any fun d => d == c) = true ∧ ∃ u1, ρ = [some (.str s), some (.int ((s.length : Nat) : Int)), u1]) ⟨rfl, _, rfl⟩ ?_ ?_
      · rintro pre c post ρ hp ⟨ha, u1, rfl⟩
        unfold c_is_row_B1
        simp only [Za, Zb, Zd, Ze, Zf, Zg, Zh, Zi, Zj, Zk, Zl, Zm, Zn, Zo, Zp, Zq, Zr, Zs, Zt, Zu, Zv, Zw, Zx, Zy, Zz, Zaa, Zab, Zac, Zad, Zae, Zaf, Zag, Zah, Zai, Zaj, Zak, Zal, Zam, Zan, Zao, Zap, Zaq, Zar, Zas, Zat, Zau, Zav, Zaw, Zax, Zay, Zaz, Zba, Zbb, Zbc, Zbd, Zbe, Zbf, Zbg, Zbh, Zbi, Zbj, Zbk, Zbl, Zbm, Zbn, Zbo, Zbp, Zbq, Zbr, Zbs, Zbt, Zbu, Zbv, Zbw, Zbx, Zby, Zbz, Zca, Zcb, Zcc, Zcd, Zce, Zcf, Zcg, Zch, Zci, Zcj, Zck, Zcl, Zcm, Zcn, Zco, Zcp, Zcq, Zcr, Zcs, Zct, Zcu, Zcv, Zcw, Zcx, Zcy, Zcz, Zda, Zdb, Zdc, Zdd, Zde, Zdf, Zdg, Zdh, Zdi, Zdj, Zdk, Zdl, Zdm, Zdn, Zdo, Zdp, Zdq, Zdr, Zds, Zdt, Zdu, Zdv, Zdw, Int.toNat_natCast, Int.natCast_nonneg, Zdx, Zdy, Zdz, Zea, Zeb, Zec, Zed, Zee, Zef, Zeg, Zeh, Zei, Zej, Zek, Zel, Zem, Zen, Zeo, Zep, Zeq, Zer, Zes, Zet, Zeu, Zev, Zew, Zex, Zey, Zez, Zfa, Zfb, Zfc, Zfd, Zfe, Zff, Zfg, Zfh, Zfi, Zfj, Zfk, Zfl, Zfm, Zfn, Zfo, Zfp, Zfq, Zfr, Zfs, Zft, Zfu, Zfv, Zfw, Zfx, Zfy, Zfz, Zga, Zgb, Zgc, Zgd, Zge, Zgf, Zgg, Zgh, Zgi, Zgj, Zgk, Zgl, Zgm, Zgn, Zgo, Zgp, Zgq, Zgr, Zgs, Zgt, Zgu, Zgv, Zgw, Zgx, Zgy, Zgz, Zha, Zhb, Zhc, Zhd, Zhe, Zhf, Zhg, Zhh, Zhi, Zhj, Zhk, if_true, if_false, Bool.false_eq_true, Bool.true_eq_false, decide_eq_true_eq, reduceIte, Int.reduceLT, Int.reduceLE, Nat.reduceAdd, Nat.reduceLeDiff, Nat.reduceMul, Int.reduceNeg, Int.reduceAdd, Int.reduceMul, Int.reduceSub, Int.reducePow, Int.reduceToNat, and_self, and_true, true_and, Zhl, Zhm, Zhn, Zho, Zhp, Zhq, Zhr, Zhs, Zht, Zhu, Zhv, Zhw, Zhx, Zhy, Zhz, Zia, Zib, Zic, Zid, Zie, Zif, Zig, Zih, Zii, Zij, Zik, Zil, Zim, Zin, Zio, Ziq, Zir, Zis, Zit, Ziu, Ziv, Ziw, Zix, Int.reduceBEq]
        refine IK_by (fun e => ?_) fun e => ?_
        · simp only [Za, Zb, Zd, Ze, Zf, Zg, Zh, Zi, Zj, Zk, Zl, Zm, Zn, Zo, Zp, Zq, Zr, Zs, Zt, Zu, Zv, Zw, Zx, Zy, Zz, Zaa, Zab, Zac, Zad, Zae, Zaf, Zag, Zah, Zai, Zaj, Zak, Zal, Zam, Zan, Zao, Zap, Zaq, Zar, Zas, Zat, Zau, Zav, Zaw, Zax, Zay, Zaz, Zba, Zbb, Zbc, Zbd, Zbe, Zbf, Zbg, Zbh, Zbi, Zbj, Zbk, Zbl, Zbm, Zbn, Zbo, Zbp, Zbq, Zbr, Zbs, Zbt, Zbu, Zbv, Zbw, Zbx, Zby, Zbz, Zca, Zcb, Zcc, Zcd, Zce, Zcf, Zcg, Zch, Zci, Zcj, Zck, Zcl, Zcm, Zcn, Zco, Zcp, Zcq, Zcr, Zcs, Zct, Zcu, Zcv, Zcw, Zcx, Zcy, Zcz, Zda, Zdb, Zdc, Zdd, Zde, Zdf, Zdg, Zdh, Zdi, Zdj, Zdk, Zdl, Zdm, Zdn, Zdo, Zdp, Zdq, Zdr, Zds, Zdt, Zdu, Zdv, Zdw, Int.toNat_natCast, Int.natCast_nonneg, Zdx, Zdy, Zdz, Zea, Zeb, Zec, Zed, Zee, Zef, Zeg, Zeh, Zei, Zej, Zek, Zel, Zem, Zen, Zeo, Zep, Zeq, Zer, Zes, Zet, Zeu, Zev, Zew, Zex, Zey, Zez, Zfa, Zfb, Zfc, Zfd, Zfe, Zff, Zfg, Zfh, Zfi, Zfj, Zfk, Zfl, Zfm, Zfn, Zfo, Zfp, Zfq, Zfr, Zfs, Zft, Zfu, Zfv, Zfw, Zfx, Zfy, Zfz, Zga, Zgb, Zgc, Zgd, Zge, Zgf, Zgg, Zgh, Zgi, Zgj, Zgk, Zgl, Zgm, Zgn, Zgo, Zgp, Zgq, Zgr, Zgs, Zgt, Zgu, Zgv, Zgw, Zgx, Zgy, Zgz, Zha, Zhb, Zhc, Zhd, Zhe, Zhf, Zhg, Zhh, Zhi, Zhj, Zhk, if_true, if_false, Bool.false_eq_true, Bool.true_eq_false, decide_eq_true_eq, reduceIte, Int.reduceLT, Int.reduceLE, Nat.reduceAdd, Nat.reduceLeDiff, Nat.reduceMul, Int.reduceNeg, Int.reduceAdd, Int.reduceMul, Int.reduceSub, Int.reducePow, Int.reduceToNat, and_self, and_true, true_and, Zhl, Zhm, Zhn, Zho, Zhp, Zhq, Zhr, Zhs, Zht, Zhu, Zhv, Zhw, Zhx, Zhy, Zhz, Zia, Zib, Zic, Zid, Zie, Zif, Zig, Zih, Zii, Zij, Zik, Zil, Zim, Zin, Zio, Ziq, Zir, Zis, Zit, Ziu, Ziv, Ziw, Zix, Int.reduceBEq]
          have : (s.all fun c => txSigns.any fun d => d == c) = false := by
            rw [List.all_eq_false]
            exact ⟨c, by rw [hp]; simp, by simp only [Bool.not_eq_true'] at e; rw [e]; decide⟩
          rw [rowB, this, Bool.and_false]
        · simp only [Za, Zb, Zd, Ze, Zf, Zg, Zh, Zi, Zj, Zk, Zl, Zm, Zn, Zo, Zp, Zq, Zr, Zs, Zt, Zu, Zv, Zw, Zx, Zy, Zz, Zaa, Zab, Zac, Zad, Zae, Zaf, Zag, Zah, Zai, Zaj, Zak, Zal, Zam, Zan, Zao, Zap, Zaq, Zar, Zas, Zat, Zau, Zav, Zaw, Zax, Zay, Zaz, Zba, Zbb, Zbc, Zbd, Zbe, Zbf, Zbg, Zbh, Zbi, Zbj, Zbk, Zbl, Zbm, Zbn, Zbo, Zbp, Zbq, Zbr, Zbs, Zbt, Zbu, Zbv, Zbw, Zbx, Zby, Zbz, Zca, Zcb, Zcc, Zcd, Zce, Zcf, Zcg, Zch, Zci, Zcj, Zck, Zcl, Zcm, Zcn, Zco, Zcp, Zcq, Zcr, Zcs, Zct, Zcu, Zcv, Zcw, Zcx, Zcy, Zcz, Zda, Zdb, Zdc, Zdd, Zde, Zdf, Zdg, Zdh, Zdi, Zdj, Zdk, Zdl, Zdm, Zdn, Zdo, Zdp, Zdq, Zdr, Zds, Zdt, Zdu, Zdv, Zdw, Int.toNat_natCast, Int.natCast_nonneg, Zdx, Zdy, Zdz, Zea, Zeb, Zec, Zed, Zee, Zef, Zeg, Zeh, Zei, Zej, Zek, Zel, Zem, Zen, Zeo, Zep, Zeq, Zer, Zes, Zet, Zeu, Zev, Zew, Zex, Zey, Zez, Zfa, Zfb, Zfc, Zfd, Zfe, Zff, Zfg, Zfh, Zfi, Zfj, Zfk, Zfl, Zfm, Zfn, Zfo, Zfp, Zfq, Zfr, Zfs, Zft, Zfu, Zfv, Zfw, Zfx, Zfy, Zfz, Zga, Zgb, Zgc, Zgd, Zge, Zgf, Zgg, Zgh, Zgi, Zgj, Zgk, Zgl, Zgm, Zgn, Zgo, Zgp, Zgq, Zgr, Zgs, Zgt, Zgu, Zgv, Zgw, Zgx, Zgy, Zgz, Zha, Zhb, Zhc, Zhd, Zhe, Zhf, Zhg, Zhh, Zhi, Zhj, Zhk, if_true, if_false, Bool.false_eq_true, Bool.true_eq_false, decide_eq_true_eq, reduceIte, Int.reduceLT, Int.reduceLE, Nat.reduceAdd, Nat.reduceLeDiff, Nat.reduceMul, Int.reduceNeg, Int.reduceAdd, Int.reduceMul, Int.reduceSub, Int.reducePow, Int.reduceToNat, and_self, and_true, true_and, Zhl, Zhm, Zhn, Zho, Zhp, Zhq, Zhr, Zhs, Zht, Zhu, Zhv, Zhw, Zhx, Zhy, Zhz, Zia, Zib, Zic, Zid, Zie, Zif, Zig, Zih, Zii, Zij, Zik, Zil, Zim, Zin, Zio, Ziq, Zir, Zis, Zit, Ziu, Ziv, Ziw, Zix, Int.reduceBEq]
          exact ⟨by rw [List.all_append, ha]; simpa using e, _, rfl⟩
      · rintro ρ ⟨ha, u1, rfl⟩
        simp only [Za, Zb, Zd, Ze, Zf, Zg, Zh, Zi, Zj, Zk, Zl, Zm, Zn, Zo, Zp, Zq, Zr, Zs, Zt, Zu, Zv, Zw, Zx, Zy, Zz, Zaa, Zab, Zac, Zad, Zae, Zaf, Zag, Zah, Zai, Zaj, Zak, Zal, Zam, Zan, Zao, Zap, Zaq, Zar, Zas, Zat, Zau, Zav, Zaw, Zax, Zay, Zaz, Zba, Zbb, Zbc, Zbd, Zbe, Zbf, Zbg, Zbh, Zbi, Zbj, Zbk, Zbl, Zbm, Zbn, Zbo, Zbp, Zbq, Zbr, Zbs, Zbt, Zbu, Zbv, Zbw, Zbx, Zby, Zbz, Zca, Zcb, Zcc, Zcd, Zce, Zcf, Zcg, Zch, Zci, Zcj, Zck, Zcl, Zcm, Zcn, Zco, Zcp, Zcq, Zcr, Zcs, Zct, Zcu, Zcv, Zcw, Zcx, Zcy, Zcz, Zda, Zdb, Zdc, Zdd, Zde, Zdf, Zdg, Zdh, Zdi, Zdj, Zdk, Zdl, Zdm, Zdn, Zdo, Zdp, Zdq, Zdr, Zds, Zdt, Zdu, Zdv, Zdw, Int.toNat_natCast, Int.natCast_nonneg, Zdx, Zdy, Zdz, Zea, Zeb, Zec, Zed, Zee, Zef, Zeg, Zeh, Zei, Zej, Zek, Zel, Zem, Zen, Zeo, Zep, Zeq, Zer, Zes, Zet, Zeu, Zev, Zew, Zex, Zey, Zez, Zfa, Zfb, Zfc, Zfd, Zfe, Zff, Zfg, Zfh, Zfi, Zfj, Zfk, Zfl, Zfm, Zfn, Zfo, Zfp, Zfq, Zfr, Zfs, Zft, Zfu, Zfv, Zfw, Zfx, Zfy, Zfz, Zga, Zgb, Zgc, Zgd, Zge, Zgf, Zgg, Zgh, Zgi, Zgj, Zgk, Zgl, Zgm, Zgn, Zgo, Zgp, Zgq, Zgr, Zgs, Zgt, Zgu, Zgv, Zgw, Zgx, Zgy, Zgz, Zha, Zhb, Zhc, Zhd, Zhe, Zhf, Zhg, Zhh, Zhi, Zhj, Zhk, if_true, if_false, Bool.false_eq_true, Bool.true_eq_false, decide_eq_true_eq, reduceIte, Int.reduceLT, Int.reduceLE, Nat.reduceAdd, Nat.reduceLeDiff, Nat.reduceMul, Int.reduceNeg, Int.reduceAdd, Int.reduceMul, Int.reduceSub, Int.reducePow, Int.reduceToNat, and_self, and_true, true_and, Zhl, Zhm, Zhn, Zho, Zhp, Zhq, Zhr, Zhs, Zht, Zhu, Zhv, Zhw, Zhx, Zhy, Zhz, Zia, Zib, Zic, Zid, Zie, Zif, Zig, Zih, Zii, Zij, Zik, Zil, Zim, Zin, Zio, Ziq, Zir, Zis, Zit, Ziu, Ziv, Ziw, Zix, Int.reduceBEq]
        rw [rowB, ha]
        simp
    · have e1 : (((s.length : Nat) : Int) == (n : Int)) = false := by
        rw [beq_eq_false_iff_ne]
        omega
      have e2 : (s.length == n) = false := by rw [beq_eq_false_iff_ne]; exact e
      simp only [Za, Zb, Zd, Ze, Zf, Zg, Zh, Zi, Zj, Zk, Zl, Zm, Zn, Zo, Zp, Zq, Zr, Zs, Zt, Zu, Zv, Zw, Zx, Zy, Zz, Zaa, Zab, Zac, Zad, Zae, Zaf, Zag, Zah, Zai, Zaj, Zak, Zal, Zam, Zan, Zao, Zap, Zaq, Zar, Zas, Zat, Zau, Zav, Zaw, Zax, Zay, Zaz, Zba, Zbb, Zbc, Zbd, Zbe, Zbf, Zbg, Zbh, Zbi, Zbj, Zbk, Zbl, Zbm, Zbn, Zbo, Zbp, Zbq, Zbr, Zbs, Zbt, Zbu, Zbv, Zbw, Zbx, Zby, Zbz, Zca, Zcb, Zcc, Zcd, Zce, Zcf, Zcg, Zch, Zci, Zcj, Zck, Zcl, Zcm, Zcn, Zco, Zcp, Zcq, Zcr, Zcs, Zct, Zcu, Zcv, Zcw, Zcx, Zcy, Zcz, Zda, Zdb, Zdc, Zdd, Zde, Zdf, Zdg, Zdh, Zdi, Zdj, Zdk, Zdl, Zdm, Zdn, Zdo, Zdp, Zdq, Zdr, Zds, Zdt, Zdu, Zdv, Zdw, Int.toNat_natCast, Int.natCast_nonneg, Zdx, Zdy, Zdz, Zea, Zeb, Zec, Zed, Zee, Zef, Zeg, Zeh, Zei, Zej, Zek, Zel, Zem, Zen, Zeo, Zep, Zeq, Zer, Zes, Zet, Zeu, Zev, Zew, Zex, Zey, Zez, Zfa, Zfb, Zfc, Zfd, Zfe, Zff, Zfg, Zfh, Zfi, Zfj, Zfk, Zfl, Zfm, Zfn, Zfo, Zfp, Zfq, Zfr, Zfs, Zft, Zfu, Zfv, Zfw, Zfx, Zfy, Zfz, Zga, Zgb, Zgc, Zgd, Zge, Zgf, Zgg, Zgh, Zgi, Zgj, Zgk, Zgl, Zgm, Zgn, Zgo, Zgp, Zgq, Zgr, Zgs, Zgt, Zgu, Zgv, Zgw, Zgx, Zgy, Zgz, Zha, Zhb, Zhc, Zhd, Zhe, Zhf, Zhg, Zhh, Zhi, Zhj, Zhk, if_true, if_false, Bool.false_eq_true, Bool.true_eq_false, decide_eq_true_eq, reduceIte, Int.reduceLT, Int.reduceLE, Nat.reduceAdd, Nat.reduceLeDiff, Nat.reduceMul, Int.reduceNeg, Int.reduceAdd, Int.reduceMul, Int.reduceSub, Int.reducePow, Int.reduceToNat, and_self, and_true, true_and, Zhl, Zhm, Zhn, Zho, Zhp, Zhq, Zhr, Zhs, Zht, Zhu, Zhv, Zhw, Zhx, Zhy, Zhz, Zia, Zib, Zic, Zid, Zie, Zif, Zig, Zih, Zii, Zij, Zik, Zil, Zim, Zin, Zio, Ziq, Zir, Zis, Zit, Ziu, Ziv, Ziw, Zix, Int.reduceBEq, e1]
      rw [rowB, e2]
      rfl
theorem hallS_len {xs : List D} (h : ¬ (1 ≤ xs.length ∧ xs.length ≤ 6)) : hallS (.tup xs) = false := by
  cases xs with
  | nil => rfl
  | cons x xs =>
    cases x <;> first | rfl | skip
    have : ¬ xs.length < 6 := by simp at h; omega
    simp [hallS, this]
theorem istup_of {d : D} (h : isTy d .tuple = true) : ∃ s, d = .tup s := by cases d <;> first | exact ⟨_, rfl⟩ | (simp [isTy] at h)
theorem hallS_n {d : D} (h : isTy d .tuple = false) : hallS d = false := by cases d <;> first | rfl | (simp [isTy] at h)
theorem boolsD_map : ∀ bs : List Bool, boolsD (bs.map D.bl) = some bs
  | [] => rfl
  | b :: bs => by simp [boolsD, boolsD_map bs]
theorem ishall_run {P : Prog} [Has P "is_row" f_is_row] [Has P "is_hall" f_is_hall] (m : Nat) (d : D) : run P (m + 2) "is_hall" [d] = .ok (.bl (hallS d)) := by
  refine run_eq (Has.eq (f := f_is_hall)) (m + 1) _ [some d, none] _ rfl rfl ?_
  unfold f_is_hall c_is_hall
  cases h : isTy d .tuple with
  | false => simp only [Za, Zb, Zd, Ze, Zf, Zg, Zh, Zi, Zj, Zk, Zl, Zm, Zn, Zo, Zp, Zq, Zr, Zs, Zt, Zu, Zv, Zw, Zx, Zy, Zz, Zaa, Zab, Zac, Zad, Zae, Zaf, Zag, Zah, Zai, Zaj, Zak, Zal, Zam, Zan, Zao, Zap, Zaq, Zar, Zas, Zat, Zau, Zav, Zaw, Zax, Zay, Zaz, Zba, Zbb, Zbc, Zbd, Zbe, Zbf, Zbg, Zbh, Zbi, Zbj, Zbk, Zbl, Zbm, Zbn, Zbo, Zbp, Zbq, Zbr, Zbs, Zbt, Zbu, Zbv, Zbw, Zbx, Zby, Zbz, Zca, Zcb, Zcc, Zcd, Zce, Zcf, Zcg, Zch, Zci, Zcj, Zck, Zcl, Zcm, Zcn, Zco, Zcp, Zcq, Zcr, Zcs, Zct, Zcu, Zcv, Zcw, Zcx, Zcy, Zcz, Zda, Zdb, Zdc, Zdd, Zde, Zdf, Zdg, Zdh, Zdi, Zdj, Zdk, Zdl, Zdm, Zdn, Zdo, Zdp, Zdq, Zdr, Zds, Zdt, Zdu, Zdv, Zdw, Int.toNat_natCast, Int.natCast_nonneg, Zdx, Zdy, Zdz, Zea, Zeb, Zec, Zed, Zee, Zef, Zeg, Zeh, Zei, Zej, Zek, Zel, Zem, Zen, Zeo, Zep, Zeq, Zer, Zes, Zet, Zeu, Zev, Zew, Zex, Zey, Zez, Zfa, Zfb, Zfc, Zfd, Zfe, Zff, Zfg, Zfh, Zfi, Zfj, Zfk, Zfl, Zfm, Zfn, Zfo, Zfp, Zfq, Zfr, Zfs, Zft, Zfu, Zfv, Zfw, Zfx, Zfy, Zfz, Zga, Zgb, Zgc, Zgd, Zge, Zgf, Zgg, Zgh, Zgi, Zgj, Zgk, Zgl, Zgm, Zgn, Zgo, Zgp, Zgq, Zgr, Zgs, Zgt, Zgu, Zgv, Zgw, Zgx, Zgy, Zgz, Zha, Zhb, Zhc, Zhd, Zhe, Zhf, Zhg, Zhh, Zhi, Zhj, Zhk, if_true, if_false, Bool.false_eq_true, Bool.true_eq_false, decide_eq_true_eq, reduceIte, Int.reduceLT, Int.reduceLE, Nat.reduceAdd, Nat.reduceLeDiff, Nat.reduceMul, Int.reduceNeg, Int.reduceAdd, Int.reduceMul, Int.reduceSub, Int.reducePow, Int.reduceToNat, and_self, and_true, true_and, Zhl, Zhm, Zhn, Zho, Zhp, Zhq, Zhr, Zhs, Zht, Zhu, Zhv, Zhw, Zhx, Zhy, Zhz, Zia, Zib, Zic, Zid, Zie, Zif, Zig, Zih, Zii, Zij, Zik, Zil, Zim, Zin, Zio, Ziq, Zir, Zis, Zit, Ziu, Ziv, Ziw, Zix, Int.reduceBEq, h, hallS_n h]
  | true =>
    obtain ⟨xs, rfl⟩ := istup_of h
    by_cases c : 1 ≤ xs.length ∧ xs.length ≤ 6
    · have c1 : decide ((1 : Int) ≤ (xs.length : Int)) = true := decide_eq_true (by omega)
      have c2 : decide ((xs.length : Int) ≤ 6) = true := decide_eq_true (by omega)
      obtain ⟨x, ys, rfl⟩ : ∃ x ys, xs = x :: ys := by
        cases xs with
        | nil => simp at c
        | cons x ys => exact ⟨_, _, rfl⟩
      have i0 : atP (x :: ys) 0 = some x := atP_nat (n := 0) rfl rfl
      simp only [Za, Zb, Zd, Ze, Zf, Zg, Zh, Zi, Zj, Zk, Zl, Zm, Zn, Zo, Zp, Zq, Zr, Zs, Zt, Zu, Zv, Zw, Zx, Zy, Zz, Zaa, Zab, Zac, Zad, Zae, Zaf, Zag, Zah, Zai, Zaj, Zak, Zal, Zam, Zan, Zao, Zap, Zaq, Zar, Zas, Zat, Zau, Zav, Zaw, Zax, Zay, Zaz, Zba, Zbb, Zbc, Zbd, Zbe, Zbf, Zbg, Zbh, Zbi, Zbj, Zbk, Zbl, Zbm, Zbn, Zbo, Zbp, Zbq, Zbr, Zbs, Zbt, Zbu, Zbv, Zbw, Zbx, Zby, Zbz, Zca, Zcb, Zcc, Zcd, Zce, Zcf, Zcg, Zch, Zci, Zcj, Zck, Zcl, Zcm, Zcn, Zco, Zcp, Zcq, Zcr, Zcs, Zct, Zcu, Zcv, Zcw, Zcx, Zcy, Zcz, Zda, Zdb, Zdc, Zdd, Zde, Zdf, Zdg, Zdh, Zdi, Zdj, Zdk, Zdl, Zdm, Zdn, Zdo, Zdp, Zdq, Zdr, Zds, Zdt, Zdu, Zdv, Zdw, Int.toNat_natCast, Int.natCast_nonneg, Zdx, Zdy, Zdz, Zea, Zeb, Zec, Zed, Zee, Zef, Zeg, Zeh, Zei, Zej, Zek, Zel, Zem, Zen, Zeo, Zep, Zeq, Zer, Zes, Zet, Zeu, Zev, Zew, Zex, Zey, Zez, Zfa, Zfb, Zfc, Zfd, Zfe, Zff, Zfg, Zfh, Zfi, Zfj, Zfk, Zfl, Zfm, Zfn, Zfo, Zfp, Zfq, Zfr, Zfs, Zft, Zfu, Zfv, Zfw, Zfx, Zfy, Zfz, Zga, Zgb, Zgc, Zgd, Zge, Zgf, Zgg, Zgh, Zgi, Zgj, Zgk, Zgl, Zgm, Zgn, Zgo, Zgp, Zgq, Zgr, Zgs, Zgt, Zgu, Zgv, Zgw, Zgx, Zgy, Zgz, Zha, Zhb, Zhc, Zhd, Zhe, Zhf, Zhg, Zhh, Zhi, Zhj, Zhk, if_true, if_false, Bool.false_eq_true, Bool.true_eq_false, decide_eq_true_eq, reduceIte, Int.reduceLT, Int.reduceLE, Nat.reduceAdd, Nat.reduceLeDiff, Nat.reduceMul, Int.reduceNeg, Int.reduceAdd, Int.reduceMul, Int.reduceSub, Int.reducePow, Int.reduceToNat, and_self, and_true, true_and, Zhl, Zhm, Zhn, Zho, Zhp, Zhq, Zhr, Zhs, Zht, Zhu, Zhv, Zhw, Zhx, Zhy, Zhz, Zia, Zib, Zic, Zid, Zie, Zif, Zig, Zih, Zii, Zij, Zik, Zil, Zim, Zin, Zio, Ziq, Zir, Zis, Zit, Ziu, Ziv, Ziw, Zix, Int.reduceBEq, c1, c2, i0]
      cases hx : isTy x .str with
      | false =>
        simp only [Za, Zb, Zd, Ze, Zf, Zg, Zh, Zi, Zj, Zk, Zl, Zm, Zn, Zo, Zp, Zq, Zr, Zs, Zt, Zu, Zv, Zw, Zx, Zy, Zz, Zaa, Zab, Zac, Zad, Zae, Zaf, Zag, Zah, Zai, Zaj, Zak, Zal, Zam, Zan, Zao, Zap, Zaq, Zar, Zas, Zat, Zau, Zav, Zaw, Zax, Zay, Zaz, Zba, Zbb, Zbc, Zbd, Zbe, Zbf, Zbg, Zbh, Zbi, Zbj, Zbk, Zbl, Zbm, Zbn, Zbo, Zbp, Zbq, Zbr, Zbs, Zbt, Zbu, Zbv, Zbw, Zbx, Zby, Zbz, Zca, Zcb, Zcc, Zcd, Zce, Zcf, Zcg, Zch, Zci, Zcj, Zck, Zcl, Zcm, Zcn, Zco, Zcp, Zcq, Zcr, Zcs, Zct, Zcu, Zcv, Zcw, Zcx, Zcy, Zcz, Zda, Zdb, Zdc, Zdd, Zde, Zdf, Zdg, Zdh, Zdi, Zdj, Zdk, Zdl, Zdm, Zdn, Zdo, Zdp, Zdq, Zdr, Zds, Zdt, Zdu, Zdv, Zdw, Int.toNat_natCast, Int.natCast_nonneg, Zdx, Zdy, Zdz, Zea, Zeb, Zec, Zed, Zee, Zef, Zeg, Zeh, Zei, Zej, Zek, Zel, Zem, Zen, Zeo, Zep, Zeq, Zer, Zes, Zet, Zeu, Zev, Zew, Zex, Zey, Zez, Zfa, Zfb, Zfc, Zfd, Zfe, Zff, Zfg, Zfh, Zfi, Zfj, Zfk, Zfl, Zfm, Zfn, Zfo, Zfp, Zfq, Zfr, Zfs, Zft, Zfu, Zfv, Zfw, Zfx, Zfy, Zfz, Zga, Zgb, Zgc, Zgd, Zge, Zgf, Zgg, Zgh, Zgi, Zgj, Zgk, Zgl, Zgm, Zgn, Zgo, Zgp, Zgq, Zgr, Zgs, Zgt, Zgu, Zgv, Zgw, Zgx, Zgy, Zgz, Zha, Zhb, Zhc, Zhd, Zhe, Zhf, Zhg, Zhh, Zhi, Zhj, Zhk, if_true, if_false, Bool.false_eq_true, Bool.true_eq_false, decide_eq_true_eq, reduceIte, Int.reduceLT, Int.reduceLE, Nat.reduceAdd, Nat.reduceLeDiff, Nat.reduceMul, Int.reduceNeg, Int.reduceAdd, Int.reduceMul, Int.reduceSub, Int.reducePow, Int.reduceToNat, and_self, and_true, true_and, Zhl, Zhm, Zhn, Zho, Zhp, Zhq, Zhr, Zhs, Zht, Zhu, Zhv, Zhw, Zhx, Zhy, Zhz, Zia, Zib, Zic, Zid, Zie, Zif, Zig, Zih, Zii, Zij, Zik, Zil, Zim, Zin, Zio, Ziq, Zir, Zis, Zit, Ziu, Ziv, Ziw, Zix, Int.reduceBEq]
        have : hallS (.tup (x :: ys)) = false := by cases x <;> first | rfl | (simp [isTy] at hx)
        rw [this]
      | true =>
        obtain ⟨s, rfl⟩ := isstr_of hx
        by_cases k : 1 ≤ s.length ∧ s.length ≤ 12
        · have k1 : decide ((1 : Int) ≤ (s.length : Int)) = true := decide_eq_true (by omega)
          have k2 : decide ((s.length : Int) ≤ 12) = true := decide_eq_true (by omega)
          simp only [Za, Zb, Zd, Ze, Zf, Zg, Zh, Zi, Zj, Zk, Zl, Zm, Zn, Zo, Zp, Zq, Zr, Zs, Zt, Zu, Zv, Zw, Zx, Zy, Zz, Zaa, Zab, Zac, Zad, Zae, Zaf, Zag, Zah, Zai, Zaj, Zak, Zal, Zam, Zan, Zao, Zap, Zaq, Zar, Zas, Zat, Zau, Zav, Zaw, Zax, Zay, Zaz, Zba, Zbb, Zbc, Zbd, Zbe, Zbf, Zbg, Zbh, Zbi, Zbj, Zbk, Zbl, Zbm, Zbn, Zbo, Zbp, Zbq, Zbr, Zbs, Zbt, Zbu, Zbv, Zbw, Zbx, Zby, Zbz, Zca, Zcb, Zcc, Zcd, Zce, Zcf, Zcg, Zch, Zci, Zcj, Zck, Zcl, Zcm, Zcn, Zco, Zcp, Zcq, Zcr, Zcs, Zct, Zcu, Zcv, Zcw, Zcx, Zcy, Zcz, Zda, Zdb, Zdc, Zdd, Zde, Zdf, Zdg, Zdh, Zdi, Zdj, Zdk, Zdl, Zdm, Zdn, Zdo, Zdp, Zdq, Zdr, Zds, Zdt, Zdu, Zdv, Zdw, Int.toNat_natCast, Int.natCast_nonneg, Zdx, Zdy, Zdz, Zea, Zeb, Zec, Zed, Zee, Zef, Zeg, Zeh, Zei, Zej, Zek, Zel, Zem, Zen, Zeo, Zep, Zeq, Zer, Zes, Zet, Zeu, Zev, Zew, Zex, Zey, Zez, Zfa, Zfb, Zfc, Zfd, Zfe, Zff, Zfg, Zfh, Zfi, Zfj, Zfk, Zfl, Zfm, Zfn, Zfo, Zfp, Zfq, Zfr, Zfs, Zft, Zfu, Zfv, Zfw, Zfx, Zfy, Zfz, Zga, Zgb, Zgc, Zgd, Zge, Zgf, Zgg, Zgh, Zgi, Zgj, Zgk, Zgl, Zgm, Zgn, Zgo, Zgp, Zgq, Zgr, Zgs, Zgt, Zgu, Zgv, Zgw, Zgx, Zgy, Zgz, Zha, Zhb, Zhc, Zhd, Zhe, Zhf, Zhg, Zhh, Zhi, Zhj, Zhk, if_true, if_false, Bool.false_eq_true, Bool.true_eq_false, decide_eq_true_eq, reduceIte, Int.reduceLT, Int.reduceLE, Nat.reduceAdd, Nat.reduceLeDiff, Nat.reduceMul, Int.reduceNeg, Int.reduceAdd, Int.reduceMul, Int.reduceSub, Int.reducePow, Int.reduceToNat, and_self, and_true, true_and, Zhl, Zhm, Zhn, Zho, Zhp, Zhq, Zhr, Zhs, Zht, Zhu, Zhv, Zhw, Zhx, Zhy, Zhz, Zia, Zib, Zic, Zid, Zie, Zif, Zig, Zih, Zii, Zij, Zik, Zil, Zim, Zin, Zio, Ziq, Zir, Zis, Zit, Ziu, Ziv, Ziw, Zix, Int.reduceBEq, i0, k1, k2]
          rw [compL_map (fun x => D.bl (rowB s.length x)) (fun y hy => by
            simp only [Za, Zb, Zd, Ze, Zf, Zg, Zh, Zi, Zj, Zk, Zl, Zm, Zn, Zo, Zp, Zq, Zr, Zs, Zt, Zu, Zv, Zw, Zx, Zy, Zz, Zaa, Zab, Zac, Zad, Zae, Zaf, Zag, Zah, Zai, Zaj, Zak, Zal, Zam, Zan, Zao, Zap, Zaq, Zar, Zas, Zat, Zau, Zav, Zaw, Zax, Zay, Zaz, Zba, Zbb, Zbc, Zbd, Zbe, Zbf, Zbg, Zbh, Zbi, Zbj, Zbk, Zbl, Zbm, Zbn, Zbo, Zbp, Zbq, Zbr, Zbs, Zbt, Zbu, Zbv, Zbw, Zbx, Zby, Zbz, Zca, Zcb, Zcc, Zcd, Zce, Zcf, Zcg, Zch, Zci, Zcj, Zck, Zcl, Zcm, Zcn, Zco, Zcp, Zcq, Zcr, Zcs, Zct, Zcu, Zcv, Zcw, Zcx, Zcy, Zcz, Zda, Zdb, Zdc, Zdd, Zde, Zdf, Zdg, Zdh, Zdi, Zdj, Zdk, Zdl, Zdm, Zdn, Zdo, Zdp, Zdq, Zdr, Zds, Zdt, Zdu, Zdv, Zdw, Int.toNat_natCast, Int.natCast_nonneg, Zdx, Zdy, Zdz, Zea, Zeb, Zec, Zed, Zee, Zef, Zeg, Zeh, Zei, Zej, Zek, Zel, Zem, Zen, Zeo, Zep, Zeq, Zer, Zes, Zet, Zeu, Zev, Zew, Zex, Zey, Zez, Zfa, Zfb, Zfc, Zfd, Zfe, Zff, Zfg, Zfh, Zfi, Zfj, Zfk, Zfl, Zfm, Zfn, Zfo, Zfp, Zfq, Zfr, Zfs, Zft, Zfu, Zfv, Zfw, Zfx, Zfy, Zfz, Zga, Zgb, Zgc, Zgd, Zge, Zgf, Zgg, Zgh, Zgi, Zgj, Zgk, Zgl, Zgm, Zgn, Zgo, Zgp, Zgq, Zgr, Zgs, Zgt, Zgu, Zgv, Zgw, Zgx, Zgy, Zgz, Zha, Zhb, Zhc, Zhd, Zhe, Zhf, Zhg, Zhh, Zhi, Zhj, Zhk, if_true, if_false, Bool.false_eq_true, Bool.true_eq_false, decide_eq_true_eq, reduceIte, Int.reduceLT, Int.reduceLE, Nat.reduceAdd, Nat.reduceLeDiff, Nat.reduceMul, Int.reduceNeg, Int.reduceAdd, Int.reduceMul, Int.reduceSub, Int.reducePow, Int.reduceToNat, and_self, and_true, true_and, Zhl, Zhm, Zhn, Zho, Zhp, Zhq, Zhr, Zhs, Zht, Zhu, Zhv, Zhw, Zhx, Zhy, Zhz, Zia, Zib, Zic, Zid, Zie, Zif, Zig, Zih, Zii, Zij, Zik, Zil, Zim, Zin, Zio, Ziq, Zir, Zis, Zit, Ziu, Ziv, Ziw, Zix, Int.reduceBEq, i0, isrow_run m])]
          simp only [Zdx, Zbw]
          rw [lstR_le (le_SZ (by simp only [List.length_map]; omega))]
          simp only [Za, Zb, Zd, Ze, Zf, Zg, Zh, Zi, Zj, Zk, Zl, Zm, Zn, Zo, Zp, Zq, Zr, Zs, Zt, Zu, Zv, Zw, Zx, Zy, Zz, Zaa, Zab, Zac, Zad, Zae, Zaf, Zag, Zah, Zai, Zaj, Zak, Zal, Zam, Zan, Zao, Zap, Zaq, Zar, Zas, Zat, Zau, Zav, Zaw, Zax, Zay, Zaz, Zba, Zbb, Zbc, Zbd, Zbe, Zbf, Zbg, Zbh, Zbi, Zbj, Zbk, Zbl, Zbm, Zbn, Zbo, Zbp, Zbq, Zbr, Zbs, Zbt, Zbu, Zbv, Zbw, Zbx, Zby, Zbz, Zca, Zcb, Zcc, Zcd, Zce, Zcf, Zcg, Zch, Zci, Zcj, Zck, Zcl, Zcm, Zcn, Zco, Zcp, Zcq, Zcr, Zcs, Zct, Zcu, Zcv, Zcw, Zcx, Zcy, Zcz, Zda, Zdb, Zdc, Zdd, Zde, Zdf, Zdg, Zdh, Zdi, Zdj, Zdk, Zdl, Zdm, Zdn, Zdo, Zdp, Zdq, Zdr, Zds, Zdt, Zdu, Zdv, Zdw, Int.toNat_natCast, Int.natCast_nonneg, Zdx, Zdy, Zdz, Zea, Zeb, Zec, Zed, Zee, Zef, Zeg, Zeh, Zei, Zej, Zek, Zel, Zem, Zen, Zeo, Zep, Zeq, Zer, Zes, Zet, Zeu, Zev, Zew, Zex, Zey, Zez, Zfa, Zfb, Zfc, Zfd, Zfe, Zff, Zfg, Zfh, Zfi, Zfj, Zfk, Zfl, Zfm, Zfn, Zfo, Zfp, Zfq, Zfr, Zfs, Zft, Zfu, Zfv, Zfw, Zfx, Zfy, Zfz, Zga, Zgb, Zgc, Zgd, Zge, Zgf, Zgg, Zgh, Zgi, Zgj, Zgk, Zgl, Zgm, Zgn, Zgo, Zgp, Zgq, Zgr, Zgs, Zgt, Zgu, Zgv, Zgw, Zgx, Zgy, Zgz, Zha, Zhb, Zhc, Zhd, Zhe, Zhf, Zhg, Zhh, Zhi, Zhj, Zhk, if_true, if_false, Bool.false_eq_true, Bool.true_eq_false, decide_eq_true_eq, reduceIte, Int.reduceLT, Int.reduceLE, Nat.reduceAdd, Nat.reduceLeDiff, Nat.reduceMul, Int.reduceNeg, Int.reduceAdd, Int.reduceMul, Int.reduceSub, Int.reducePow, Int.reduceToNat, and_self, and_true, true_and, Zhl, Zhm, Zhn, Zho, Zhp, Zhq, Zhr, Zhs, Zht, Zhu, Zhv, Zhw, Zhx, Zhy, Zhz, Zia, Zib, Zic, Zid, Zie, Zif, Zig, Zih, Zii, Zij, Zik, Zil, Zim, Zin, Zio, Ziq, Zir, Zis, Zit, Ziu, Ziv, Ziw, Zix, Int.reduceBEq]
          rw [show (D.str s :: ys).map (fun x => D.bl (rowB s.length x)) = ((D.str s :: ys).map (rowB s.length)).map D.bl by rw [List.map_map]; rfl]
          rw [show bltR .all [.lst (((D.str s :: ys).map (rowB s.length)).map D.bl)] = .ok (.bl (((D.str s :: ys).map (rowB s.length)).all id)) by simp only [bltR, boolsD_map, ofOpt, Res.bind_ok]]
          simp only [Za, Zb, Zd, Ze, Zf, Zg, Zh, Zi, Zj, Zk, Zl, Zm, Zn, Zo, Zp, Zq, Zr, Zs, Zt, Zu, Zv, Zw, Zx, Zy, Zz, Zaa, Zab, Zac, Zad, Zae, Zaf, Zag, Zah, Zai, Zaj, Zak, Zal, Zam, Zan, Zao, Zap, Zaq, Zar, Zas, Zat, Zau, Zav, Zaw, Zax, Zay, Zaz, Zba, Zbb, Zbc, Zbd, Zbe, Zbf, Zbg, Zbh, Zbi, Zbj, Zbk, Zbl, Zbm, Zbn, Zbo, Zbp, Zbq, Zbr, Zbs, Zbt, Zbu, Zbv, Zbw, Zbx, Zby, Zbz, Zca, Zcb, Zcc, Zcd, Zce, Zcf, Zcg, Zch, Zci, Zcj, Zck, Zcl, Zcm, Zcn, Zco, Zcp, Zcq, Zcr, Zcs, Zct, Zcu, Zcv, Zcw, Zcx, Zcy, Zcz, Zda, Zdb, Zdc, Zdd, Zde, Zdf, Zdg, Zdh, Zdi, Zdj, Zdk, Zdl, Zdm, Zdn, Zdo, Zdp, Zdq, Zdr, Zds, Zdt, Zdu, Zdv, Zdw, Int.toNat_natCast, Int.natCast_nonneg, Zdx, Zdy, Zdz, Zea, Zeb, Zec, Zed, Zee, Zef, Zeg, Zeh, Zei, Zej, Zek, Zel, Zem, Zen, Zeo, Zep, Zeq, Zer, Zes, Zet, Zeu, Zev, Zew, Zex, Zey, Zez, Zfa, Zfb, Zfc, Zfd, Zfe, Zff, Zfg, Zfh, Zfi, Zfj, Zfk, Zfl, Zfm, Zfn, Zfo, Zfp, Zfq, Zfr, Zfs, Zft, Zfu, Zfv, Zfw, Zfx, Zfy, Zfz, Zga, Zgb, Zgc, Zgd, Zge, Zgf, Zgg, Zgh, Zgi, Zgj, Zgk, Zgl, Zgm, Zgn, Zgo, Zgp, Zgq, Zgr, Zgs, Zgt, Zgu, Zgv, Zgw, Zgx, Zgy, Zgz, Zha, Zhb, Zhc, Zhd, Zhe, Zhf, Zhg, Zhh, Zhi, Zhj, Zhk, if_true, if_false, Bool.false_eq_true, Bool.true_eq_false, decide_eq_true_eq, reduceIte, Int.reduceLT, Int.reduceLE, Nat.reduceAdd, Nat.reduceLeDiff, Nat.reduceMul, Int.reduceNeg, Int.reduceAdd, Int.reduceMul, Int.reduceSub, Int.reducePow, Int.reduceToNat, and_self, and_true, true_and, Zhl, Zhm, Zhn, Zho, Zhp, Zhq, Zhr, Zhs, Zht, Zhu, Zhv, Zhw, Zhx, Zhy, Zhz, Zia, Zib, Zic, Zid, Zie, Zif, Zig, Zih, Zii, Zij, Zik, Zil, Zim, Zin, Zio, Ziq, Zir, Zis, Zit, Ziu, Ziv, Ziw, Zix, Int.reduceBEq]
          congr 1
          rw [List.all_map]
          have y6 : decide (ys.length < 6) = true := decide_eq_true (by simp at c; omega)
          have j1 : decide (1 ≤ s.length) = true := decide_eq_true k.1
          have j2 : decide (s.length ≤ 12) = true := decide_eq_true k.2
          simp only [hallS, y6, j1, j2, Bool.true_and]
          rfl
        · have k1 : (decide ((1 : Int) ≤ (s.length : Int)) && decide ((s.length : Int) ≤ 12)) = false := by
            rw [← Bool.decide_and]
            exact decide_eq_false (by omega)
          simp only [Za, Zb, Zd, Ze, Zf, Zg, Zh, Zi, Zj, Zk, Zl, Zm, Zn, Zo, Zp, Zq, Zr, Zs, Zt, Zu, Zv, Zw, Zx, Zy, Zz, Zaa, Zab, Zac, Zad, Zae, Zaf, Zag, Zah, Zai, Zaj, Zak, Zal, Zam, Zan, Zao, Zap, Zaq, Zar, Zas, Zat, Zau, Zav, Zaw, Zax, Zay, Zaz, Zba, Zbb, Zbc, Zbd, Zbe, Zbf, Zbg, Zbh, Zbi, Zbj, Zbk, Zbl, Zbm, Zbn, Zbo, Zbp, Zbq, Zbr, Zbs, Zbt, Zbu, Zbv, Zbw, Zbx, Zby, Zbz, Zca, Zcb, Zcc, Zcd, Zce, Zcf, Zcg, Zch, Zci, Zcj, Zck, Zcl, Zcm, Zcn, Zco, Zcp, Zcq, Zcr, Zcs, Zct, Zcu, Zcv, Zcw, Zcx, Zcy, Zcz, Zda, Zdb, Zdc, Zdd, Zde, Zdf, Zdg, Zdh, Zdi, Zdj, Zdk, Zdl, Zdm, Zdn, Zdo, Zdp, Zdq, Zdr, Zds, Zdt, Zdu, Zdv, Zdw, Int.toNat_natCast, Int.natCast_nonneg, Zdx, Zdy, Zdz, Zea, Zeb, Zec, Zed, Zee, Zef, Zeg, Zeh, Zei, Zej, Zek, Zel, Zem, Zen, Zeo, Zep, Zeq, Zer, Zes, Zet, Zeu, Zev, Zew, Zex, Zey, Zez, Zfa, Zfb, Zfc, Zfd, Zfe, Zff, Zfg, Zfh, Zfi, Zfj, Zfk, Zfl, Zfm, Zfn, Zfo, Zfp, Zfq, Zfr, Zfs, Zft, Zfu, Zfv, Zfw, Zfx, Zfy, Zfz, Zga, Zgb, Zgc, Zgd, Zge, Zgf, Zgg, Zgh, Zgi, Zgj, Zgk, Zgl, Zgm, Zgn, Zgo, Zgp, Zgq, Zgr, Zgs, Zgt, Zgu, Zgv, Zgw, Zgx, Zgy, Zgz, Zha, Zhb, Zhc, Zhd, Zhe, Zhf, Zhg, Zhh, Zhi, Zhj, Zhk, if_true, if_false, Bool.false_eq_true, Bool.true_eq_false, decide_eq_true_eq, reduceIte, Int.reduceLT, Int.reduceLE, Nat.reduceAdd, Nat.reduceLeDiff, Nat.reduceMul, Int.reduceNeg, Int.reduceAdd, Int.reduceMul, Int.reduceSub, Int.reducePow, Int.reduceToNat, and_self, and_true, true_and, Zhl, Zhm, Zhn, Zho, Zhp, Zhq, Zhr, Zhs, Zht, Zhu, Zhv, Zhw, Zhx, Zhy, Zhz, Zia, Zib, Zic, Zid, Zie, Zif, Zig, Zih, Zii, Zij, Zik, Zil, Zim, Zin, Zio, Ziq, Zir, Zis, Zit, Ziu, Ziv, Ziw, Zix, Int.reduceBEq, i0, k1]
          have : (decide (1 ≤ s.length) && (decide (s.length ≤ 12) && ((D.str s :: ys).all (rowB s.length)))) = false := by
            rw [← Bool.and_assoc, ← Bool.decide_and, decide_eq_false (by omega)]
            rfl
          rw [hallS, this, Bool.and_false]
    · have c1 : (decide ((1 : Int) ≤ (xs.length : Int)) && decide ((xs.length : Int) ≤ 6)) = false := by
        rw [← Bool.decide_and]
        exact decide_eq_false (by omega)
      simp only [Za, Zb, Zd, Ze, Zf, Zg, Zh, Zi, Zj, Zk, Zl, Zm, Zn, Zo, Zp, Zq, Zr, Zs, Zt, Zu, Zv, Zw, Zx, Zy, Zz, Zaa, Zab, Zac, Zad, Zae, Zaf, Zag, Zah, Zai, Zaj, Zak, Zal, Zam, Zan, Zao, Zap, Zaq, Zar, Zas, Zat, Zau, Zav, Zaw, Zax, Zay, Zaz, Zba, Zbb, Zbc, Zbd, Zbe, Zbf, Zbg, Zbh, Zbi, Zbj, Zbk, Zbl, Zbm, Zbn, Zbo, Zbp, Zbq, Zbr, Zbs, Zbt, Zbu, Zbv, Zbw, Zbx, Zby, Zbz, Zca, Zcb, Zcc, Zcd, Zce, Zcf, Zcg, Zch, Zci, Zcj, Zck, Zcl, Zcm, Zcn, Zco, Zcp, Zcq, Zcr, Zcs, Zct, Zcu, Zcv, Zcw, Zcx, Zcy, Zcz, Zda, Zdb, Zdc, Zdd, Zde, Zdf, Zdg, Zdh, Zdi, Zdj, Zdk, Zdl, Zdm, Zdn, Zdo, Zdp, Zdq, Zdr, Zds, Zdt, Zdu, Zdv, Zdw, Int.toNat_natCast, Int.natCast_nonneg, Zdx, Zdy, Zdz, Zea, Zeb, Zec, Zed, Zee, Zef, Zeg, Zeh, Zei, Zej, Zek, Zel, Zem, Zen, Zeo, Zep, Zeq, Zer, Zes, Zet, Zeu, Zev, Zew, Zex, Zey, Zez, Zfa, Zfb, Zfc, Zfd, Zfe, Zff, Zfg, Zfh, Zfi, Zfj, Zfk, Zfl, Zfm, Zfn, Zfo, Zfp, Zfq, Zfr, Zfs, Zft, Zfu, Zfv, Zfw, Zfx, Zfy, Zfz, Zga, Zgb, Zgc, Zgd, Zge, Zgf, Zgg, Zgh, Zgi, Zgj, Zgk, Zgl, Zgm, Zgn, Zgo, Zgp, Zgq, Zgr, Zgs, Zgt, Zgu, Zgv, Zgw, Zgx, Zgy, Zgz, Zha, Zhb, Zhc, Zhd, Zhe, Zhf, Zhg, Zhh, Zhi, Zhj, Zhk, if_true, if_false, Bool.false_eq_true, Bool.true_eq_false, decide_eq_true_eq, reduceIte, Int.reduceLT, Int.reduceLE, Nat.reduceAdd, Nat.reduceLeDiff, Nat.reduceMul, Int.reduceNeg, Int.reduceAdd, Int.reduceMul, Int.reduceSub, Int.reducePow, Int.reduceToNat, and_self, and_true, true_and, Zhl, Zhm, Zhn, Zho, Zhp, Zhq, Zhr, Zhs, Zht, Zhu, Zhv, Zhw, Zhx, Zhy, Zhz, Zia, Zib, Zic, Zid, Zie, Zif, Zig, Zih, Zii, Zij, Zik, Zil, Zim, Zin, Zio, Ziq, Zir, Zis, Zit, Ziu, Ziv, Ziw, Zix, Int.reduceBEq, c1, hallS_len c]
theorem hall_good {h : List (List Nat)} (H : HallOk h) : hallS (encH h) = true := by
  obtain ⟨c1, c2, c3⟩ := H.cols
  have r6 := H.r6
  cases h with
  | nil => have := H.r1; simp at this
  | cons l h =>
    have e : colsH (l :: h) = l.length := rfl
    rw [e] at c1 c2 c3
    have : ((l :: h).map D.str).all (rowB l.length) = true := by
      rw [List.all_eq_true]
      intro y hy
      obtain ⟨x, hx, rfl⟩ := List.mem_map.1 hy
      obtain ⟨h1, h2⟩ := c3 x hx
      simp only [rowB, h1, beq_self_eq_true, Bool.true_and, List.all_eq_true, List.any_eq_true]
      exact fun c hc => ⟨c, h2 c hc, by simp⟩
    have r : h.length < 6 := by simp at r6; omega
    simp only [List.map_cons] at this
    simp only [encH, List.map_cons, hallS, List.length_map, decide_eq_true r, decide_eq_true c1, decide_eq_true c2, Bool.true_and]
    exact this
theorem strsD_map : ∀ h : List (List Nat), strsD (h.map D.str) = some h
  | [] => rfl
  | a :: h => by simp [strsD, strsD_map h]
theorem join_ok {s : List Nat} {l : List (List Nat)} (h : (l.map (·.length)).sum + l.length * s.length ≤ 1000000) : joinR s (l.map D.str) = .ok (.str (joinL s l)) := by
  unfold joinR
  rw [strsD_map]
  simp only [ofOpt, Res.bind_ok]
  rw [if_pos (le_SZ (by omega))]
theorem sum_12 {k : Nat} : ∀ g : List (List Nat), (∀ l ∈ g, l.length ≤ k) → (g.map (·.length)).sum ≤ k * g.length
  | [], _ => by simp
  | a :: g, hg => by
    have := sum_12 g fun l hl => hg l (by simp [hl])
    have := hg a (by simp)
    simp only [List.map_cons, List.sum_cons, List.length_cons, Nat.mul_add]
    omega
theorem join_hall {h : List (List Nat)} (H : HallOk h) : joinR [10] (h.map D.str) = .ok (.str (joinL [10] h)) := by
  have b1 := sum_12 (k := 12) h fun l hl => by
    rw [(H.cols.2.2 l hl).1]
    exact H.cols.2.1
  have r6 := H.r6
  exact join_ok (by simp only [List.length_singleton]; omega)
/-! ### cut and joined -/
theorem splC_free {c : Nat} : ∀ (l acc : List Nat), c ∉ l → splC c acc l = [acc ++ l]
  | [], acc, _ => by simp [splC]
  | x :: r, acc, h => by
    have hx : x ≠ c := fun z => h (by simp [z])
    unfold splC
    rw [if_neg hx, splC_free r (acc ++ [x]) fun z => h (List.mem_cons_of_mem _ z)]
    simp
theorem splC_part {c : Nat} : ∀ (l acc r : List Nat), c ∉ l → splC c acc (l ++ c :: r) = (acc ++ l) :: splC c [] r
  | [], acc, r, _ => by simp [splC]
  | x :: l, acc, r, h => by
    have hx : x ≠ c := fun z => h (by simp [z])
    rw [List.cons_append, splC, if_neg hx, splC_part l (acc ++ [x]) r fun z => h (List.mem_cons_of_mem _ z)]
    simp
theorem spl_join {c : Nat} : ∀ (ls : List (List Nat)), ls ≠ [] → (∀ l ∈ ls, c ∉ l) → splC c [] (joinL [c] ls) = ls
  | [], h, _ => absurd rfl h
  | [x], _, h => by
    show splC c [] x = [x]
    rw [splC_free x [] (h x (by simp))]
    rfl
  | x :: y :: r, _, h => by
    show splC c [] (x ++ [c] ++ joinL [c] (y :: r)) = x :: y :: r
    rw [List.append_assoc, List.singleton_append, splC_part x [] _ (h x (by simp)), spl_join (y :: r) (by simp) fun l hl => h l (List.mem_cons_of_mem _ hl)]
    rfl
theorem join_len {s : List Nat} : ∀ (ls : List (List Nat)), (joinL s ls).length ≤ (ls.map (·.length)).sum + ls.length * s.length
  | [] => by simp [joinL]
  | [x] => by simp [joinL]
  | x :: y :: r => by
    have := join_len (s := s) (y :: r)
    simp only [joinL, List.length_append, List.map_cons, List.sum_cons, List.length_cons, Nat.add_mul] at this ⊢
    omega
theorem no_nl {h : List (List Nat)} (H : HallOk h) : ∀ l ∈ h, 10 ∉ l := fun l hl z => by
  have := (H.cols.2.2 l hl).2 10 z
  revert this
  decide
theorem hall_len {h : List (List Nat)} (H : HallOk h) : (joinL [10] h).length ≤ 100 := by
  have a := join_len (s := [10]) h
  have b1 := sum_12 (k := 12) h fun l hl => by
    rw [(H.cols.2.2 l hl).1]
    exact H.cols.2.1
  have r6 := H.r6
  simp only [List.length_singleton] at a
  omega
theorem hall_ne {h : List (List Nat)} (H : HallOk h) : h ≠ [] := fun z => by
  have := H.r1
  rw [z] at this
  simp at this
theorem hall_spl {h : List (List Nat)} (H : HallOk h) : splC 10 [] (joinL [10] h) = h := spl_join h (hall_ne H) (no_nl H)
theorem readhall_run {P : Prog} [Has P "is_row" f_is_row] [Has P "is_hall" f_is_hall] [Has P "read_hall" f_read_hall] (m : Nat) (s : List Nat) (hs : s.length ≤ 100000) (h : hallS (.tup ((splC 10 [] s).map .str)) = true) : run P (m + 3) "read_hall" [.str s] = .ok (.tup ((splC 10 [] s).map .str)) := by
  refine run_eq (Has.eq (f := f_read_hall)) (m + 2) _ [some (.str s), none] _ rfl rfl ?_
  have sp : smR .split s (.str [10]) = .ok (.lst ((splC 10 [] s).map .str)) := sm_split_ok (by decide) (by omega)
  unfold f_read_hall c_read_hall
  simp only [Za, Zb, Zd, Ze, Zf, Zg, Zh, Zi, Zj, Zk, Zl, Zm, Zn, Zo, Zp, Zq, Zr, Zs, Zt, Zu, Zv, Zw, Zx, Zy, Zz, Zaa, Zab, Zac, Zad, Zae, Zaf, Zag, Zah, Zai, Zaj, Zak, Zal, Zam, Zan, Zao, Zap, Zaq, Zar, Zas, Zat, Zau, Zav, Zaw, Zax, Zay, Zaz, Zba, Zbb, Zbc, Zbd, Zbe, Zbf, Zbg, Zbh, Zbi, Zbj, Zbk, Zbl, Zbm, Zbn, Zbo, Zbp, Zbq, Zbr, Zbs, Zbt, Zbu, Zbv, Zbw, Zbx, Zby, Zbz, Zca, Zcb, Zcc, Zcd, Zce, Zcf, Zcg, Zch, Zci, Zcj, Zck, Zcl, Zcm, Zcn, Zco, Zcp, Zcq, Zcr, Zcs, Zct, Zcu, Zcv, Zcw, Zcx, Zcy, Zcz, Zda, Zdb, Zdc, Zdd, Zde, Zdf, Zdg, Zdh, Zdi, Zdj, Zdk, Zdl, Zdm, Zdn, Zdo, Zdp, Zdq, Zdr, Zds, Zdt, Zdu, Zdv, Zdw, Int.toNat_natCast, Int.natCast_nonneg, Zdx, Zdy, Zdz, Zea, Zeb, Zec, Zed, Zee, Zef, Zeg, Zeh, Zei, Zej, Zek, Zel, Zem, Zen, Zeo, Zep, Zeq, Zer, Zes, Zet, Zeu, Zev, Zew, Zex, Zey, Zez, Zfa, Zfb, Zfc, Zfd, Zfe, Zff, Zfg, Zfh, Zfi, Zfj, Zfk, Zfl, Zfm, Zfn, Zfo, Zfp, Zfq, Zfr, Zfs, Zft, Zfu, Zfv, Zfw, Zfx, Zfy, Zfz, Zga, Zgb, Zgc, Zgd, Zge, Zgf, Zgg, Zgh, Zgi, Zgj, Zgk, Zgl, Zgm, Zgn, Zgo, Zgp, Zgq, Zgr, Zgs, Zgt, Zgu, Zgv, Zgw, Zgx, Zgy, Zgz, Zha, Zhb, Zhc, Zhd, Zhe, Zhf, Zhg, Zhh, Zhi, Zhj, Zhk, if_true, if_false, Bool.false_eq_true, Bool.true_eq_false, decide_eq_true_eq, reduceIte, Int.reduceLT, Int.reduceLE, Nat.reduceAdd, Nat.reduceLeDiff, Nat.reduceMul, Int.reduceNeg, Int.reduceAdd, Int.reduceMul, Int.reduceSub, Int.reducePow, Int.reduceToNat, and_self, and_true, true_and, Zhl, Zhm, Zhn, Zho, Zhp, Zhq, Zhr, Zhs, Zht, Zhu, Zhv, Zhw, Zhx, Zhy, Zhz, Zia, Zib, Zic, Zid, Zie, Zif, Zig, Zih, Zii, Zij, Zik, Zil, Zim, Zin, Zio, Ziq, Zir, Zis, Zit, Ziu, Ziv, Ziw, Zix, Int.reduceBEq, Ziy, Ziz, Zja, Zjb, Zjc, Zjd, Zje, Zjf, Zjg, Zjh, Zji, Zjj, Zjk, Zjl, Zjm, Zjn, Zjo, Zjp, Zjq, Zjr, Zjs, Zjt, Zju, Zjv, Zjw, Zjx, Zjy, Zjz, Zka, Zkb, Zkc, Zkd, Zke, Zkf, Zkg, Zkh, Zki, Zkj, Zkk, Zkl, Zkm, Zkn, Zko, Zkp, Zkq, Zkr, Zks, Zkt, Zku, Zkv, Zkw, Zkx, Zky, Zkz, Zla, Zlb, Zlc, Zld, Zle, Zlf, Zlg, Zlh, Zli, sp, ishall_run m, h]
theorem showhall_run {P : Prog} [Has P "show_hall" f_show_hall] (m : Nat) (h : List (List Nat)) (H : HallOk h) : run P (m + 1) "show_hall" [encH h] = .ok (.str (joinL [10] h)) := by
  refine run_eq (Has.eq (f := f_show_hall)) m _ [some (encH h)] _ rfl rfl ?_
  have jo : smR .join [10] (encH h) = .ok (.str (joinL [10] h)) := join_hall H
  unfold f_show_hall c_show_hall
  simp only [Za, Zb, Zd, Ze, Zf, Zg, Zh, Zi, Zj, Zk, Zl, Zm, Zn, Zo, Zp, Zq, Zr, Zs, Zt, Zu, Zv, Zw, Zx, Zy, Zz, Zaa, Zab, Zac, Zad, Zae, Zaf, Zag, Zah, Zai, Zaj, Zak, Zal, Zam, Zan, Zao, Zap, Zaq, Zar, Zas, Zat, Zau, Zav, Zaw, Zax, Zay, Zaz, Zba, Zbb, Zbc, Zbd, Zbe, Zbf, Zbg, Zbh, Zbi, Zbj, Zbk, Zbl, Zbm, Zbn, Zbo, Zbp, Zbq, Zbr, Zbs, Zbt, Zbu, Zbv, Zbw, Zbx, Zby, Zbz, Zca, Zcb, Zcc, Zcd, Zce, Zcf, Zcg, Zch, Zci, Zcj, Zck, Zcl, Zcm, Zcn, Zco, Zcp, Zcq, Zcr, Zcs, Zct, Zcu, Zcv, Zcw, Zcx, Zcy, Zcz, Zda, Zdb, Zdc, Zdd, Zde, Zdf, Zdg, Zdh, Zdi, Zdj, Zdk, Zdl, Zdm, Zdn, Zdo, Zdp, Zdq, Zdr, Zds, Zdt, Zdu, Zdv, Zdw, Int.toNat_natCast, Int.natCast_nonneg, Zdx, Zdy, Zdz, Zea, Zeb, Zec, Zed, Zee, Zef, Zeg, Zeh, Zei, Zej, Zek, Zel, Zem, Zen, Zeo, Zep, Zeq, Zer, Zes, Zet, Zeu, Zev, Zew, Zex, Zey, Zez, Zfa, Zfb, Zfc, Zfd, Zfe, Zff, Zfg, Zfh, Zfi, Zfj, Zfk, Zfl, Zfm, Zfn, Zfo, Zfp, Zfq, Zfr, Zfs, Zft, Zfu, Zfv, Zfw, Zfx, Zfy, Zfz, Zga, Zgb, Zgc, Zgd, Zge, Zgf, Zgg, Zgh, Zgi, Zgj, Zgk, Zgl, Zgm, Zgn, Zgo, Zgp, Zgq, Zgr, Zgs, Zgt, Zgu, Zgv, Zgw, Zgx, Zgy, Zgz, Zha, Zhb, Zhc, Zhd, Zhe, Zhf, Zhg, Zhh, Zhi, Zhj, Zhk, if_true, if_false, Bool.false_eq_true, Bool.true_eq_false, decide_eq_true_eq, reduceIte, Int.reduceLT, Int.reduceLE, Nat.reduceAdd, Nat.reduceLeDiff, Nat.reduceMul, Int.reduceNeg, Int.reduceAdd, Int.reduceMul, Int.reduceSub, Int.reducePow, Int.reduceToNat, and_self, and_true, true_and, Zhl, Zhm, Zhn, Zho, Zhp, Zhq, Zhr, Zhs, Zht, Zhu, Zhv, Zhw, Zhx, Zhy, Zhz, Zia, Zib, Zic, Zid, Zie, Zif, Zig, Zih, Zii, Zij, Zik, Zil, Zim, Zin, Zio, Ziq, Zir, Zis, Zit, Ziu, Ziv, Ziw, Zix, Int.reduceBEq, Ziy, Ziz, Zja, Zjb, Zjc, Zjd, Zje, Zjf, Zjg, Zjh, Zji, Zjj, Zjk, Zjl, Zjm, Zjn, Zjo, Zjp, Zjq, Zjr, Zjs, Zjt, Zju, Zjv, Zjw, Zjx, Zjy, Zjz, Zka, Zkb, Zkc, Zkd, Zke, Zkf, Zkg, Zkh, Zki, Zkj, Zkk, Zkl, Zkm, Zkn, Zko, Zkp, Zkq, Zkr, Zks, Zkt, Zku, Zkv, Zkw, Zkx, Zky, Zkz, Zla, Zlb, Zlc, Zld, Zle, Zlf, Zlg, Zlh, Zli, jo]
end Ps
end
section
set_option maxHeartbeats 1000000
namespace Ps
def c_law_B2 : CS := (.seq (.asg (.nm 5) (.call "show_hall" (.cons (.var 1) .nil))) (.seq (.cond (.or (.not (.isi (.var 5) .str)) (.bin .ne (.var 5) (.var 2))) (.ret (.cst (.bl false))) .skip) (.seq (.asg (.nm 6) (.call "read_hall" (.cons (.var 2) .nil))) (.cond (.or (.not (.isi (.var 6) .tuple)) (.or (.bin .ne (.comp (.var 3) (.nm 3) (.seq (.var 6)) (.cons (.not (.isi (.var 3) .str)) .nil) [3]) (.lst .nil)) (.bin .ne (.var 6) (.var 1)))) (.ret (.cst (.bl false))) .skip))))
def c_law_L2 : CS := (.loop (.nm 4) (.rng1 (.cst (.int 2))) c_law_B2)
def c_law_B1 : CS := (.asg (.nm 2) (.bin .add (.bin .add (.var 2) (.cst (.str [10]))) (.var 3)))
def c_law_L1 : CS := (.loop (.nm 3) (.seq (.slc (.var 1) (.yes (.cst (.int 1))) .no)) c_law_B1)
def c_law : CS := (.seq (.asg (.nm 1) (.call "_law_hall" (.cons (.slc (.var 0) (.yes (.cst (.int 1))) .no) (.cons (.call "_law_cell_at" (.cons (.var 0) (.cons (.cst (.int 0)) .nil))) (.cons (.cst (.int 6)) (.cons (.cst (.int 12)) .nil)))))) (.seq (.asg (.nm 2) (.ix (.var 1) (.cst (.int 0)))) (.seq c_law_L1 (.seq c_law_L2 (.ret (.cst (.bl true)))))))
def f_law : Fn := ⟨1, 7, c_law, []⟩
def PG : Prog := fun k =>
  if k = "is_row" then some f_is_row else
  if k = "is_hall" then some f_is_hall else
  if k = "show_hall" then some f_show_hall else
  if k = "read_hall" then some f_read_hall else
  if k = "_law_cell_at" then some f__law_cell_at else
  if k = "_law_mixed" then some f__law_mixed else
  if k = "_law_letters" then some f__law_letters else
  if k = "_law_hall" then some f__law_hall else
  if k = "law" then some f_law else
  none
instance : Has PG "is_row" f_is_row := ⟨rfl⟩
instance : Has PG "is_hall" f_is_hall := ⟨rfl⟩
instance : Has PG "show_hall" f_show_hall := ⟨rfl⟩
instance : Has PG "read_hall" f_read_hall := ⟨rfl⟩
instance : Has PG "_law_cell_at" f__law_cell_at := ⟨rfl⟩
instance : Has PG "_law_mixed" f__law_mixed := ⟨rfl⟩
instance : Has PG "_law_letters" f__law_letters := ⟨rfl⟩
instance : Has PG "_law_hall" f__law_hall := ⟨rfl⟩
instance : Has PG "law" f_law := ⟨rfl⟩
theorem joinL_snoc (s : List Nat) : ∀ (l : List (List Nat)) (x : List Nat), l ≠ [] → joinL s (l ++ [x]) = joinL s l ++ s ++ x
  | [], _, h => absurd rfl h
  | [a], x, _ => by simp [joinL]
  | a :: b :: l, x, _ => by
    have ih := joinL_snoc s (b :: l) x (by simp)
    show a ++ s ++ joinL s (b :: l ++ [x]) = a ++ s ++ joinL s (b :: l) ++ s ++ x
    rw [ih]
    simp
theorem cut_1 (h : List D) : cutP h (some 1) none = h.drop 1 := cut_from h 1
theorem cut_1i (ns : List Int) : cutP (ns.map D.int) (some 1) none = (ns.drop 1).map D.int := by rw [cut_1, List.map_drop]
theorem depS (h : List (List Nat)) : Dp (encH h) 2 := ⟨by
  show deps (h.map D.str) + 1 ≤ 2
  have : deps (h.map D.str) ≤ 0 := by
    induction h with
    | nil => exact Nat.le_refl _
    | cons a h ih => simp only [List.map_cons, deps, dep]; omega
  omega⟩
theorem eqH (h : List (List Nat)) : eqDs (h.map D.str) (h.map D.str) = true := by
  induction h with
  | nil => rfl
  | cons a h ih => simp [eqDs, eqD, ih]
theorem law_true (ns : List Int) (hl : ns.length ≤ 63) (hb : ∀ z ∈ ns, bitsI z ≤ 1048576) : run PG 6 "law" [.lst (ns.map .int)] = .ok (.bl true) := by
  refine run_eq (f := f_law) rfl 5 _ [some (.lst (ns.map .int)), none, none, none, none, none, none] _ rfl rfl ?_
  unfold f_law c_law
  obtain ⟨h, H, eh⟩ := hall_old (P := PG) 3 (ns.drop 1) (cellS ns 0)
  have eh : run PG 5 "_law_hall" [.lst ((ns.drop 1).map .int), .int (cellS ns 0), .int 6, .int 12] = .ok (encH h) := eh
  obtain ⟨r, h', rfl⟩ : ∃ r h', h = r :: h' := by
    cases h with
    | nil => exact absurd rfl (hall_ne H)
    | cons r h' => exact ⟨_, _, rfl⟩
  have i0 : atP (D.str r :: h'.map D.str) 0 = some (.str r) := atP_nat (n := 0) rfl rfl
  have e0 : encH (r :: h') = .tup (D.str r :: h'.map D.str) := rfl
  have sh : run PG 5 "show_hall" [.tup (D.str r :: h'.map D.str)] = .ok (.str (joinL [10] (r :: h'))) := showhall_run (P := PG) 4 _ H
  have rh : run PG 5 "read_hall" [.str (joinL [10] (r :: h'))] = .ok (.tup (D.str r :: h'.map D.str)) := by
    have q := hall_spl H
    have g := readhall_run (P := PG) 2 (joinL [10] (r :: h')) (by have := hall_len H; omega) (by rw [q]; exact hall_good H)
    rw [q] at g
    exact g
  rw [e0] at eh
  have ln := hall_len H
  simp only [Za, Zb, Zd, Ze, Zf, Zg, Zh, Zi, Zj, Zk, Zl, Zm, Zn, Zo, Zp, Zq, Zr, Zs, Zt, Zu, Zv, Zw, Zx, Zy, Zz, Zaa, Zab, Zac, Zad, Zae, Zaf, Zag, Zah, Zai, Zaj, Zak, Zal, Zam, Zan, Zao, Zap, Zaq, Zar, Zas, Zat, Zau, Zav, Zaw, Zax, Zay, Zaz, Zba, Zbb, Zbc, Zbd, Zbe, Zbf, Zbg, Zbh, Zbi, Zbj, Zbk, Zbl, Zbm, Zbn, Zbo, Zbp, Zbq, Zbr, Zbs, Zbt, Zbu, Zbv, Zbw, Zbx, Zby, Zbz, Zca, Zcb, Zcc, Zcd, Zce, Zcf, Zcg, Zch, Zci, Zcj, Zck, Zcl, Zcm, Zcn, Zco, Zcp, Zcq, Zcr, Zcs, Zct, Zcu, Zcv, Zcw, Zcx, Zcy, Zcz, Zda, Zdb, Zdc, Zdd, Zde, Zdf, Zdg, Zdh, Zdi, Zdj, Zdk, Zdl, Zdm, Zdn, Zdo, Zdp, Zdq, Zdr, Zds, Zdt, Zdu, Zdv, Zdw, Int.toNat_natCast, Int.natCast_nonneg, Zdx, Zdy, Zdz, Zea, Zeb, Zec, Zed, Zee, Zef, Zeg, Zeh, Zei, Zej, Zek, Zel, Zem, Zen, Zeo, Zep, Zeq, Zer, Zes, Zet, Zeu, Zev, Zew, Zex, Zey, Zez, Zfa, Zfb, Zfc, Zfd, Zfe, Zff, Zfg, Zfh, Zfi, Zfj, Zfk, Zfl, Zfm, Zfn, Zfo, Zfp, Zfq, Zfr, Zfs, Zft, Zfu, Zfv, Zfw, Zfx, Zfy, Zfz, Zga, Zgb, Zgc, Zgd, Zge, Zgf, Zgg, Zgh, Zgi, Zgj, Zgk, Zgl, Zgm, Zgn, Zgo, Zgp, Zgq, Zgr, Zgs, Zgt, Zgu, Zgv, Zgw, Zgx, Zgy, Zgz, Zha, Zhb, Zhc, Zhd, Zhe, Zhf, Zhg, Zhh, Zhi, Zhj, Zhk, if_true, if_false, Bool.false_eq_true, Bool.true_eq_false, decide_eq_true_eq, reduceIte, Int.reduceLT, Int.reduceLE, Nat.reduceAdd, Nat.reduceLeDiff, Nat.reduceMul, Int.reduceNeg, Int.reduceAdd, Int.reduceMul, Int.reduceSub, Int.reducePow, Int.reduceToNat, and_self, and_true, true_and, Zhl, Zhm, Zhn, Zho, Zhp, Zhq, Zhr, Zhs, Zht, Zhu, Zhv, Zhw, Zhx, Zhy, Zhz, Zia, Zib, Zic, Zid, Zie, Zif, Zig, Zih, Zii, Zij, Zik, Zil, Zim, Zin, Zio, Ziq, Zir, Zis, Zit, Ziu, Ziv, Ziw, Zix, Int.reduceBEq, Ziy, Ziz, Zja, Zjb, Zjc, Zjd, Zje, Zjf, Zjg, Zjh, Zji, Zjj, Zjk, Zjl, Zjm, Zjn, Zjo, Zjp, Zjq, Zjr, Zjs, Zjt, Zju, Zjv, Zjw, Zjx, Zjy, Zjz, Zka, Zkb, Zkc, Zkd, Zke, Zkf, Zkg, Zkh, Zki, Zkj, Zkk, Zkl, Zkm, Zkn, Zko, Zkp, Zkq, Zkr, Zks, Zkt, Zku, Zkv, Zkw, Zkx, Zky, Zkz, Zla, Zlb, Zlc, Zld, Zle, Zlf, Zlg, Zlh, Zli, cut_1i, cell_run, eh, i0]
  unfold c_law_L1
  simp only [Za, Zb, Zd, Ze, Zf, Zg, Zh, Zi, Zj, Zk, Zl, Zm, Zn, Zo, Zp, Zq, Zr, Zs, Zt, Zu, Zv, Zw, Zx, Zy, Zz, Zaa, Zab, Zac, Zad, Zae, Zaf, Zag, Zah, Zai, Zaj, Zak, Zal, Zam, Zan, Zao, Zap, Zaq, Zar, Zas, Zat, Zau, Zav, Zaw, Zax, Zay, Zaz, Zba, Zbb, Zbc, Zbd, Zbe, Zbf, Zbg, Zbh, Zbi, Zbj, Zbk, Zbl, Zbm, Zbn, Zbo, Zbp, Zbq, Zbr, Zbs, Zbt, Zbu, Zbv, Zbw, Zbx, Zby, Zbz, Zca, Zcb, Zcc, Zcd, Zce, Zcf, Zcg, Zch, Zci, Zcj, Zck, Zcl, Zcm, Zcn, Zco, Zcp, Zcq, Zcr, Zcs, Zct, Zcu, Zcv, Zcw, Zcx, Zcy, Zcz, Zda, Zdb, Zdc, Zdd, Zde, Zdf, Zdg, Zdh, Zdi, Zdj, Zdk, Zdl, Zdm, Zdn, Zdo, Zdp, Zdq, Zdr, Zds, Zdt, Zdu, Zdv, Zdw, Int.toNat_natCast, Int.natCast_nonneg, Zdx, Zdy, Zdz, Zea, Zeb, Zec, Zed, Zee, Zef, Zeg, Zeh, Zei, Zej, Zek, Zel, Zem, Zen, Zeo, Zep, Zeq, Zer, Zes, Zet, Zeu, Zev, Zew, Zex, Zey, Zez, Zfa, Zfb, Zfc, Zfd, Zfe, Zff, Zfg, Zfh, Zfi, Zfj, Zfk, Zfl, Zfm, Zfn, Zfo, Zfp, Zfq, Zfr, Zfs, Zft, Zfu, Zfv, Zfw, Zfx, Zfy, Zfz, Zga, Zgb, Zgc, Zgd, Zge, Zgf, Zgg, Zgh, Zgi, Zgj, Zgk, Zgl, Zgm, Zgn, Zgo, Zgp, Zgq, Zgr, Zgs, Zgt, Zgu, Zgv, Zgw, Zgx, Zgy, Zgz, Zha, Zhb, Zhc, Zhd, Zhe, Zhf, Zhg, Zhh, Zhi, Zhj, Zhk, if_true, if_false, Bool.false_eq_true, Bool.true_eq_false, decide_eq_true_eq, reduceIte, Int.reduceLT, Int.reduceLE, Nat.reduceAdd, Nat.reduceLeDiff, Nat.reduceMul, Int.reduceNeg, Int.reduceAdd, Int.reduceMul, Int.reduceSub, Int.reducePow, Int.reduceToNat, and_self, and_true, true_and, Zhl, Zhm, Zhn, Zho, Zhp, Zhq, Zhr, Zhs, Zht, Zhu, Zhv, Zhw, Zhx, Zhy, Zhz, Zia, Zib, Zic, Zid, Zie, Zif, Zig, Zih, Zii, Zij, Zik, Zil, Zim, Zin, Zio, Ziq, Zir, Zis, Zit, Ziu, Ziv, Ziw, Zix, Int.reduceBEq, Ziy, Ziz, Zja, Zjb, Zjc, Zjd, Zje, Zjf, Zjg, Zjh, Zji, Zjj, Zjk, Zjl, Zjm, Zjn, Zjo, Zjp, Zjq, Zjr, Zjs, Zjt, Zju, Zjv, Zjw, Zjx, Zjy, Zjz, Zka, Zkb, Zkc, Zkd, Zke, Zkf, Zkg, Zkh, Zki, Zkj, Zkk, Zkl, Zkm, Zkn, Zko, Zkp, Zkq, Zkr, Zks, Zkt, Zku, Zkv, Zkw, Zkx, Zky, Zkz, Zla, Zlb, Zlc, Zld, Zle, Zlf, Zlg, Zlh, Zli, cut_1, List.drop_one, List.tail_cons]
  refine FK_split (fun pre ρ => ∃ u3, ρ = [some (.lst (ns.map .int)), some (.tup (D.str r :: h'.map D.str)), some (.str (joinL [10] (r :: pre))), u3, none, none, none]) ⟨_, rfl⟩ ?_ ?_
  · rintro pre x post ρ hp ⟨u3, rfl⟩
    unfold c_law_B1
    have jl := join_len (s := [10]) (r :: pre)
    have b1 := sum_12 (k := 12) (r :: h') fun l hl => by
      rw [(H.cols.2.2 l hl).1]
      exact H.cols.2.1
    have r6 := H.r6
    have xl : x.length ≤ 12 := by
      rw [(H.cols.2.2 x (by rw [hp]; simp)).1]
      exact H.cols.2.1
    have pl : (joinL [10] (r :: pre)).length ≤ 1000 := by
      have : ((r :: pre).map (·.length)).sum ≤ 12 * (r :: pre).length := sum_12 _ fun l hl => by
        rw [(H.cols.2.2 l (by
          rcases List.mem_cons.1 hl with rfl | hl
          · simp
          · rw [hp]; simp [hl])).1]
        exact H.cols.2.1
      have l2 : (r :: pre).length ≤ 6 := by
        have : (r :: h').length ≤ 6 := r6
        rw [hp] at this
        simp at this ⊢
        omega
      simp only [List.length_singleton] at jl
      omega
    simp only [Za, Zb, Zd, Ze, Zf, Zg, Zh, Zi, Zj, Zk, Zl, Zm, Zn, Zo, Zp, Zq, Zr, Zs, Zt, Zu, Zv, Zw, Zx, Zy, Zz, Zaa, Zab, Zac, Zad, Zae, Zaf, Zag, Zah, Zai, Zaj, Zak, Zal, Zam, Zan, Zao, Zap, Zaq, Zar, Zas, Zat, Zau, Zav, Zaw, Zax, Zay, Zaz, Zba, Zbb, Zbc, Zbd, Zbe, Zbf, Zbg, Zbh, Zbi, Zbj, Zbk, Zbl, Zbm, Zbn, Zbo, Zbp, Zbq, Zbr, Zbs, Zbt, Zbu, Zbv, Zbw, Zbx, Zby, Zbz, Zca, Zcb, Zcc, Zcd, Zce, Zcf, Zcg, Zch, Zci, Zcj, Zck, Zcl, Zcm, Zcn, Zco, Zcp, Zcq, Zcr, Zcs, Zct, Zcu, Zcv, Zcw, Zcx, Zcy, Zcz, Zda, Zdb, Zdc, Zdd, Zde, Zdf, Zdg, Zdh, Zdi, Zdj, Zdk, Zdl, Zdm, Zdn, Zdo, Zdp, Zdq, Zdr, Zds, Zdt, Zdu, Zdv, Zdw, Int.toNat_natCast, Int.natCast_nonneg, Zdx, Zdy, Zdz, Zea, Zeb, Zec, Zed, Zee, Zef, Zeg, Zeh, Zei, Zej, Zek, Zel, Zem, Zen, Zeo, Zep, Zeq, Zer, Zes, Zet, Zeu, Zev, Zew, Zex, Zey, Zez, Zfa, Zfb, Zfc, Zfd, Zfe, Zff, Zfg, Zfh, Zfi, Zfj, Zfk, Zfl, Zfm, Zfn, Zfo, Zfp, Zfq, Zfr, Zfs, Zft, Zfu, Zfv, Zfw, Zfx, Zfy, Zfz, Zga, Zgb, Zgc, Zgd, Zge, Zgf, Zgg, Zgh, Zgi, Zgj, Zgk, Zgl, Zgm, Zgn, Zgo, Zgp, Zgq, Zgr, Zgs, Zgt, Zgu, Zgv, Zgw, Zgx, Zgy, Zgz, Zha, Zhb, Zhc, Zhd, Zhe, Zhf, Zhg, Zhh, Zhi, Zhj, Zhk, if_true, if_false, Bool.false_eq_true, Bool.true_eq_false, decide_eq_true_eq, reduceIte, Int.reduceLT, Int.reduceLE, Nat.reduceAdd, Nat.reduceLeDiff, Nat.reduceMul, Int.reduceNeg, Int.reduceAdd, Int.reduceMul, Int.reduceSub, Int.reducePow, Int.reduceToNat, and_self, and_true, true_and, Zhl, Zhm, Zhn, Zho, Zhp, Zhq, Zhr, Zhs, Zht, Zhu, Zhv, Zhw, Zhx, Zhy, Zhz, Zia, Zib, Zic, Zid, Zie, Zif, Zig, Zih, Zii, Zij, Zik, Zil, Zim, Zin, Zio, Ziq, Zir, Zis, Zit, Ziu, Ziv, Ziw, Zix, Int.reduceBEq, Ziy, Ziz, Zja, Zjb, Zjc, Zjd, Zje, Zjf, Zjg, Zjh, Zji, Zjj, Zjk, Zjl, Zjm, Zjn, Zjo, Zjp, Zjq, Zjr, Zjs, Zjt, Zju, Zjv, Zjw, Zjx, Zjy, Zjz, Zka, Zkb, Zkc, Zkd, Zke, Zkf, Zkg, Zkh, Zki, Zkj, Zkk, Zkl, Zkm, Zkn, Zko, Zkp, Zkq, Zkr, Zks, Zkt, Zku, Zkv, Zkw, Zkx, Zky, Zkz, Zla, Zlb, Zlc, Zld, Zle, Zlf, Zlg, Zlh, Zli]
    rw [b_addsI _ _ (le_SZ (by simp; omega))]
    simp only [Za, Zb, Zd, Ze, Zf, Zg, Zh, Zi, Zj, Zk, Zl, Zm, Zn, Zo, Zp, Zq, Zr, Zs, Zt, Zu, Zv, Zw, Zx, Zy, Zz, Zaa, Zab, Zac, Zad, Zae, Zaf, Zag, Zah, Zai, Zaj, Zak, Zal, Zam, Zan, Zao, Zap, Zaq, Zar, Zas, Zat, Zau, Zav, Zaw, Zax, Zay, Zaz, Zba, Zbb, Zbc, Zbd, Zbe, Zbf, Zbg, Zbh, Zbi, Zbj, Zbk, Zbl, Zbm, Zbn, Zbo, Zbp, Zbq, Zbr, Zbs, Zbt, Zbu, Zbv, Zbw, Zbx, Zby, Zbz, Zca, Zcb, Zcc, Zcd, Zce, Zcf, Zcg, Zch, Zci, Zcj, Zck, Zcl, Zcm, Zcn, Zco, Zcp, Zcq, Zcr, Zcs, Zct, Zcu, Zcv, Zcw, Zcx, Zcy, Zcz, Zda, Zdb, Zdc, Zdd, Zde, Zdf, Zdg, Zdh, Zdi, Zdj, Zdk, Zdl, Zdm, Zdn, Zdo, Zdp, Zdq, Zdr, Zds, Zdt, Zdu, Zdv, Zdw, Int.toNat_natCast, Int.natCast_nonneg, Zdx, Zdy, Zdz, Zea, Zeb, Zec, Zed, Zee, Zef, Zeg, Zeh, Zei, Zej, Zek, Zel, Zem, Zen, Zeo, Zep, Zeq, Zer, Zes, Zet, Zeu, Zev, Zew, Zex, Zey, Zez, Zfa, Zfb, Zfc, Zfd, Zfe, Zff, Zfg, Zfh, Zfi, Zfj, Zfk, Zfl, Zfm, Zfn, Zfo, Zfp, Zfq, Zfr, Zfs, Zft, Zfu, Zfv, Zfw, Zfx, Zfy, Zfz, Zga, Zgb, Zgc, Zgd, Zge, Zgf, Zgg, Zgh, Zgi, Zgj, Zgk, Zgl, Zgm, Zgn, Zgo, Zgp, Zgq, Zgr, Zgs, Zgt, Zgu, Zgv, Zgw, Zgx, Zgy, Zgz, Zha, Zhb, Zhc, Zhd, Zhe, Zhf, Zhg, Zhh, Zhi, Zhj, Zhk, if_true, if_false, Bool.false_eq_true, Bool.true_eq_false, decide_eq_true_eq, reduceIte, Int.reduceLT, Int.reduceLE, Nat.reduceAdd, Nat.reduceLeDiff, Nat.reduceMul, Int.reduceNeg, Int.reduceAdd, Int.reduceMul, Int.reduceSub, Int.reducePow, Int.reduceToNat, and_self, and_true, true_and, Zhl, Zhm, Zhn, Zho, Zhp, Zhq, Zhr, Zhs, Zht, Zhu, Zhv, Zhw, Zhx, Zhy, Zhz, Zia, Zib, Zic, Zid, Zie, Zif, Zig, Zih, Zii, Zij, Zik, Zil, Zim, Zin, Zio, Ziq, Zir, Zis, Zit, Ziu, Ziv, Ziw, Zix, Int.reduceBEq, Ziy, Ziz, Zja, Zjb, Zjc, Zjd, Zje, Zjf, Zjg, Zjh, Zji, Zjj, Zjk, Zjl, Zjm, Zjn, Zjo, Zjp, Zjq, Zjr, Zjs, Zjt, Zju, Zjv, Zjw, Zjx, Zjy, Zjz, Zka, Zkb, Zkc, Zkd, Zke, Zkf, Zkg, Zkh, Zki, Zkj, Zkk, Zkl, Zkm, Zkn, Zko, Zkp, Zkq, Zkr, Zks, Zkt, Zku, Zkv, Zkw, Zkx, Zky, Zkz, Zla, Zlb, Zlc, Zld, Zle, Zlf, Zlg, Zlh, Zli]
    rw [b_addsI _ _ (le_SZ (by simp; omega))]
    simp only [Za, Zb, Zd, Ze, Zf, Zg, Zh, Zi, Zj, Zk, Zl, Zm, Zn, Zo, Zp, Zq, Zr, Zs, Zt, Zu, Zv, Zw, Zx, Zy, Zz, Zaa, Zab, Zac, Zad, Zae, Zaf, Zag, Zah, Zai, Zaj, Zak, Zal, Zam, Zan, Zao, Zap, Zaq, Zar, Zas, Zat, Zau, Zav, Zaw, Zax, Zay, Zaz, Zba, Zbb, Zbc, Zbd, Zbe, Zbf, Zbg, Zbh, Zbi, Zbj, Zbk, Zbl, Zbm, Zbn, Zbo, Zbp, Zbq, Zbr, Zbs, Zbt, Zbu, Zbv, Zbw, Zbx, Zby, Zbz, Zca, Zcb, Zcc, Zcd, Zce, Zcf, Zcg, Zch, Zci, Zcj, Zck, Zcl, Zcm, Zcn, Zco, Zcp, Zcq, Zcr, Zcs, Zct, Zcu, Zcv, Zcw, Zcx, Zcy, Zcz, Zda, Zdb, Zdc, Zdd, Zde, Zdf, Zdg, Zdh, Zdi, Zdj, Zdk, Zdl, Zdm, Zdn, Zdo, Zdp, Zdq, Zdr, Zds, Zdt, Zdu, Zdv, Zdw, Int.toNat_natCast, Int.natCast_nonneg, Zdx, Zdy, Zdz, Zea, Zeb, Zec, Zed, Zee, Zef, Zeg, Zeh, Zei, Zej, Zek, Zel, Zem, Zen, Zeo, Zep, Zeq, Zer, Zes, Zet, Zeu, Zev, Zew, Zex, Zey, Zez, Zfa, Zfb, Zfc, Zfd, Zfe, Zff, Zfg, Zfh, Zfi, Zfj, Zfk, Zfl, Zfm, Zfn, Zfo, Zfp, Zfq, Zfr, Zfs, Zft, Zfu, Zfv, Zfw, Zfx, Zfy, Zfz, Zga, Zgb, Zgc, Zgd, Zge, Zgf, Zgg, Zgh, Zgi, Zgj, Zgk, Zgl, Zgm, Zgn, Zgo, Zgp, Zgq, Zgr, Zgs, Zgt, Zgu, Zgv, Zgw, Zgx, Zgy, Zgz, Zha, Zhb, Zhc, Zhd, Zhe, Zhf, Zhg, Zhh, Zhi, Zhj, Zhk, if_true, if_false, Bool.false_eq_true, Bool.true_eq_false, decide_eq_true_eq, reduceIte, Int.reduceLT, Int.reduceLE, Nat.reduceAdd, Nat.reduceLeDiff, Nat.reduceMul, Int.reduceNeg, Int.reduceAdd, Int.reduceMul, Int.reduceSub, Int.reducePow, Int.reduceToNat, and_self, and_true, true_and, Zhl, Zhm, Zhn, Zho, Zhp, Zhq, Zhr, Zhs, Zht, Zhu, Zhv, Zhw, Zhx, Zhy, Zhz, Zia, Zib, Zic, Zid, Zie, Zif, Zig, Zih, Zii, Zij, Zik, Zil, Zim, Zin, Zio, Ziq, Zir, Zis, Zit, Ziu, Ziv, Ziw, Zix, Int.reduceBEq, Ziy, Ziz, Zja, Zjb, Zjc, Zjd, Zje, Zjf, Zjg, Zjh, Zji, Zjj, Zjk, Zjl, Zjm, Zjn, Zjo, Zjp, Zjq, Zjr, Zjs, Zjt, Zju, Zjv, Zjw, Zjx, Zjy, Zjz, Zka, Zkb, Zkc, Zkd, Zke, Zkf, Zkg, Zkh, Zki, Zkj, Zkk, Zkl, Zkm, Zkn, Zko, Zkp, Zkq, Zkr, Zks, Zkt, Zku, Zkv, Zkw, Zkx, Zky, Zkz, Zla, Zlb, Zlc, Zld, Zle, Zlf, Zlg, Zlh, Zli]
    exact ⟨_, by rw [← List.cons_append, joinL_snoc [10] (r :: pre) x (by simp)]⟩
  · rintro ρ ⟨u3, rfl⟩
    simp only [Za, Zb, Zd, Ze, Zf, Zg, Zh, Zi, Zj, Zk, Zl, Zm, Zn, Zo, Zp, Zq, Zr, Zs, Zt, Zu, Zv, Zw, Zx, Zy, Zz, Zaa, Zab, Zac, Zad, Zae, Zaf, Zag, Zah, Zai, Zaj, Zak, Zal, Zam, Zan, Zao, Zap, Zaq, Zar, Zas, Zat, Zau, Zav, Zaw, Zax, Zay, Zaz, Zba, Zbb, Zbc, Zbd, Zbe, Zbf, Zbg, Zbh, Zbi, Zbj, Zbk, Zbl, Zbm, Zbn, Zbo, Zbp, Zbq, Zbr, Zbs, Zbt, Zbu, Zbv, Zbw, Zbx, Zby, Zbz, Zca, Zcb, Zcc, Zcd, Zce, Zcf, Zcg, Zch, Zci, Zcj, Zck, Zcl, Zcm, Zcn, Zco, Zcp, Zcq, Zcr, Zcs, Zct, Zcu, Zcv, Zcw, Zcx, Zcy, Zcz, Zda, Zdb, Zdc, Zdd, Zde, Zdf, Zdg, Zdh, Zdi, Zdj, Zdk, Zdl, Zdm, Zdn, Zdo, Zdp, Zdq, Zdr, Zds, Zdt, Zdu, Zdv, Zdw, Int.toNat_natCast, Int.natCast_nonneg, Zdx, Zdy, Zdz, Zea, Zeb, Zec, Zed, Zee, Zef, Zeg, Zeh, Zei, Zej, Zek, Zel, Zem, Zen, Zeo, Zep, Zeq, Zer, Zes, Zet, Zeu, Zev, Zew, Zex, Zey, Zez, Zfa, Zfb, Zfc, Zfd, Zfe, Zff, Zfg, Zfh, Zfi, Zfj, Zfk, Zfl, Zfm, Zfn, Zfo, Zfp, Zfq, Zfr, Zfs, Zft, Zfu, Zfv, Zfw, Zfx, Zfy, Zfz, Zga, Zgb, Zgc, Zgd, Zge, Zgf, Zgg, Zgh, Zgi, Zgj, Zgk, Zgl, Zgm, Zgn, Zgo, Zgp, Zgq, Zgr, Zgs, Zgt, Zgu, Zgv, Zgw, Zgx, Zgy, Zgz, Zha, Zhb, Zhc, Zhd, Zhe, Zhf, Zhg, Zhh, Zhi, Zhj, Zhk, if_true, if_false, Bool.false_eq_true, Bool.true_eq_false, decide_eq_true_eq, reduceIte, Int.reduceLT, Int.reduceLE, Nat.reduceAdd, Nat.reduceLeDiff, Nat.reduceMul, Int.reduceNeg, Int.reduceAdd, Int.reduceMul, Int.reduceSub, Int.reducePow, Int.reduceToNat, and_self, and_true, true_and, Zhl, Zhm, Zhn, Zho, Zhp, Zhq, Zhr, Zhs, Zht, Zhu, Zhv, Zhw, Zhx, Zhy, Zhz, Zia, Zib, Zic, Zid, Zie, Zif, Zig, Zih, Zii, Zij, Zik, Zil, Zim, Zin, Zio, Ziq, Zir, Zis, Zit, Ziu, Ziv, Ziw, Zix, Int.reduceBEq, Ziy, Ziz, Zja, Zjb, Zjc, Zjd, Zje, Zjf, Zjg, Zjh, Zji, Zjj, Zjk, Zjl, Zjm, Zjn, Zjo, Zjp, Zjq, Zjr, Zjs, Zjt, Zju, Zjv, Zjw, Zjx, Zjy, Zjz, Zka, Zkb, Zkc, Zkd, Zke, Zkf, Zkg, Zkh, Zki, Zkj, Zkk, Zkl, Zkm, Zkn, Zko, Zkp, Zkq, Zkr, Zks, Zkt, Zku, Zkv, Zkw, Zkx, Zky, Zkz, Zla, Zlb, Zlc, Zld, Zle, Zlf, Zlg, Zlh, Zli]
    unfold c_law_L2
    simp only [Za, Zb, Zd, Ze, Zf, Zg, Zh, Zi, Zj, Zk, Zl, Zm, Zn, Zo, Zp, Zq, Zr, Zs, Zt, Zu, Zv, Zw, Zx, Zy, Zz, Zaa, Zab, Zac, Zad, Zae, Zaf, Zag, Zah, Zai, Zaj, Zak, Zal, Zam, Zan, Zao, Zap, Zaq, Zar, Zas, Zat, Zau, Zav, Zaw, Zax, Zay, Zaz, Zba, Zbb, Zbc, Zbd, Zbe, Zbf, Zbg, Zbh, Zbi, Zbj, Zbk, Zbl, Zbm, Zbn, Zbo, Zbp, Zbq, Zbr, Zbs, Zbt, Zbu, Zbv, Zbw, Zbx, Zby, Zbz, Zca, Zcb, Zcc, Zcd, Zce, Zcf, Zcg, Zch, Zci, Zcj, Zck, Zcl, Zcm, Zcn, Zco, Zcp, Zcq, Zcr, Zcs, Zct, Zcu, Zcv, Zcw, Zcx, Zcy, Zcz, Zda, Zdb, Zdc, Zdd, Zde, Zdf, Zdg, Zdh, Zdi, Zdj, Zdk, Zdl, Zdm, Zdn, Zdo, Zdp, Zdq, Zdr, Zds, Zdt, Zdu, Zdv, Zdw, Int.toNat_natCast, Int.natCast_nonneg, Zdx, Zdy, Zdz, Zea, Zeb, Zec, Zed, Zee, Zef, Zeg, Zeh, Zei, Zej, Zek, Zel, Zem, Zen, Zeo, Zep, Zeq, Zer, Zes, Zet, Zeu, Zev, Zew, Zex, Zey, Zez, Zfa, Zfb, Zfc, Zfd, Zfe, Zff, Zfg, Zfh, Zfi, Zfj, Zfk, Zfl, Zfm, Zfn, Zfo, Zfp, Zfq, Zfr, Zfs, Zft, Zfu, Zfv, Zfw, Zfx, Zfy, Zfz, Zga, Zgb, Zgc, Zgd, Zge, Zgf, Zgg, Zgh, Zgi, Zgj, Zgk, Zgl, Zgm, Zgn, Zgo, Zgp, Zgq, Zgr, Zgs, Zgt, Zgu, Zgv, Zgw, Zgx, Zgy, Zgz, Zha, Zhb, Zhc, Zhd, Zhe, Zhf, Zhg, Zhh, Zhi, Zhj, Zhk, if_true, if_false, Bool.false_eq_true, Bool.true_eq_false, decide_eq_true_eq, reduceIte, Int.reduceLT, Int.reduceLE, Nat.reduceAdd, Nat.reduceLeDiff, Nat.reduceMul, Int.reduceNeg, Int.reduceAdd, Int.reduceMul, Int.reduceSub, Int.reducePow, Int.reduceToNat, and_self, and_true, true_and, Zhl, Zhm, Zhn, Zho, Zhp, Zhq, Zhr, Zhs, Zht, Zhu, Zhv, Zhw, Zhx, Zhy, Zhz, Zia, Zib, Zic, Zid, Zie, Zif, Zig, Zih, Zii, Zij, Zik, Zil, Zim, Zin, Zio, Ziq, Zir, Zis, Zit, Ziu, Ziv, Ziw, Zix, Int.reduceBEq, Ziy, Ziz, Zja, Zjb, Zjc, Zjd, Zje, Zjf, Zjg, Zjh, Zji, Zjj, Zjk, Zjl, Zjm, Zjn, Zjo, Zjp, Zjq, Zjr, Zjs, Zjt, Zju, Zjv, Zjw, Zjx, Zjy, Zjz, Zka, Zkb, Zkc, Zkd, Zke, Zkf, Zkg, Zkh, Zki, Zkj, Zkk, Zkl, Zkm, Zkn, Zko, Zkp, Zkq, Zkr, Zks, Zkt, Zku, Zkv, Zkw, Zkx, Zky, Zkz, Zla, Zlb, Zlc, Zld, Zle, Zlf, Zlg, Zlh, Zli]
    refine FK_rng (fun i ρ => ∃ u3 u4 u5 u6, ρ = [some (.lst (ns.map .int)), some (.tup (D.str r :: h'.map D.str)), some (.str (joinL [10] (r :: h'))), u3, u4, u5, u6]) ⟨_, _, _, _, rfl⟩ ?_ ?_
    · rintro i ρ hi ⟨u3, u4, u5, u6, rfl⟩
      have d2 := depS (r :: h')
      rw [e0] at d2
      have q2 := eqH (r :: h')
      simp only [List.map_cons] at q2
      unfold c_law_B2
      simp only [Za, Zb, Zd, Ze, Zf, Zg, Zh, Zi, Zj, Zk, Zl, Zm, Zn, Zo, Zp, Zq, Zr, Zs, Zt, Zu, Zv, Zw, Zx, Zy, Zz, Zaa, Zab, Zac, Zad, Zae, Zaf, Zag, Zah, Zai, Zaj, Zak, Zal, Zam, Zan, Zao, Zap, Zaq, Zar, Zas, Zat, Zau, Zav, Zaw, Zax, Zay, Zaz, Zba, Zbb, Zbc, Zbd, Zbe, Zbf, Zbg, Zbh, Zbi, Zbj, Zbk, Zbl, Zbm, Zbn, Zbo, Zbp, Zbq, Zbr, Zbs, Zbt, Zbu, Zbv, Zbw, Zbx, Zby, Zbz, Zca, Zcb, Zcc, Zcd, Zce, Zcf, Zcg, Zch, Zci, Zcj, Zck, Zcl, Zcm, Zcn, Zco, Zcp, Zcq, Zcr, Zcs, Zct, Zcu, Zcv, Zcw, Zcx, Zcy, Zcz, Zda, Zdb, Zdc, Zdd, Zde, Zdf, Zdg, Zdh, Zdi, Zdj, Zdk, Zdl, Zdm, Zdn, Zdo, Zdp, Zdq, Zdr, Zds, Zdt, Zdu, Zdv, Zdw, Int.toNat_natCast, Int.natCast_nonneg, Zdx, Zdy, Zdz, Zea, Zeb, Zec, Zed, Zee, Zef, Zeg, Zeh, Zei, Zej, Zek, Zel, Zem, Zen, Zeo, Zep, Zeq, Zer, Zes, Zet, Zeu, Zev, Zew, Zex, Zey, Zez, Zfa, Zfb, Zfc, Zfd, Zfe, Zff, Zfg, Zfh, Zfi, Zfj, Zfk, Zfl, Zfm, Zfn, Zfo, Zfp, Zfq, Zfr, Zfs, Zft, Zfu, Zfv, Zfw, Zfx, Zfy, Zfz, Zga, Zgb, Zgc, Zgd, Zge, Zgf, Zgg, Zgh, Zgi, Zgj, Zgk, Zgl, Zgm, Zgn, Zgo, Zgp, Zgq, Zgr, Zgs, Zgt, Zgu, Zgv, Zgw, Zgx, Zgy, Zgz, Zha, Zhb, Zhc, Zhd, Zhe, Zhf, Zhg, Zhh, Zhi, Zhj, Zhk, if_true, if_false, Bool.false_eq_true, Bool.true_eq_false, decide_eq_true_eq, reduceIte, Int.reduceLT, Int.reduceLE, Nat.reduceAdd, Nat.reduceLeDiff, Nat.reduceMul, Int.reduceNeg, Int.reduceAdd, Int.reduceMul, Int.reduceSub, Int.reducePow, Int.reduceToNat, and_self, and_true, true_and, Zhl, Zhm, Zhn, Zho, Zhp, Zhq, Zhr, Zhs, Zht, Zhu, Zhv, Zhw, Zhx, Zhy, Zhz, Zia, Zib, Zic, Zid, Zie, Zif, Zig, Zih, Zii, Zij, Zik, Zil, Zim, Zin, Zio, Ziq, Zir, Zis, Zit, Ziu, Ziv, Ziw, Zix, Int.reduceBEq, Ziy, Ziz, Zja, Zjb, Zjc, Zjd, Zje, Zjf, Zjg, Zjh, Zji, Zjj, Zjk, Zjl, Zjm, Zjn, Zjo, Zjp, Zjq, Zjr, Zjs, Zjt, Zju, Zjv, Zjw, Zjx, Zjy, Zjz, Zka, Zkb, Zkc, Zkd, Zke, Zkf, Zkg, Zkh, Zki, Zkj, Zkk, Zkl, Zkm, Zkn, Zko, Zkp, Zkq, Zkr, Zks, Zkt, Zku, Zkv, Zkw, Zkx, Zky, Zkz, Zla, Zlb, Zlc, Zld, Zle, Zlf, Zlg, Zlh, Zli, sh, rh, beq_self_eq_true, Bool.not_true]
      rw [show D.str r :: h'.map D.str = (r :: h').map D.str from rfl, compQ (fun _ => false) (fun (s : List Nat) => D.str s) (fun s _ => by simp only [Za, Zb, Zd, Ze, Zf, Zg, Zh, Zi, Zj, Zk, Zl, Zm, Zn, Zo, Zp, Zq, Zr, Zs, Zt, Zu, Zv, Zw, Zx, Zy, Zz, Zaa, Zab, Zac, Zad, Zae, Zaf, Zag, Zah, Zai, Zaj, Zak, Zal, Zam, Zan, Zao, Zap, Zaq, Zar, Zas, Zat, Zau, Zav, Zaw, Zax, Zay, Zaz, Zba, Zbb, Zbc, Zbd, Zbe, Zbf, Zbg, Zbh, Zbi, Zbj, Zbk, Zbl, Zbm, Zbn, Zbo, Zbp, Zbq, Zbr, Zbs, Zbt, Zbu, Zbv, Zbw, Zbx, Zby, Zbz, Zca, Zcb, Zcc, Zcd, Zce, Zcf, Zcg, Zch, Zci, Zcj, Zck, Zcl, Zcm, Zcn, Zco, Zcp, Zcq, Zcr, Zcs, Zct, Zcu, Zcv, Zcw, Zcx, Zcy, Zcz, Zda, Zdb, Zdc, Zdd, Zde, Zdf, Zdg, Zdh, Zdi, Zdj, Zdk, Zdl, Zdm, Zdn, Zdo, Zdp, Zdq, Zdr, Zds, Zdt, Zdu, Zdv, Zdw, Int.toNat_natCast, Int.natCast_nonneg, Zdx, Zdy, Zdz, Zea, Zeb, Zec, Zed, Zee, Zef, Zeg, Zeh, Zei, Zej, Zek, Zel, Zem, Zen, Zeo, Zep, Zeq, Zer, Zes, Zet, Zeu, Zev, Zew, Zex, Zey, Zez, Zfa, Zfb, Zfc, Zfd, Zfe, Zff, Zfg, Zfh, Zfi, Zfj, Zfk, Zfl, Zfm, Zfn, Zfo, Zfp, Zfq, Zfr, Zfs, Zft, Zfu, Zfv, Zfw, Zfx, Zfy, Zfz, Zga, Zgb, Zgc, Zgd, Zge, Zgf, Zgg, Zgh, Zgi, Zgj, Zgk, Zgl, Zgm, Zgn, Zgo, Zgp, Zgq, Zgr, Zgs, Zgt, Zgu, Zgv, Zgw, Zgx, Zgy, Zgz, Zha, Zhb, Zhc, Zhd, Zhe, Zhf, Zhg, Zhh, Zhi, Zhj, Zhk, if_true, if_false, Bool.false_eq_true, Bool.true_eq_false, decide_eq_true_eq, reduceIte, Int.reduceLT, Int.reduceLE, Nat.reduceAdd, Nat.reduceLeDiff, Nat.reduceMul, Int.reduceNeg, Int.reduceAdd, Int.reduceMul, Int.reduceSub, Int.reducePow, Int.reduceToNat, and_self, and_true, true_and, Zhl, Zhm, Zhn, Zho, Zhp, Zhq, Zhr, Zhs, Zht, Zhu, Zhv, Zhw, Zhx, Zhy, Zhz, Zia, Zib, Zic, Zid, Zie, Zif, Zig, Zih, Zii, Zij, Zik, Zil, Zim, Zin, Zio, Ziq, Zir, Zis, Zit, Ziu, Ziv, Ziw, Zix, Int.reduceBEq, Ziy, Ziz, Zja, Zjb, Zjc, Zjd, Zje, Zjf, Zjg, Zjh, Zji, Zjj, Zjk, Zjl, Zjm, Zjn, Zjo, Zjp, Zjq, Zjr, Zjs, Zjt, Zju, Zjv, Zjw, Zjx, Zjy, Zjz, Zka, Zkb, Zkc, Zkd, Zke, Zkf, Zkg, Zkh, Zki, Zkj, Zkk, Zkl, Zkm, Zkn, Zko, Zkp, Zkq, Zkr, Zks, Zkt, Zku, Zkv, Zkw, Zkx, Zky, Zkz, Zla, Zlb, Zlc, Zld, Zle, Zlf, Zlg, Zlh, Zli])]
      simp only [Zdx, Zbw]
      have ef : (r :: h').filter (fun _ => false) = [] := by simp
      rw [ef, lstR_le (le_SZ (by simp))]
      rw [show D.str r :: h'.map D.str = (r :: h').map D.str from rfl] at d2 q2
      simp only [Za, Zb, Zd, Ze, Zf, Zg, Zh, Zi, Zj, Zk, Zl, Zm, Zn, Zo, Zp, Zq, Zr, Zs, Zt, Zu, Zv, Zw, Zx, Zy, Zz, Zaa, Zab, Zac, Zad, Zae, Zaf, Zag, Zah, Zai, Zaj, Zak, Zal, Zam, Zan, Zao, Zap, Zaq, Zar, Zas, Zat, Zau, Zav, Zaw, Zax, Zay, Zaz, Zba, Zbb, Zbc, Zbd, Zbe, Zbf, Zbg, Zbh, Zbi, Zbj, Zbk, Zbl, Zbm, Zbn, Zbo, Zbp, Zbq, Zbr, Zbs, Zbt, Zbu, Zbv, Zbw, Zbx, Zby, Zbz, Zca, Zcb, Zcc, Zcd, Zce, Zcf, Zcg, Zch, Zci, Zcj, Zck, Zcl, Zcm, Zcn, Zco, Zcp, Zcq, Zcr, Zcs, Zct, Zcu, Zcv, Zcw, Zcx, Zcy, Zcz, Zda, Zdb, Zdc, Zdd, Zde, Zdf, Zdg, Zdh, Zdi, Zdj, Zdk, Zdl, Zdm, Zdn, Zdo, Zdp, Zdq, Zdr, Zds, Zdt, Zdu, Zdv, Zdw, Int.toNat_natCast, Int.natCast_nonneg, Zdx, Zdy, Zdz, Zea, Zeb, Zec, Zed, Zee, Zef, Zeg, Zeh, Zei, Zej, Zek, Zel, Zem, Zen, Zeo, Zep, Zeq, Zer, Zes, Zet, Zeu, Zev, Zew, Zex, Zey, Zez, Zfa, Zfb, Zfc, Zfd, Zfe, Zff, Zfg, Zfh, Zfi, Zfj, Zfk, Zfl, Zfm, Zfn, Zfo, Zfp, Zfq, Zfr, Zfs, Zft, Zfu, Zfv, Zfw, Zfx, Zfy, Zfz, Zga, Zgb, Zgc, Zgd, Zge, Zgf, Zgg, Zgh, Zgi, Zgj, Zgk, Zgl, Zgm, Zgn, Zgo, Zgp, Zgq, Zgr, Zgs, Zgt, Zgu, Zgv, Zgw, Zgx, Zgy, Zgz, Zha, Zhb, Zhc, Zhd, Zhe, Zhf, Zhg, Zhh, Zhi, Zhj, Zhk, if_true, if_false, Bool.false_eq_true, Bool.true_eq_false, decide_eq_true_eq, reduceIte, Int.reduceLT, Int.reduceLE, Nat.reduceAdd, Nat.reduceLeDiff, Nat.reduceMul, Int.reduceNeg, Int.reduceAdd, Int.reduceMul, Int.reduceSub, Int.reducePow, Int.reduceToNat, and_self, and_true, true_and, Zhl, Zhm, Zhn, Zho, Zhp, Zhq, Zhr, Zhs, Zht, Zhu, Zhv, Zhw, Zhx, Zhy, Zhz, Zia, Zib, Zic, Zid, Zie, Zif, Zig, Zih, Zii, Zij, Zik, Zil, Zim, Zin, Zio, Ziq, Zir, Zis, Zit, Ziu, Ziv, Ziw, Zix, Int.reduceBEq, Ziy, Ziz, Zja, Zjb, Zjc, Zjd, Zje, Zjf, Zjg, Zjh, Zji, Zjj, Zjk, Zjl, Zjm, Zjn, Zjo, Zjp, Zjq, Zjr, Zjs, Zjt, Zju, Zjv, Zjw, Zjx, Zjy, Zjz, Zka, Zkb, Zkc, Zkd, Zke, Zkf, Zkg, Zkh, Zki, Zkj, Zkk, Zkl, Zkm, Zkn, Zko, Zkp, Zkq, Zkr, Zks, Zkt, Zku, Zkv, Zkw, Zkx, Zky, Zkz, Zla, Zlb, Zlc, Zld, Zle, Zlf, Zlg, Zlh, Zli, List.map_nil, eqH, eqH h', beq_self_eq_true, Bool.not_true, List.map_cons]

      exact ⟨_, _, _, _, rfl⟩
    · rintro ρ ⟨u3, u4, u5, u6, rfl⟩
      simp only [Za, Zb, Zd, Ze, Zf, Zg, Zh, Zi, Zj, Zk, Zl, Zm, Zn, Zo, Zp, Zq, Zr, Zs, Zt, Zu, Zv, Zw, Zx, Zy, Zz, Zaa, Zab, Zac, Zad, Zae, Zaf, Zag, Zah, Zai, Zaj, Zak, Zal, Zam, Zan, Zao, Zap, Zaq, Zar, Zas, Zat, Zau, Zav, Zaw, Zax, Zay, Zaz, Zba, Zbb, Zbc, Zbd, Zbe, Zbf, Zbg, Zbh, Zbi, Zbj, Zbk, Zbl, Zbm, Zbn, Zbo, Zbp, Zbq, Zbr, Zbs, Zbt, Zbu, Zbv, Zbw, Zbx, Zby, Zbz, Zca, Zcb, Zcc, Zcd, Zce, Zcf, Zcg, Zch, Zci, Zcj, Zck, Zcl, Zcm, Zcn, Zco, Zcp, Zcq, Zcr, Zcs, Zct, Zcu, Zcv, Zcw, Zcx, Zcy, Zcz, Zda, Zdb, Zdc, Zdd, Zde, Zdf, Zdg, Zdh, Zdi, Zdj, Zdk, Zdl, Zdm, Zdn, Zdo, Zdp, Zdq, Zdr, Zds, Zdt, Zdu, Zdv, Zdw, Int.toNat_natCast, Int.natCast_nonneg, Zdx, Zdy, Zdz, Zea, Zeb, Zec, Zed, Zee, Zef, Zeg, Zeh, Zei, Zej, Zek, Zel, Zem, Zen, Zeo, Zep, Zeq, Zer, Zes, Zet, Zeu, Zev, Zew, Zex, Zey, Zez, Zfa, Zfb, Zfc, Zfd, Zfe, Zff, Zfg, Zfh, Zfi, Zfj, Zfk, Zfl, Zfm, Zfn, Zfo, Zfp, Zfq, Zfr, Zfs, Zft, Zfu, Zfv, Zfw, Zfx, Zfy, Zfz, Zga, Zgb, Zgc, Zgd, Zge, Zgf, Zgg, Zgh, Zgi, Zgj, Zgk, Zgl, Zgm, Zgn, Zgo, Zgp, Zgq, Zgr, Zgs, Zgt, Zgu, Zgv, Zgw, Zgx, Zgy, Zgz, Zha, Zhb, Zhc, Zhd, Zhe, Zhf, Zhg, Zhh, Zhi, Zhj, Zhk, if_true, if_false, Bool.false_eq_true, Bool.true_eq_false, decide_eq_true_eq, reduceIte, Int.reduceLT, Int.reduceLE, Nat.reduceAdd, Nat.reduceLeDiff, Nat.reduceMul, Int.reduceNeg, Int.reduceAdd, Int.reduceMul, Int.reduceSub, Int.reducePow, Int.reduceToNat, and_self, and_true, true_and, Zhl, Zhm, Zhn, Zho, Zhp, Zhq, Zhr, Zhs, Zht, Zhu, Zhv, Zhw, Zhx, Zhy, Zhz, Zia, Zib, Zic, Zid, Zie, Zif, Zig, Zih, Zii, Zij, Zik, Zil, Zim, Zin, Zio, Ziq, Zir, Zis, Zit, Ziu, Ziv, Ziw, Zix, Int.reduceBEq, Ziy, Ziz, Zja, Zjb, Zjc, Zjd, Zje, Zjf, Zjg, Zjh, Zji, Zjj, Zjk, Zjl, Zjm, Zjn, Zjo, Zjp, Zjq, Zjr, Zjs, Zjt, Zju, Zjv, Zjw, Zjx, Zjy, Zjz, Zka, Zkb, Zkc, Zkd, Zke, Zkf, Zkg, Zkh, Zki, Zkj, Zkk, Zkl, Zkm, Zkn, Zko, Zkp, Zkq, Zkr, Zks, Zkt, Zku, Zkv, Zkw, Zkx, Zky, Zkz, Zla, Zlb, Zlc, Zld, Zle, Zlf, Zlg, Zlh, Zli]
end Ps
end
section
set_option maxHeartbeats 0
namespace Ps
open PySem PySem.Spec PyProof.Rows L2
def top (i : Nat) : Stmt := PySem.Challenge.pw_besideseats_k10_halls_written_and_read.main.body.getD i (.Pass ⟨0, 0, 0, 0⟩)
def d_is_row : He.DefD := ⟨("is_row", none), "is_row", "is_row", defArgs (top 8), defBody (top 8), defScope (top 8), [], []⟩
def N_is_row : List Str := ["thing", "long", "sign"]
def s_is_row : Sig := ⟨"is_row", "is_row", 2, [], [], [], [], [], none⟩
theorem sc_is_row : FnScope N_is_row ["thing", "long"] (defScope (top 8)) := ⟨rfl, rfl, rfl, by decide +kernel, rfl, by decide +kernel, by decide +kernel⟩
def d_is_hall : He.DefD := ⟨("is_hall", none), "is_hall", "is_hall", defArgs (top 9), defBody (top 9), defScope (top 9), [], []⟩
def N_is_hall : List Str := ["thing", "row"]
def s_is_hall : Sig := ⟨"is_hall", "is_hall", 1, [], [], [], [], [], none⟩
theorem sc_is_hall : FnScope N_is_hall ["thing"] (defScope (top 9)) := ⟨rfl, rfl, rfl, by decide +kernel, rfl, by decide +kernel, by decide +kernel⟩
def d_show_hall : He.DefD := ⟨("show_hall", none), "show_hall", "show_hall", defArgs (top 11), defBody (top 11), defScope (top 11), [], []⟩
def N_show_hall : List Str := ["hall"]
def s_show_hall : Sig := ⟨"show_hall", "show_hall", 1, [], [], [], [], [], none⟩
theorem sc_show_hall : FnScope N_show_hall ["hall"] (defScope (top 11)) := ⟨rfl, rfl, rfl, by decide +kernel, rfl, by decide +kernel, by decide +kernel⟩
def d_read_hall : He.DefD := ⟨("read_hall", none), "read_hall", "read_hall", defArgs (top 12), defBody (top 12), defScope (top 12), [], []⟩
def N_read_hall : List Str := ["text", "hall"]
def s_read_hall : Sig := ⟨"read_hall", "read_hall", 1, [], [], [], [], [], none⟩
theorem sc_read_hall : FnScope N_read_hall ["text"] (defScope (top 12)) := ⟨rfl, rfl, rfl, by decide +kernel, rfl, by decide +kernel, by decide +kernel⟩
def d__law_cell_at : He.DefD := ⟨("_law_cell_at", none), "_law_cell_at", "_law_cell_at", defArgs (top 14), defBody (top 14), defScope (top 14), [], []⟩
def N__law_cell_at : List Str := ["_law_script", "_law_k"]
def s__law_cell_at : Sig := ⟨"_law_cell_at", "_law_cell_at", 2, [], [], [], [], [], none⟩
theorem sc__law_cell_at : FnScope N__law_cell_at ["_law_script", "_law_k"] (defScope (top 14)) := ⟨rfl, rfl, rfl, by decide +kernel, rfl, by decide +kernel, by decide +kernel⟩
def d__law_mixed : He.DefD := ⟨("_law_mixed", none), "_law_mixed", "_law_mixed", defArgs (top 15), defBody (top 15), defScope (top 15), [], []⟩
def N__law_mixed : List Str := ["_law_cell", "_law_k", "_law_number"]
def s__law_mixed : Sig := ⟨"_law_mixed", "_law_mixed", 2, [], [], [], [], [], none⟩
theorem sc__law_mixed : FnScope N__law_mixed ["_law_cell", "_law_k"] (defScope (top 15)) := ⟨rfl, rfl, rfl, by decide +kernel, rfl, by decide +kernel, by decide +kernel⟩
def d__law_letters : He.DefD := ⟨("_law_letters", none), "_law_letters", "_law_letters", defArgs (top 16), defBody (top 16), defScope (top 16), [], []⟩
def N__law_letters : List Str := ["_law_head", "_law_letters_here"]
def s__law_letters : Sig := ⟨"_law_letters", "_law_letters", 1, [], [], [], [], [], none⟩
theorem sc__law_letters : FnScope N__law_letters ["_law_head"] (defScope (top 16)) := ⟨rfl, rfl, rfl, by decide +kernel, rfl, by decide +kernel, by decide +kernel⟩
def d__law_hall : He.DefD := ⟨("_law_hall", none), "_law_hall", "_law_hall", defArgs (top 17), defBody (top 17), defScope (top 17), [], []⟩
def N__law_hall : List Str := ["_law_cells", "_law_head", "_law_most_rows", "_law_most_seats", "_law_rows", "_law_long", "_law_some", "_law_left", "_law_found", "_law_k", "_law_sign"]
def s__law_hall : Sig := ⟨"_law_hall", "_law_hall", 4, [], [], [], [], [], none⟩
theorem sc__law_hall : FnScope N__law_hall ["_law_cells", "_law_head", "_law_most_rows", "_law_most_seats"] (defScope (top 17)) := ⟨rfl, rfl, rfl, by decide +kernel, rfl, by decide +kernel, by decide +kernel⟩
def d_law : He.DefD := ⟨("law", none), "law", "law", defArgs (top 18), defBody (top 18), defScope (top 18), [], []⟩
def N_law : List Str := ["_law_script", "_law_hall_here", "_law_text", "_law_row", "_law_k", "_law_told", "_law_found"]
def s_law : Sig := ⟨"law", "law", 1, [], [], [], [], [], none⟩
theorem sc_law : FnScope N_law ["_law_script"] (defScope (top 18)) := ⟨rfl, rfl, rfl, by decide +kernel, rfl, by decide +kernel, by decide +kernel⟩
def sg : List Sig := [s_is_row, s_is_hall, s_show_hall, s_read_hall, s__law_cell_at, s__law_mixed, s__law_letters, s__law_hall, s_law]
def cl : List ClsT := []
def TT : Tab := ⟨sg, [("SIGNS", (.str txSigns)), ("MOST_ROWS", (.int 6)), ("MOST_SEATS", (.int 12))], cl, none, [⟨"SeatError", "SeatError", true⟩, ⟨"NoText", "NoText", true⟩], []⟩
theorem t_is_row (z : Nat → Addr) : trB TT N_is_row (defScope (top 8)) BFU [] (ow0 s_is_row z) (defBody (top 8)) = some (c_is_row, []) := by kernel_rfl
theorem t_is_hall (z : Nat → Addr) : trB TT N_is_hall (defScope (top 9)) BFU [] (ow0 s_is_hall z) (defBody (top 9)) = some (c_is_hall, []) := by kernel_rfl
theorem t_show_hall (z : Nat → Addr) : trB TT N_show_hall (defScope (top 11)) BFU [] (ow0 s_show_hall z) (defBody (top 11)) = some (c_show_hall, []) := by kernel_rfl
theorem t_read_hall (z : Nat → Addr) : trB TT N_read_hall (defScope (top 12)) BFU [] (ow0 s_read_hall z) (defBody (top 12)) = some (c_read_hall, []) := by kernel_rfl
theorem t__law_cell_at (z : Nat → Addr) : trB TT N__law_cell_at (defScope (top 14)) BFU [] (ow0 s__law_cell_at z) (defBody (top 14)) = some (c__law_cell_at, []) := by kernel_rfl
theorem t__law_mixed (z : Nat → Addr) : trB TT N__law_mixed (defScope (top 15)) BFU [] (ow0 s__law_mixed z) (defBody (top 15)) = some (c__law_mixed, []) := by kernel_rfl
theorem t__law_letters (z : Nat → Addr) : trB TT N__law_letters (defScope (top 16)) BFU [] (ow0 s__law_letters z) (defBody (top 16)) = some (c__law_letters, []) := by kernel_rfl
theorem t__law_hall (z : Nat → Addr) : trB TT N__law_hall (defScope (top 17)) BFU [] (ow0 s__law_hall z) (defBody (top 17)) = some (c__law_hall, [8]) := by kernel_rfl
theorem t_law (z : Nat → Addr) : trB TT N_law (defScope (top 18)) BFU [] (ow0 s_law z) (defBody (top 18)) = some (c_law, []) := by kernel_rfl
def fn : List He.DefD := [d_is_row, d_is_hall, d_show_hall, d_read_hall, d__law_cell_at, d__law_mixed, d__law_letters, d__law_hall, d_law]
def fa : List He.Fa := [.glo "is_row", .glo "is_hall", .glo "show_hall", .glo "read_hall", .glo "_law_cell_at", .glo "_law_mixed", .glo "_law_letters", .glo "_law_hall", .glo "law", .free "sorted", .free "set", .free "len", .free "tuple", .free "list", .free "int", .free "sum", .free "all", .free "max", .free "min", .free "isinstance", .free "str", .free "bool", .free "range", .free "enumerate", .free "zip", .str "SIGNS" ".=#abcdefghijklmnopqrstuvwxyz", .int "MOST_ROWS" 6, .int "MOST_SEATS" 12, .glo "SeatError", .glo "NoText", .free "ValueError"]
def tf : List He.Defn := []
abbrev R : PySem.W.OpenRow := PySem.W.OpenLaw.row PySem.Challenge.rw_besideseats_k10_halls_written_and_read
abbrev hk : PySem.W.Hook := He.hookX 6 fa fn [] tf (xcsB TT)
def ob (s : PySem.W.SharedT) : He.AlX := He.obsX 6 fa fn [] tf (xcsB TT) (HandSHeadRun.getT s)
theorem ob_eq (s : PySem.W.SharedT) : ob s = hk.obs s.abs := He.obsX_eq (HandSHeadRun.getT_eq s)
def loose : List PySem.Str := ["SeatError", "NoText", "LETTERS", "SIGNS", "MOST_ROWS", "MOST_SEATS", "is_row", "is_hall", "show_hall", "read_hall", "_law_cell_at", "_law_mixed", "_law_letters", "_law_hall"]
theorem run_top (w : World) : HandSHeadRun.RunEq R (PySem.W.view R.prog [18]) hk ob 7960 loose w := by
  intro os
  kernel_rfl
theorem topOk {K : PySem.W.Frag} {h : Heap} {mg : Str → Option Value} (X : K.In h) (G : h.Ns mainGlobals mg) (c : He.SaysD fa fn K) (ex : xcsB TT K = true) : @Top (mkT none) TT PG K mg := by
  letI : Tbs := mkT none
  refine ⟨fun s hs => ?_, fun x d hx => ?_, fun x hx => ?_, fun k hk => ?_, fun k hk => xcsB_ok ex hk ?_ ?_, fun hne => ?_, fun p hp => ?_⟩
  · simp only [TT, sg, List.mem_cons, List.not_mem_nil, or_false] at hs
    rcases hs with rfl | rfl | rfl | rfl | rfl | rfl | rfl | rfl | rfl
    · obtain ⟨fd, F⟩ := c.def_ 0 (d := d_is_row) rfl
      have gl := He.glo_ok X G (c.fact 0 (f := .glo "is_row") rfl)
      exact ⟨⟨_, fd, _, _, _, _, _, _, _, N_is_row, _, c_is_row, _, F, gl, sc_is_row, t_is_row, rfl, rfl, and3 (bindsP F ⟨rfl, rfl⟩ fun _ _ _ _ _ _ us hl => match us, hl with | [_, _], _ => rfl) (fun z => by cases z)⟩, by decide⟩
    · obtain ⟨fd, F⟩ := c.def_ 1 (d := d_is_hall) rfl
      have gl := He.glo_ok X G (c.fact 1 (f := .glo "is_hall") rfl)
      exact ⟨⟨_, fd, _, _, _, _, _, _, _, N_is_hall, _, c_is_hall, _, F, gl, sc_is_hall, t_is_hall, rfl, rfl, and3 (bindsP F ⟨rfl, rfl⟩ fun _ _ _ _ _ _ us hl => match us, hl with | [_], _ => rfl) (fun z => by cases z)⟩, by decide⟩
    · obtain ⟨fd, F⟩ := c.def_ 2 (d := d_show_hall) rfl
      have gl := He.glo_ok X G (c.fact 2 (f := .glo "show_hall") rfl)
      exact ⟨⟨_, fd, _, _, _, _, _, _, _, N_show_hall, _, c_show_hall, _, F, gl, sc_show_hall, t_show_hall, rfl, rfl, and3 (bindsP F ⟨rfl, rfl⟩ fun _ _ _ _ _ _ us hl => match us, hl with | [_], _ => rfl) (fun z => by cases z)⟩, by decide⟩
    · obtain ⟨fd, F⟩ := c.def_ 3 (d := d_read_hall) rfl
      have gl := He.glo_ok X G (c.fact 3 (f := .glo "read_hall") rfl)
      exact ⟨⟨_, fd, _, _, _, _, _, _, _, N_read_hall, _, c_read_hall, _, F, gl, sc_read_hall, t_read_hall, rfl, rfl, and3 (bindsP F ⟨rfl, rfl⟩ fun _ _ _ _ _ _ us hl => match us, hl with | [_], _ => rfl) (fun z => by cases z)⟩, by decide⟩
    · obtain ⟨fd, F⟩ := c.def_ 4 (d := d__law_cell_at) rfl
      have gl := He.glo_ok X G (c.fact 4 (f := .glo "_law_cell_at") rfl)
      exact ⟨⟨_, fd, _, _, _, _, _, _, _, N__law_cell_at, _, c__law_cell_at, _, F, gl, sc__law_cell_at, t__law_cell_at, rfl, rfl, and3 (bindsP F ⟨rfl, rfl⟩ fun _ _ _ _ _ _ us hl => match us, hl with | [_, _], _ => rfl) (fun z => by cases z)⟩, by decide⟩
    · obtain ⟨fd, F⟩ := c.def_ 5 (d := d__law_mixed) rfl
      have gl := He.glo_ok X G (c.fact 5 (f := .glo "_law_mixed") rfl)
      exact ⟨⟨_, fd, _, _, _, _, _, _, _, N__law_mixed, _, c__law_mixed, _, F, gl, sc__law_mixed, t__law_mixed, rfl, rfl, and3 (bindsP F ⟨rfl, rfl⟩ fun _ _ _ _ _ _ us hl => match us, hl with | [_, _], _ => rfl) (fun z => by cases z)⟩, by decide⟩
    · obtain ⟨fd, F⟩ := c.def_ 6 (d := d__law_letters) rfl
      have gl := He.glo_ok X G (c.fact 6 (f := .glo "_law_letters") rfl)
      exact ⟨⟨_, fd, _, _, _, _, _, _, _, N__law_letters, _, c__law_letters, _, F, gl, sc__law_letters, t__law_letters, rfl, rfl, and3 (bindsP F ⟨rfl, rfl⟩ fun _ _ _ _ _ _ us hl => match us, hl with | [_], _ => rfl) (fun z => by cases z)⟩, by decide⟩
    · obtain ⟨fd, F⟩ := c.def_ 7 (d := d__law_hall) rfl
      have gl := He.glo_ok X G (c.fact 7 (f := .glo "_law_hall") rfl)
      exact ⟨⟨_, fd, _, _, _, _, _, _, _, N__law_hall, _, c__law_hall, _, F, gl, sc__law_hall, t__law_hall, rfl, rfl, and3 (bindsP F ⟨rfl, rfl⟩ fun _ _ _ _ _ _ us hl => match us, hl with | [_, _, _, _], _ => rfl) (fun z => by cases z)⟩, by decide⟩
    · obtain ⟨fd, F⟩ := c.def_ 8 (d := d_law) rfl
      have gl := He.glo_ok X G (c.fact 8 (f := .glo "law") rfl)
      exact ⟨⟨_, fd, _, _, _, _, _, _, _, N_law, _, c_law, _, F, gl, sc_law, t_law, rfl, rfl, and3 (bindsP F ⟨rfl, rfl⟩ fun _ _ _ _ _ _ us hl => match us, hl with | [_], _ => rfl) (fun z => by cases z)⟩, by decide⟩
  · simp only [TT] at hx
    revert hx
    intro hx
    rcases lookup_cons hx with ⟨rfl, rfl⟩ | hx
    · obtain ⟨t, e⟩ := He.str_ok X G (c.fact 25 (f := .str "SIGNS" ".=#abcdefghijklmnopqrstuvwxyz") rfl)
      exact ⟨_, .str ".=#abcdefghijklmnopqrstuvwxyz", e, ⟨t, rfl⟩, fun _ => .str (by decide +kernel) ⟨by decide +kernel, by decide +kernel⟩⟩
    rcases lookup_cons hx with ⟨rfl, rfl⟩ | hx
    · obtain ⟨t, e⟩ := He.int_ok X G (c.fact 26 (f := .int "MOST_ROWS" 6) rfl)
      exact ⟨_, .int 6, e, ⟨t, rfl⟩, fun _ => .int _⟩
    rcases lookup_cons hx with ⟨rfl, rfl⟩ | hx
    · obtain ⟨t, e⟩ := He.int_ok X G (c.fact 27 (f := .int "MOST_SEATS" 12) rfl)
      exact ⟨_, .int 12, e, ⟨t, rfl⟩, fun _ => .int _⟩
    cases hx
  · simp only [bltNames, List.mem_cons, List.not_mem_nil, or_false] at hx
    rcases hx with rfl | rfl | rfl | rfl | rfl | rfl | rfl | rfl | rfl | rfl | rfl | rfl | rfl | rfl | rfl | rfl
    · exact He.free_ok X G (c.fact 9 (f := .free "sorted") rfl)
    · exact He.free_ok X G (c.fact 10 (f := .free "set") rfl)
    · exact He.free_ok X G (c.fact 11 (f := .free "len") rfl)
    · exact He.free_ok X G (c.fact 12 (f := .free "tuple") rfl)
    · exact He.free_ok X G (c.fact 13 (f := .free "list") rfl)
    · exact He.free_ok X G (c.fact 14 (f := .free "int") rfl)
    · exact He.free_ok X G (c.fact 15 (f := .free "sum") rfl)
    · exact He.free_ok X G (c.fact 16 (f := .free "all") rfl)
    · exact He.free_ok X G (c.fact 17 (f := .free "max") rfl)
    · exact He.free_ok X G (c.fact 18 (f := .free "min") rfl)
    · exact He.free_ok X G (c.fact 19 (f := .free "isinstance") rfl)
    · exact He.free_ok X G (c.fact 20 (f := .free "str") rfl)
    · exact He.free_ok X G (c.fact 21 (f := .free "bool") rfl)
    · exact He.free_ok X G (c.fact 22 (f := .free "range") rfl)
    · exact He.free_ok X G (c.fact 23 (f := .free "enumerate") rfl)
    · exact He.free_ok X G (c.fact 24 (f := .free "zip") rfl)
  · simp [TT, cl] at hk
  · simp only [TT, List.mem_cons, List.not_mem_nil, or_false] at hk
    rcases hk with rfl | rfl <;> rfl
  · simp only [TT, List.mem_cons, List.not_mem_nil, or_false] at hk
    rcases hk with rfl | rfl
    · exact He.glo_ok X G (c.fact 28 (f := .glo "SeatError") rfl)
    · exact He.glo_ok X G (c.fact 29 (f := .glo "NoText") rfl)
  · exact He.free_ok X G (c.fact 30 (f := .free "ValueError") rfl)
  · simp [TT] at hp
end Ps
end
open PySem PySem.W PySem.Calls PyProof.Rows
set_option maxRecDepth 100000 in
set_option maxHeartbeats 0 in
theorem PySem.Challenge.cw_besideseats_k10_halls_written_and_read_holds : PySem.Challenge.rw_besideseats_k10_halls_written_and_read.Holds := by
  w_on; o_law
  refine HandSHeadRun.head_any (r := OpenLaw.row PySem.Challenge.rw_besideseats_k10_halls_written_and_read) (q := view (OpenLaw.row PySem.Challenge.rw_besideseats_k10_halls_written_and_read).prog [18]) (H := Ps.hk) (ob := Ps.ob) (M := 7960) (loose := Ps.loose) (d := HandSHeadRun.topDef (OpenLaw.row PySem.Challenge.rw_besideseats_k10_halls_written_and_read).prog 18) (kwd := []) Ps.ob_eq
    (by kernel_rfl) (fun s => by kernel_rfl) Ps.run_top (by kernel_rfl) (by kernel_rfl) (by kernel_rfl) (by rfl) (by first | assumption | decide +kernel) (by decide +kernel) ⟨rfl, rfl, rfl, rfl, rfl, by decide +kernel⟩ ?hw ?hc
  case hw => w_witness2
  case hc =>
    refine Ps.walk_ps (k := 5) rfl (by decide) (by kernel_rfl) ⟨rfl, by decide, by decide⟩ ?F
    intro w mg fa h Y G hmg0
    obtain ⟨K, KX, c⟩ := Y
    refine ⟨K, none, Ps.TT, Ps.PG, Ps.s_law, KX, (fun t e => by cases e), Ps.topOk KX G c.t.d c.more, by simp [Ps.TT, Ps.sg], by kernel_rfl, rfl, rfl, rfl, rfl, rfl, fun ns hl hb => Ps.law_true ns hl fun z hz => by rw [Ps.bitsI_eq]; exact hb z hz⟩
