import PyProof.Rows.All
import Wide.All
import OpenK.AllK
import Wide.FinOn
import HandS.ForMost
import HandS.TupAny
import HandS.Flow
import HandS.IsInst
import HandS.NoneIn
import HandS.StrMore
import HandS.Replace
import HandS.Style
import HandS.Zip
import HandS.Wide
import HandS.WideMore
import HandS.HeadHook2
import HandS.Words
import HandS.WordsExc
import HandS.Head0
import HandS.Head1
import HandS.Head2
import HandS.HeadEnd
import HandS.More
import HandS.Ends
import KE.KStateDown
import HandS.TupMul
import PySem.Challenge.RW_tonguehouse_k41_changes_far_apart
set_option Elab.async false
set_option linter.all false
set_option maxRecDepth 100000
set_option maxHeartbeats 0
/-! Data, memory, erased programs and what they come to. -/
namespace Rf

/-- deep data: what never changes -/
inductive D where
  | non
  | bl (b : Bool)
  | int (i : Int)
  | str (s : List Nat)
  | tup (xs : List D)
  | lst (xs : List D)
  | dct (kvs : List (D × D))
  | set (xs : List D)
  | scr (ns : List Int)
  | fn (f : Nat)
  | obj (c : Nat) (fs : List (Nat × D))

/-- what a name may hold: data, or a place of the memory -/
inductive Val where
  | d (x : D)
  | r (i : Nat)

inductive Ob where
  | lst (vs : List Val)
  | dct (kvs : List (D × Val))
  | ins (c : Nat) (fs : List (Nat × Val))

abbrev Mem := List Ob
abbrev Slots := List (Option Val)

inductive R (α : Type) where
  | ok (a : α) (m : Mem)
  | ex (e : D) (m : Mem)
  | no

def R.bind {α β : Type} (x : R α) (f : α → Mem → R β) : R β :=
  match x with
  | .ok a m => f a m
  | .ex e m => .ex e m
  | .no => .no
def R.opt {α : Type} (x : Option α) (m : Mem) : R α :=
  match x with
  | some a => .ok a m
  | none => .no

inductive Bop where | add | sub | mul | div | mod | pow | xor
inductive Cop where | eq | ne | lt | le | gt | ge | is | isNot | isIn | notIn
inductive Ty where | int | str | bool | tuple | list | dict | cls (c : Nat)
inductive Bi where | len | int | str | abs | tuple | list | sorted | sum | all | any | min2 | max2 | min | max | repr | ord | bool
  | dict
inductive Mt where | join | zfill | index | append | extend | pop | popAt | get | values | split | upper

mutual
inductive Tg where
  | nm (i : Nat)
  | tup (ts : Tgs)
inductive Tgs where
  | nil
  | cons (t : Tg) (ts : Tgs)
end

mutual
inductive Ex where
  | var (i : Nat)
  | con (d : D)
  | glo (g : Nat)
  | tup (es : Exs)
  | lst (z : Bool) (es : Exs)
  | dct (ps : Exs)
  | bin (z : Bool) (o : Bop) (a b : Ex)
  | neg (a : Ex)
  | cmp (o : Cop) (a b : Ex)
  | chn (o p : Cop) (a b c : Ex)
  | and (a b : Ex)
  | or (a b : Ex)
  | not (a : Ex)
  | ite (c a b : Ex)
  | idx (a i : Ex)
  | slc (z l h : Bool) (a lo hi : Ex)
  | rev (z : Bool) (a : Ex)
  | call (f : Nat) (es : Exs)
  | bi (z : Bool) (b : Bi) (es : Exs)
  | mth (m : Mt) (o : Ex) (es : Exs)
  | isi (a : Ex) (ts : List Ty)
  | cmpr (z : Bool) (own : List Nat) (tg : Tg) (it : It) (c : Ex) (e : Ex)
inductive Exs where
  | nil
  | cons (e : Ex) (es : Exs)
inductive It where
  | ex (e : Ex)
  | rng (a b : Ex)
  | rng3 (a b c : Ex)
  | enum (e : Ex)
  | zip (a b : Ex)
end

mutual
inductive St where
  | asg (t : Tg) (e : Ex)
  | set (o i e : Ex)
  | aug (i : Nat) (o : Bop) (e : Ex)
  | ex (e : Ex)
  | ret (e : Ex)
  | iff (c : Ex) (a b : Sts)
  | forr (t : Tg) (it : It) (b : Sts)
  | whil (c : Ex) (b : Sts)
  | par (is : List Nat) (es : Exs)
  | pass
  | brk
  | cnt
inductive Sts where
  | nil
  | cons (s : St) (ss : Sts)
end

/-! ### what operations come to -/
def LINE : Nat := 16777216

def isSc : D → Bool
  | .non => true
  | .bl _ => true
  | .int _ => true
  | .str _ => true
  | _ => false

mutual
def D.eq : D → D → Bool
  | .non, .non => true
  | .bl a, .bl b => a == b
  | .bl a, .int j => (if a then 1 else 0) == j
  | .int i, .bl b => i == (if b then 1 else 0)
  | .int i, .int j => i == j
  | .str x, .str y => x == y
  | .lst xs, .lst ys => D.eqs xs ys
  | .tup xs, .tup ys => D.eqs xs ys
  | _, _ => false
def D.eqs : List D → List D → Bool
  | [], [] => true
  | x :: xs, y :: ys => D.eq x y && D.eqs xs ys
  | _, _ => false
end
mutual
/-- plain data: of None, truths, numbers, texts, tuples, lists -/
def D.pl : D → Bool
  | .non => true
  | .bl _ => true
  | .int _ => true
  | .str _ => true
  | .tup xs => D.pls xs
  | .lst xs => D.pls xs
  | _ => false
def D.pls : List D → Bool
  | [] => true
  | x :: xs => D.pl x && D.pls xs
end
mutual
def D.dep : D → Nat
  | .tup xs => D.deps xs + 1
  | .lst xs => D.deps xs + 1
  | _ => 0
def D.deps : List D → Nat
  | [] => 0
  | x :: xs => max (D.dep x) (D.deps xs)
end
/-- may be held against one another -/
def eqOk (a b : D) : Bool := D.pl a && D.pl b && (decide (D.dep a ≤ 60) || decide (D.dep b ≤ 60))

def ixOf (n : Nat) (i : Int) : Option Nat :=
  if 0 ≤ i then (if i < n then some i.toNat else none) else if -(n : Int) ≤ i then some (i + n).toNat else none
def cutAt (n d : Nat) : Option Int → Nat
  | none => d
  | some v => if v < 0 then (v + (n : Int)).toNat else min v.toNat n
def cut {α : Type} (xs : List α) (lo hi : Option Int) : List α :=
  (xs.drop (cutAt xs.length 0 lo)).take (cutAt xs.length xs.length hi - cutAt xs.length 0 lo)
/-- where a text stands first in another -/
def findSub (x : List Nat) : List Nat → Option Nat
  | [] => if x.isEmpty then some 0 else none
  | c :: r => if x.isPrefixOf (c :: r) then some 0 else (findSub x r).map (· + 1)

def numD : D → Option Int
  | .int i => some i
  | _ => none
def binI (o : Bop) (i j : Int) : Option D :=
  match o with
  | .add => some (.int (i + j))
  | .sub => some (.int (i - j))
  | .mul => if (-(2 ^ 64) < i ∧ i < 2 ^ 64) ∨ (-(2 ^ 64) < j ∧ j < 2 ^ 64) then some (.int (i * j)) else none
  | .div => if 0 < j ∧ j < 18446744073709551616 then some (.int (i / j)) else none
  | .mod => if 0 < j then some (.int (i % j)) else none
  | .pow => if 0 ≤ j ∧ j ≤ 1000000 ∧ i.natAbs < 2 ^ 64 then some (.int (i ^ j.toNat)) else none
  | .xor => none

def datas : List Val → Option (List D)
  | [] => some []
  | .d x :: vs => match datas vs with
    | some xs => some (x :: xs)
    | none => none
  | .r _ :: _ => none
/-- a new list: data where z says so, else a place of the memory -/
def mkL (z : Bool) (vs : List Val) (m : Mem) : R Val :=
  match z with
  | true => match datas vs with
    | some ds => .ok (.d (.lst ds)) m
    | none => .no
  | false => .ok (.r m.length) (m ++ [.lst vs])
def lstOf (m : Mem) : Val → Option (List Val)
  | .d (.lst xs) => some (xs.map .d)
  | .r i => match m[i]? with
    | some (.lst vs) => some vs
    | _ => none
  | _ => none
/-- the items of a list or a tuple -/
def seqOf (m : Mem) : Val → Option (List Val)
  | .d (.tup xs) => some (xs.map .d)
  | v => lstOf m v
def rep {α : Type} (xs : List α) : Nat → List α
  | 0 => []
  | n + 1 => xs ++ rep xs n

def binV (z : Bool) (o : Bop) (a b : Val) (m : Mem) : R Val :=
  match a, b with
  | .d (.int i), .d (.int j) => (R.opt (binI o i j) m).bind fun x m => .ok (.d x) m
  | .d (.str x), .d (.str y) => match o with
    | .add => if x.length + y.length ≤ LINE then .ok (.d (.str (x ++ y))) m else .no
    | _ => .no
  | .d (.tup x), .d (.tup y) => match o with
    | .add => if x.length + y.length ≤ LINE then .ok (.d (.tup (x ++ y))) m else .no
    | _ => .no
  | .d (.str x), .d (.int k) => match o with
    | .mul => if -(2 ^ 62) < k ∧ k < 2 ^ 62 ∧ x.length * k.toNat ≤ LINE then .ok (.d (.str (rep x k.toNat))) m else .no
    | _ => .no
  | .d (.tup x), .d (.int k) => match o with
    | .mul => if -(2 ^ 62) < k ∧ k ≤ 1000 ∧ x.length ≤ 1000 then .ok (.d (.tup (rep x k.toNat))) m else .no
    | _ => .no
  | a, b => match lstOf m a with
    | some xs => match o, b with
      | .mul, .d (.int k) => if k < 2 ^ 62 ∧ -(2 ^ 62) < k ∧ xs.length * k.toNat ≤ LINE then mkL z (rep xs k.toNat) m else .no
      | .add, b => match lstOf m b with
        | some ys => if xs.length + ys.length ≤ LINE then mkL z (xs ++ ys) m else .no
        | none => .no
      | _, _ => .no
    | none => .no

/-! dicts that never change, keys numbers and texts -/
def keyB : D → Bool
  | .int _ => true
  | .str _ => true
  | _ => false
def keq : D → D → Bool
  | .int i, .int j => i == j
  | .str x, .str y => x == y
  | _, _ => false
def isFlat : D → Bool
  | .non => true
  | .bl _ => true
  | .int _ => true
  | .str _ => true
  | _ => false
def inD (x : D) (xs : List D) : Bool := xs.any fun y => D.eq y x
def inB (x : D) : D → Option Bool
  | .str t => match x with
    | .str s => some (findSub s t).isSome
    | _ => none
  | .dct kvs => if keyB x then some (kvs.any fun q => keq q.1 x) else none
  | .tup xs => if D.pl x && D.pls xs && decide (D.dep x ≤ 60) then some (inD x xs) else none
  | .lst xs => if D.pl x && D.pls xs && decide (D.dep x ≤ 60) then some (inD x xs) else none
  | _ => none
def cmpI (o : Cop) (i j : Int) : Option Bool :=
  match o with
  | .lt => some (decide (i < j))
  | .le => some (decide (i ≤ j))
  | .gt => some (decide (j < i))
  | .ge => some (decide (j ≤ i))
  | .eq => some (decide (i = j))
  | .ne => some (!decide (i = j))
  | _ => none
def isNon : D → Bool
  | .non => true
  | _ => false
def cmpD (o : Cop) (a b : D) : Option Bool :=
  match a, b with
  | .int i, .int j => cmpI o i j
  | a, b => match o with
    | .eq => if eqOk a b then some (D.eq a b) else none
    | .ne => if eqOk a b then some (!D.eq a b) else none
    | .is => match a, b with
      | .bl x, .bl y => some (decide (x = y))
      | a, b => if isNon b then some (isNon a) else none
    | .isNot => match a, b with
      | .bl x, .bl y => some (!decide (x = y))
      | a, b => if isNon b then some (!isNon a) else none
    | .isIn => inB a b
    | .notIn => (inB a b).map fun c => !c
    | _ => none
/-- a list of data that is a place, as data -/
def deepV (m : Mem) : Val → Option D
  | .d x => some x
  | .r i => match m[i]? with
    | some (.lst vs) => (datas vs).map .lst
    | _ => none
def cmpP (o : Cop) (a b : Option D) : Option Bool :=
  match a, b with
  | some x, some y => match o with
    | .eq => if eqOk x y then some (D.eq x y) else none
    | .ne => if eqOk x y then some (!D.eq x y) else none
    | _ => none
  | _, _ => none
def cmpV (o : Cop) (a b : Val) (m : Mem) : R Bool :=
  match a, b with
  | .d a, .d b => R.opt (cmpD o a b) m
  | a, .r j => R.opt (cmpP o (deepV m a) (deepV m (.r j))) m
  | _, _ => .no
def bV (x : R Bool) : R Val := x.bind fun b m => .ok (.d (.bl b)) m

def truth (m : Mem) : Val → Option Bool
  | .d .non => some false
  | .d (.bl b) => some b
  | .d (.int i) => some (i != 0)
  | .d (.str s) => some (!s.isEmpty)
  | .d (.tup xs) => some (!xs.isEmpty)
  | .d (.lst xs) => some (!xs.isEmpty)
  | .r i => match m[i]? with
    | some (.lst vs) => some (!vs.isEmpty)
    | _ => none
  | _ => none

def lenV (m : Mem) : Val → Option Nat
  | .d (.str s) => some s.length
  | .d (.tup xs) => some xs.length
  | .d (.lst xs) => some xs.length
  | .d (.scr xs) => some xs.length
  | .r i => match m[i]? with
    | some (.lst vs) => some vs.length
    | _ => none
  | _ => none
def atL {α : Type} (xs : List α) (i : Int) : Option α := (ixOf xs.length i).bind fun j => xs[j]?
def idxV (m : Mem) (a : Val) (i : Int) : Option Val :=
  match a with
  | .d (.str s) => (atL s i).map fun c => .d (.str [c])
  | .d (.tup xs) => (atL xs i).map .d
  | .d (.lst xs) => (atL xs i).map .d
  | .d (.scr xs) => (atL xs i).map fun n => .d (.int n)
  | .r j => match m[j]? with
    | some (.lst vs) => atL vs i
    | _ => none
  | _ => none
def getK (kvs : List (D × D)) (k : D) : Option D := (kvs.find? fun q => keq q.1 k).map (·.2)
def putD (kvs : List (D × D)) (k v : D) : List (D × D) := if (kvs.any fun q => keq q.1 k) = true then kvs.map fun q => if keq q.1 k = true then (q.1, v) else q else kvs ++ [(k, v)]
def pairsD : List Val → Option (List (D × D))
  | [] => some []
  | .d k :: .d v :: r => if keyB k then (pairsD r).map fun l => (k, v) :: l else none
  | _ => none
def mkDct (vs : List Val) : Option (List (D × D)) := match pairsD vs with
  | some ps => if ps.length ≤ 15 then some (ps.foldl (fun acc q => putD acc q.1 q.2) []) else none
  | none => none
def idxK (m : Mem) (a : Val) (y : Val) : Option Val :=
  match a, y with
  | .d (.dct kvs), .d k => if keyB k then (getK kvs k).map .d else none
  | .d (.dct _), _ => none
  | a, .d (.int k) => idxV m a k
  | _, _ => none
def slcV (z : Bool) (a : Val) (lo hi : Option Int) (m : Mem) : R Val :=
  match a with
  | .d (.str s) => .ok (.d (.str (cut s lo hi))) m
  | .d (.tup xs) => .ok (.d (.tup (cut xs lo hi))) m
  | .d (.scr ns) => mkL z (cut (ns.map fun n => .d (.int n)) lo hi) m
  | a => match lstOf m a with
    | some vs => mkL z (cut vs lo hi) m
    | none => .no
def revV (z : Bool) (a : Val) (m : Mem) : R Val :=
  match a with
  | .d (.tup xs) => .ok (.d (.tup xs.reverse)) m
  | a => match lstOf m a with
    | some vs => mkL z vs.reverse m
    | none => .no
def partV (p : Bool) (v : Val) : Option (Option Int) :=
  match p, v with
  | true, .d (.int i) => some (some i)
  | false, _ => some none
  | _, _ => none

/-! ### texts of numbers, sorting -/
def codesS (x : PySem.Str) : List Nat := x.cps.toList
def numText (i : Int) : List Nat := (toString i).toList.map Char.toNat
def insI (x : Int) : List Int → List Int
  | [] => [x]
  | y :: ys => if x ≤ y then x :: y :: ys else y :: insI x ys
def sortI : List Int → List Int
  | [] => []
  | x :: xs => insI x (sortI xs)
/-- the order of texts -/
def ltN : List Nat → List Nat → Bool
  | [], [] => false
  | [], _ :: _ => true
  | _ :: _, [] => false
  | a :: r, b :: t => decide (a < b) || (a == b && ltN r t)
def insS (x : List Nat) : List (List Nat) → List (List Nat)
  | [] => [x]
  | y :: ys => if ltN y x = true then y :: insS x ys else x :: y :: ys
def sortS : List (List Nat) → List (List Nat)
  | [] => []
  | x :: xs => insS x (sortS xs)
def intsD : List Val → Option (List Int)
  | [] => some []
  | .d (.int i) :: vs => (intsD vs).map (i :: ·)
  | _ => none
def strsD : List Val → Option (List (List Nat))
  | [] => some []
  | .d (.str i) :: vs => (strsD vs).map (i :: ·)
  | _ => none
def blsD : List Val → Option (List Bool)
  | [] => some []
  | .d (.bl i) :: vs => (blsD vs).map (i :: ·)
  | _ => none
/-- the items of what can be walked -/
def items (m : Mem) : Val → Option (List Val)
  | .d (.str s) => some (s.map fun c => .d (.str [c]))
  | .d (.tup xs) => some (xs.map .d)
  | .d (.scr ns) => some (ns.map fun n => .d (.int n))
  | v => lstOf m v
def joinL (sep : List Nat) : List (List Nat) → List Nat
  | [] => []
  | [x] => x
  | x :: y :: r => x ++ sep ++ joinL sep (y :: r)
def firstAt (x s : List Nat) : Option Nat := (PySem.Builtin.Str.occurrences ⟨s.toArray⟩ ⟨x.toArray⟩ 0 s.length 1).head?
def padZ (s : List Nat) (n : Nat) : List Nat := List.replicate (n - s.length) 48 ++ s

/-- upper letters, of signs below 128 -/
def upC (c : Nat) : Nat := if 97 ≤ c ∧ c ≤ 122 then c - 32 else c
/-- a text, cut at a sign -/
def splitC (c : Nat) : List Nat → List (List Nat)
  | [] => [[]]
  | x :: r => if x = c then [] :: splitC c r else match splitC c r with
    | [] => [[x]]
    | y :: ys => (x :: y) :: ys
/-- repr of plain data -/
def rQ (s : List Nat) : Nat := if (s.contains 39 && !s.contains 34) = true then 34 else 39
def rS (s : List Nat) : List Nat := rQ s :: (s.flatMap (PySem.Builtin.Str.reprChar (rQ s)) ++ [rQ s])
mutual
def D.rp : D → List Nat
  | .non => [78, 111, 110, 101]
  | .bl true => [84, 114, 117, 101]
  | .bl false => [70, 97, 108, 115, 101]
  | .int i => numText i
  | .str s => rS s
  | .lst xs => 91 :: (joinL [44, 32] (D.rps xs) ++ [93])
  | .tup xs => 40 :: (joinL [44, 32] (D.rps xs) ++ (if xs.length = 1 then [44, 41] else [41]))
  | _ => []
def D.rps : List D → List (List Nat)
  | [] => []
  | x :: xs => D.rp x :: D.rps xs
end
mutual
/-- may be shown: numbers of some size, signs below 128 -/
def D.sh : D → Bool
  | .non => true
  | .bl _ => true
  | .int i => decide (i.natAbs.log2 < 1920)
  | .str s => s.all fun c => decide (c < 128)
  | .tup xs => D.shs xs
  | .lst xs => D.shs xs
  | _ => false
def D.shs : List D → Bool
  | [] => true
  | x :: xs => D.sh x && D.shs xs
end
def minL : List Int → Option Int
  | [] => none
  | x :: xs => some (xs.foldl (fun a b => if b < a then b else a) x)
def maxL : List Int → Option Int
  | [] => none
  | x :: xs => some (xs.foldl (fun a b => if a < b then b else a) x)
/-- the number that figures write -/
def digV (s : List Nat) : Nat := s.foldl (fun n c => n * 10 + (c - 48)) 0
def biV (z : Bool) (b : Bi) (vs : List Val) (m : Mem) : R Val :=
  match b, vs with
  | .len, [v] => (R.opt (lenV m v) m).bind fun n m => .ok (.d (.int n)) m
  | .int, [.d (.int i)] => .ok (.d (.int i)) m
  | .int, [.d (.bl c)] => .ok (.d (.int (if c then 1 else 0))) m
  | .int, [.d (.str s)] => if s ≠ [] ∧ s.length ≤ 640 ∧ (∀ c ∈ s, 48 ≤ c ∧ c ≤ 57) then .ok (.d (.int (digV s : Nat))) m else .no
  | .str, [.d (.int i)] => if i.natAbs.log2 < 1920 then .ok (.d (.str (numText i))) m else .no
  | .abs, [.d (.int i)] => .ok (.d (.int (if i < 0 then -i else i))) m
  | .tuple, [.d (.tup xs)] => .ok (.d (.tup xs)) m
  | .tuple, [v] => match lstOf m v with
    | some us => match datas us with
      | some ds => .ok (.d (.tup ds)) m
      | none => .no
    | none => .no
  | .list, [.d (.tup xs)] => mkL z (xs.map .d) m
  | .list, [.d (.scr ns)] => mkL z (ns.map fun n => .d (.int n)) m
  | .list, [v] => match lstOf m v with
    | some us => mkL z us m
    | none => .no
  | .sum, [v] => (R.opt ((lstOf m v).bind intsD) m).bind fun ns m => .ok (.d (.int ns.sum)) m
  | .all, [v] => (R.opt ((lstOf m v).bind blsD) m).bind fun bs m => .ok (.d (.bl (bs.all id))) m
  | .any, [v] => (R.opt ((lstOf m v).bind blsD) m).bind fun bs m => .ok (.d (.bl (bs.any id))) m
  | .min2, [.d (.int i), .d (.int j)] => .ok (.d (.int (if j < i then j else i))) m
  | .max2, [.d (.int i), .d (.int j)] => .ok (.d (.int (if j > i then j else i))) m
  | .ord, [.d (.str [c])] => .ok (.d (.int c)) m
  | .repr, [.d x] => if (D.pl x = true ∧ D.sh x = true) ∧ D.dep x ≤ 60 ∧ (D.rp x).length ≤ LINE then .ok (.d (.str (D.rp x))) m else .no
  | .sorted, [v] => (R.opt ((lstOf m v).bind strsD) m).bind fun ss m => if ss.length < 64 then mkL z ((sortS ss).map fun s => .d (.str s)) m else .no
  | .min, [v] => (R.opt ((lstOf m v).bind intsD) m).bind fun ns m => (R.opt (minL ns) m).bind fun i m => .ok (.d (.int i)) m
  | .max, [v] => (R.opt ((lstOf m v).bind intsD) m).bind fun ns m => (R.opt (maxL ns) m).bind fun i m => .ok (.d (.int i)) m
  | _, _ => .no

def mtV (mt : Mt) (o : Val) (vs : List Val) (m : Mem) : R Val :=
  match mt, o, vs with
  | .join, .d (.str sep), [v] => (R.opt ((seqOf m v).bind strsD) m).bind fun ss m => if (ss.map List.length).sum + ss.length * sep.length ≤ LINE then .ok (.d (.str (joinL sep ss))) m else .no
  | .zfill, .d (.str s), [.d (.int n)] => if (0 ≤ n ∧ n ≤ 1000) ∧ s.length ≤ 1000 ∧ (∀ c ∈ s, 48 ≤ c ∧ c ≤ 57) then .ok (.d (.str (padZ s n.toNat))) m else .no
  | .index, .d (.str s), [.d (.str x)] => (R.opt (firstAt x s) m).bind fun n m => .ok (.d (.int (n : Nat))) m
  | .append, .r i, [v] => match m[i]? with
    | some (.lst us) => if us.length < LINE then .ok (.d .non) (m.set i (.lst (us ++ [v]))) else .no
    | _ => .no
  | .pop, .r i, [] => match m[i]? with
    | some (.lst us) => (R.opt us.getLast? m).bind fun v m => .ok v (m.set i (.lst us.dropLast))
    | _ => .no
  | .popAt, .r i, [.d (.int k)] => match m[i]? with
    | some (.lst us) => if k < 2 ^ 62 ∧ -(2 ^ 62) < k then (R.opt ((ixOf us.length k).bind fun j => (us[j]?).map fun v => (j, v)) m).bind fun p m => .ok p.2 (m.set i (.lst (us.eraseIdx p.1))) else .no
    | _ => .no
  | .upper, .d (.str s), [] => if s.length ≤ 1000000 ∧ (∀ c ∈ s, c < 128) then .ok (.d (.str (s.map upC))) m else .no
  | .split, .d (.str s), [.d (.str [c])] => if s.length + 2 ≤ LINE then .ok (.d (.lst ((splitC c s).map .str))) m else .no
  | .extend, .r i, [v] => match m[i]? with
    | some (.lst us) => match lstOf m v with
      | some ys => if us.length + ys.length ≤ LINE then .ok (.d .non) (m.set i (.lst (us ++ ys))) else .no
      | none => .no
    | _ => .no
  | _, _, _ => .no

def setV (o : Val) (i : Int) (v : Val) (m : Mem) : R Unit :=
  match o with
  | .r j => match m[j]? with
    | some (.lst us) => (R.opt (ixOf us.length i) m).bind fun k m => .ok () (m.set j (.lst (us.set k v)))
    | _ => .no
  | _ => .no

/-- how many numbers a range has -/
def rgN (i j c : Int) : Nat := (if c > 0 then (if i < j then (j - i - 1) / c + 1 else 0) else (if i > j then (i - j - 1) / (-c) + 1 else 0)).toNat
/-! ### targets -/
def tgItems (m : Mem) : Val → Option (List Val)
  | .d (.tup xs) => some (xs.map .d)
  | v => lstOf m v
mutual
def asgT (m : Mem) : Tg → Val → Slots → Option Slots
  | .nm i, v, s => some (s.set i (some v))
  | .tup ts, v, s => match tgItems m v with
    | some vs => asgTs m ts vs s
    | none => none
def asgTs (m : Mem) : Tgs → List Val → Slots → Option Slots
  | .nil, [], s => some s
  | .cons t ts, v :: vs, s => match asgT m t v s with
    | some s' => asgTs m ts vs s'
    | none => none
  | _, _, _ => none
end
def wipeS (s : Slots) : List Nat → Slots
  | [] => s
  | v :: vs => (wipeS s vs).set v none

/-! ### the machine -/
structure Cal where
  call : Nat → List Val → Mem → R Val
  glo : Nat → Option D
  wf : Nat

inductive Kd where | non | bool | int | str | tuple | list | dict
def kdOf (m : Mem) : Val → Option Kd
  | .d .non => some .non
  | .d (.bl _) => some .bool
  | .d (.int _) => some .int
  | .d (.str _) => some .str
  | .d (.tup _) => some .tuple
  | .d (.lst _) => some .list
  | .d (.scr _) => some .list
  | .r i => match m[i]? with
    | some (.lst _) => some .list
    | _ => none
  | _ => none
def tyB : Ty → Kd → Bool
  | .int, .int => true
  | .int, .bool => true
  | .bool, .bool => true
  | .str, .str => true
  | .tuple, .tuple => true
  | .list, .list => true
  | .dict, .dict => true
  | _, _ => false

/-- what a walk hands out: a value, or a new tuple of values -/
inductive Wv where
  | v (x : Val)
  | t (xs : List Val)
/-- a walk: what comes at each turn (as the memory then stands), and whether it ends behind the last -/
structure Wk where
  rs : List (Mem → Option Wv)
  fin : Mem → Bool
def wkL (vs : List Val) : Wk := ⟨vs.map fun v _ => some (.v v), fun _ => true⟩
def wkT (vs : List (List Val)) : Wk := ⟨vs.map fun v _ => some (.t v), fun _ => true⟩
def lstR (i n : Nat) (m : Mem) : Option (List Val) := match m[i]? with
  | some (.lst us) => if us.length = n then some us else none
  | _ => none
def wkR (i n : Nat) : Wk := ⟨(List.range n).map fun k m => (lstR i n m).bind fun us => (us[k]?).map .v, fun m => (lstR i n m).isSome⟩
def wkE (i n : Nat) : Wk := ⟨(List.range n).map fun k m => (lstR i n m).bind fun us => (us[k]?).map fun x => .t [.d (.int (k : Nat)), x], fun m => (lstR i n m).isSome⟩
def enumV : Nat → List Val → List (List Val)
  | _, [] => []
  | k, x :: xs => [.d (.int (k : Nat)), x] :: enumV (k + 1) xs
def zipV : List Val → List Val → List (List Val)
  | x :: xs, y :: ys => [x, y] :: zipV xs ys
  | _, _ => []
def asgW (m : Mem) (tg : Tg) (w : Wv) (s : Slots) : Option Slots :=
  match w with
  | .v x => asgT m tg x s
  | .t xs => match tg with
    | .tup ts => asgTs m ts xs s
    | _ => none
def compL (f : Wv → Mem → R (Option Val)) (fin : Mem → Bool) : List (Mem → Option Wv) → List Val → Mem → R (List Val)
  | [], acc, m => match fin m with
    | true => .ok acc m
    | false => .no
  | r :: rs, acc, m => match r m with
    | none => .no
    | some v => (f v m).bind fun o m => match o with
      | some y => if acc.length < LINE then compL f fin rs (acc ++ [y]) m else .no
      | none => compL f fin rs acc m

def exW (v : Val) (m : Mem) : R Wk := match v with
  | .r i => match m[i]? with
    | some (.lst us) => .ok (wkR i us.length) m
    | _ => .no
  | v => (R.opt (items m v) m).bind fun vs m => .ok (wkL vs) m
def rngW (x y : Val) (m : Mem) : R Wk := match x, y with
  | .d (.int i), .d (.int j) => if -(2 ^ 40) ≤ i ∧ i < 2 ^ 40 ∧ -(2 ^ 40) ≤ j ∧ j < 2 ^ 40 ∧ j - i ≤ LINE then .ok (wkL ((List.range (j - i).toNat).map fun (k : Nat) => .d (.int (i + (k : Int))))) m else .no
  | _, _ => .no
def rng3W (x y z : Val) (m : Mem) : R Wk := match x, y, z with
  | .d (.int i), .d (.int j), .d (.int c) => if -(2 ^ 40) ≤ i ∧ i < 2 ^ 40 ∧ -(2 ^ 40) ≤ j ∧ j < 2 ^ 40 ∧ 0 < c.natAbs ∧ c.natAbs < 2 ^ 30 then .ok (wkL ((List.range (rgN i j c)).map fun (k : Nat) => .d (.int (i + (k : Int) * c)))) m else .no
  | _, _, _ => .no
def enumW (v : Val) (m : Mem) : R Wk := match v with
  | .r i => match m[i]? with
    | some (.lst us) => .ok (wkE i us.length) m
    | _ => .no
  | v => (R.opt (lstOf m v) m).bind fun vs m => .ok (wkT (enumV 0 vs)) m
def zipW (x y : Val) (m : Mem) : R Wk := match x, y with
  | .d (.lst xs), .d (.lst ys) => .ok (wkT (zipV (xs.map .d) (ys.map .d))) m
  | .d (.tup xs), .d (.tup ys) => .ok (wkT (zipV (xs.map .d) (ys.map .d))) m
  | _, _ => .no

mutual
def evE (C : Cal) : Ex → Slots → Mem → R Val
  | .var i, s, m => match s[i]? with
    | some (some v) => .ok v m
    | _ => .no
  | .con d, _, m => .ok (.d d) m
  | .glo g, _, m => (R.opt (C.glo g) m).bind fun d m => .ok (.d d) m
  | .tup es, s, m => (evEs C es s m).bind fun vs m => match datas vs with
    | some ds => .ok (.d (.tup ds)) m
    | none => .no
  | .lst z es, s, m => (evEs C es s m).bind fun vs m => mkL z vs m
  | .dct ps, s, m => (evEs C ps s m).bind fun vs m => (R.opt (mkDct vs) m).bind fun d m => .ok (.d (.dct d)) m
  | .bin z o a b, s, m => (evE C a s m).bind fun x m => (evE C b s m).bind fun y m => binV z o x y m
  | .neg a, s, m => (evE C a s m).bind fun x m => match x with
    | .d (.int i) => .ok (.d (.int (-i))) m
    | _ => .no
  | .cmp o a b, s, m => (evE C a s m).bind fun x m => (evE C b s m).bind fun y m => bV (cmpV o x y m)
  | .chn o p a b c, s, m => (evE C a s m).bind fun x m => (evE C b s m).bind fun y m => (cmpV o x y m).bind fun k m =>
    match k with
    | true => (evE C c s m).bind fun w m => bV (cmpV p y w m)
    | false => .ok (.d (.bl false)) m
  | .and a b, s, m => (evE C a s m).bind fun x m => match truth m x with
    | some true => evE C b s m
    | some false => .ok x m
    | none => .no
  | .or a b, s, m => (evE C a s m).bind fun x m => match truth m x with
    | some true => .ok x m
    | some false => evE C b s m
    | none => .no
  | .not a, s, m => (evE C a s m).bind fun x m => match truth m x with
    | some k => .ok (.d (.bl (!k))) m
    | none => .no
  | .ite c a b, s, m => (evE C c s m).bind fun x m => match truth m x with
    | some true => evE C a s m
    | some false => evE C b s m
    | none => .no
  | .idx a i, s, m => (evE C a s m).bind fun x m => (evE C i s m).bind fun y m => R.opt (idxK m x y) m
  | .slc z pl ph a lo hi, s, m => (evE C a s m).bind fun x m => (evE C lo s m).bind fun l m => (evE C hi s m).bind fun h m =>
    match partV pl l, partV ph h with
    | some l, some h => slcV z x l h m
    | _, _ => .no
  | .rev z a, s, m => (evE C a s m).bind fun x m => revV z x m
  | .call f es, s, m => (evEs C es s m).bind fun vs m => C.call f vs m
  | .bi z b es, s, m => (evEs C es s m).bind fun vs m => biV z b vs m
  | .mth mt o es, s, m => (evE C o s m).bind fun x m => (evEs C es s m).bind fun vs m => mtV mt x vs m
  | .isi a ts, s, m => (evE C a s m).bind fun x m => (R.opt (kdOf m x) m).bind fun k m => .ok (.d (.bl (ts.any fun t => tyB t k))) m
  | .cmpr z own tg it c e, s, m => (evIt C it s m).bind fun wk m =>
    (compL (fun v m => match asgW m tg v (wipeS s own) with
      | some s' => (evE C c s' m).bind fun k m => match truth m k with
        | some true => (evE C e s' m).bind fun y m => .ok (some y) m
        | some false => .ok none m
        | none => .no
      | none => .no) wk.fin wk.rs [] m).bind fun acc m => mkL z acc m
def evEs (C : Cal) : Exs → Slots → Mem → R (List Val)
  | .nil, _, m => .ok [] m
  | .cons e es, s, m => (evE C e s m).bind fun v m => (evEs C es s m).bind fun vs m => .ok (v :: vs) m
def evIt (C : Cal) : It → Slots → Mem → R Wk
  | .ex e, s, m => (evE C e s m).bind fun v m => exW v m
  | .rng a b, s, m => (evE C a s m).bind fun x m => (evE C b s m).bind fun y m => rngW x y m
  | .rng3 a b c, s, m => (evE C a s m).bind fun x m => (evE C b s m).bind fun y m => (evE C c s m).bind fun z m => rng3W x y z m
  | .enum e, s, m => (evE C e s m).bind fun v m => enumW v m
  | .zip a b, s, m => (evE C a s m).bind fun x m => (evE C b s m).bind fun y m => zipW x y m
end

inductive Fl where
  | nx (s : Slots)
  | rt (v : Val)
  | bk (s : Slots)
  | ct (s : Slots)
def forL (f : Wv → Slots → Mem → R Fl) (fin : Mem → Bool) : List (Mem → Option Wv) → Slots → Mem → R Fl
  | [], s, m => match fin m with
    | true => .ok (.nx s) m
    | false => .no
  | r :: rs, s, m => match r m with
    | none => .no
    | some v => (f v s m).bind fun r m => match r with
      | .nx s' => forL f fin rs s' m
      | .ct s' => forL f fin rs s' m
      | .bk s' => .ok (.nx s') m
      | .rt v => .ok (.rt v) m
def whiL (c : Slots → Mem → R Bool) (f : Slots → Mem → R Fl) : Nat → Slots → Mem → R Fl
  | 0, _, _ => .no
  | n + 1, s, m => (c s m).bind fun k m => match k with
    | false => .ok (.nx s) m
    | true => (f s m).bind fun r m => match r with
      | .nx s' => whiL c f n s' m
      | .ct s' => whiL c f n s' m
      | .bk s' => .ok (.nx s') m
      | .rt v => .ok (.rt v) m
def parS : List Nat → List Val → Slots → Option Slots
  | [], [], s => some s
  | i :: is, v :: vs, s => parS is vs (s.set i (some v))
  | _, _, _ => none
mutual
def exS (C : Cal) : St → Slots → Mem → R Fl
  | .asg t e, s, m => (evE C e s m).bind fun v m => (R.opt (asgT m t v s) m).bind fun s' m => .ok (.nx s') m
  | .set o i e, s, m => (evE C e s m).bind fun v m => (evE C o s m).bind fun x m => (evE C i s m).bind fun y m => match y with
    | .d (.int k) => (setV x k v m).bind fun _ m => .ok (.nx s) m
    | _ => .no
  | .aug i o e, s, m => match s[i]? with
    | some (some x) => (evE C e s m).bind fun y m => match x, y with
      | .d (.int _), .d (.int _) => (binV true o x y m).bind fun v m => .ok (.nx (s.set i (some v))) m
      | .d (.str _), .d (.str _) => (binV true o x y m).bind fun v m => .ok (.nx (s.set i (some v))) m
      | _, _ => .no
    | _ => .no
  | .ex e, s, m => (evE C e s m).bind fun _ m => .ok (.nx s) m
  | .ret e, s, m => (evE C e s m).bind fun v m => .ok (.rt v) m
  | .iff c a b, s, m => (evE C c s m).bind fun x m => match truth m x with
    | some true => exSs C a s m
    | some false => exSs C b s m
    | none => .no
  | .forr t it b, s, m => (evIt C it s m).bind fun wk m => forL (fun v s m => (R.opt (asgW m t v s) m).bind fun s' m => exSs C b s' m) wk.fin wk.rs s m
  | .whil c b, s, m => whiL (fun s m => (evE C c s m).bind fun x m => R.opt (truth m x) m) (fun s m => exSs C b s m) C.wf s m
  | .par is es, s, m => (evEs C es s m).bind fun vs m => (R.opt (parS is vs s) m).bind fun s' m => .ok (.nx s') m
  | .pass, s, m => .ok (.nx s) m
  | .brk, s, m => .ok (.bk s) m
  | .cnt, s, m => .ok (.ct s) m
def exSs (C : Cal) : Sts → Slots → Mem → R Fl
  | .nil, s, m => .ok (.nx s) m
  | .cons x xs, s, m => (exS C x s m).bind fun r m => match r with
    | .nx s' => exSs C xs s' m
    | r => .ok r m
end

/-! ### programs -/
structure Fn where
  np : Nat
  n : Nat
  pure : Bool
  body : Sts
structure Prog where
  fn : Nat → Option Fn
  glo : Nat → Option D
def runB (C : Cal) (f : Fn) (vs : List Val) (m : Mem) : R Val :=
  match decide (vs.length = f.np) with
  | true => (exSs C f.body (vs.map some ++ List.replicate (f.n - f.np) none) m).bind fun r m => match r with
    | .nx _ => .ok (.d .non) m
    | .rt v => .ok v m
    | _ => .no
  | false => .no
/-- what a pure def hands back, as data -/
def froz (m : Mem) : Val → Option D
  | .d x => some x
  | .r i => match m[i]? with
    | some (.lst vs) => (datas vs).map .lst
    | _ => none
def WF : Nat := 1000000
def callN (P : Prog) : Nat → Nat → List Val → Mem → R Val
  | 0, _, _, _ => .no
  | k + 1, f, vs, m => match P.fn f with
    | none => .no
    | some fn => match fn.pure with
      | false => runB ⟨callN P k, P.glo, WF⟩ fn vs m
      | true => match datas vs with
        | none => .no
        | some _ => match runB ⟨callN P k, P.glo, WF⟩ fn vs [] with
          | .ok v m' => (R.opt (froz m' v) m).bind fun x m => .ok (.d x) m
          | .ex e _ => .ex e m
          | .no => .no
end Rf

/-! rules of the hand layer that were lacking: text * number, tuple * number, tuple[::-1], repr of plain data -/
namespace Rf
open PySem PySem.Spec PyProof.Rows L2
section
variable {X : Cx}
theorem flat_arr (xs : Array Nat) : ∀ m : Nat, (List.replicate m xs).foldl (· ++ ·) #[] = (List.replicate m xs.toList).flatten.toArray := by
  have g : ∀ (m : Nat) (acc : Array Nat), (List.replicate m xs).foldl (· ++ ·) acc = acc ++ (List.replicate m xs.toList).flatten.toArray := by
    intro m
    induction m with
    | zero => intro acc; simp
    | succ m ih =>
      intro acc
      rw [List.replicate_succ, List.foldl_cons, ih, List.replicate_succ, List.flatten_cons]
      apply Array.ext'
      simp
  intro m
  rw [g]
  simp
/-- text * number -/
def rMulS : R2 := fun x y H Q => ∃ (a : Str) (k : Int), x = .str a ∧ y = .int k ∧ -(2 ^ 62) < k ∧ k < 2 ^ 62 ∧ a.length * k.toNat ≤ sizeLine ∧ Q (.str ⟨(List.replicate k.toNat a.cps.toList).flatten.toArray⟩) H
theorem op_mulS : OpR X (binaryOp .Mult) rMulS := by
  intro pins s σ H x y v u Q I rx ry h
  obtain ⟨a, k, rfl, rfl, h1, h2, hz, q⟩ := h
  obtain ⟨t, rfl⟩ := rx
  obtain ⟨t', rfl⟩ := ry
  refine PySem.P.mul_str ?_ ?_ ?_ ?_
  · rw [decide_eq_false (by omega), decide_eq_false (by omega)]; rfl
  · intro g1 g2 g3
    have hk : 1 ≤ k := by omega
    have hk1 : k ≠ 1 := by
      intro e; subst e; simp at g2
    have e1 : ((k.toNat : Nat) : Int) = k := by omega
    have hz' : ((a.length : Nat) : Int) * k ≤ (sizeLine : Int) := by
      rw [← e1]; exact_mod_cast hz
    have h3 : ((2 ^ 63 - 1 : Int)) / k < a.length := g3
    have h4 : (2 ^ 63 - 1 : Int) < a.length * k := (Int.ediv_lt_iff_lt_mul (by omega)).mp h3
    have h5 : (sizeLine : Int) = 16777216 := by rw [sizeLine_eq]; rfl
    omega
  · intro _ _
    unfold Builtin.Str.tooLong
    exact decide_eq_false (by omega)
  · by_cases g1 : k < 1
    · rw [if_pos g1]
      have e : k.toNat = 0 := by omega
      rw [e] at q
      exact ⟨by decide, ⟨.str Str.empty, H, I.tok _, ⟨_, rfl⟩, q⟩⟩
    · rw [if_neg g1]
      by_cases g2 : (k == 1 || a.length == 0) = true
      · rw [if_pos g2]
        have e : (⟨(List.replicate k.toNat a.cps.toList).flatten.toArray⟩ : Str) = a := by
          rcases Bool.or_eq_true _ _ ▸ g2 with g | g
          · have g' : k = 1 := eq_of_beq g
            subst g'
            simp
          · have g' : a.length = 0 := eq_of_beq g
            have g3 : a.cps.toList = [] := List.eq_nil_of_length_eq_zero (by simpa [Str.length] using g')
            apply Str.ext'
            apply Array.ext'
            rw [g3]
            simp
        rw [e] at q
        exact ⟨.str a, H, I, ⟨_, rfl⟩, q⟩
      · rw [if_neg g2, flat_arr]
        refine ⟨?_, ⟨.str _, H, I.tok _, ⟨_, rfl⟩, q⟩⟩
        show (List.replicate k.toNat a.cps.toList).flatten.toArray.size ≤ sizeLine
        rw [List.size_toArray, PyProof.Rows.lm_len_rep_flat]
        have e : a.cps.toList.length = a.length := by simp [Str.length]
        rw [e, Nat.mul_comm]
        exact hz

/-- tuple * number -/
theorem tuple_mul1 (l : Addr) (items : Array Value) (n : Nat) (dd : Option Addr) (sl : Array (Option Value)) (x : Int) (u : Tok) (c0 : (decide (x < -(2 ^ 63)) || decide (x ≥ 2 ^ 63)) = false) (c1 : (items.isEmpty || x == 1) = true) :
    Meets (Builtin.«tuple.__mul__» ⟨[.ref l, .int x u], []⟩) (fun _ R s => s.heap.get? l = some { cls := .type "tuple", dict := dd, data := .seq items n, slots := sl } ∧
      R (.ok (.ret (Value.ref l))) s) :=
  .of_wp fun prog w A R s h => by
    obtain ⟨hp, g, d, tk, os⟩ := s
    obtain ⟨hl, h⟩ := h
    have f1 := AutoSeq1.idx_int
    wp_walk using wpAny_loadPart' hl
    repeat (first
      | (refine wpAny_ite_false (decide_eq_false (by rw [c0]; exact Bool.false_ne_true)) ?_; wp_walk using wpAny_loadPart' hl)
      | (refine wpAny_ite_true (decide_eq_true c1) ?_; wp_walk using wpAny_loadPart' hl))
    exact ⟨_, rfl, h⟩
theorem tuple_mul0 (l : Addr) (items : Array Value) (n : Nat) (dd : Option Addr) (sl : Array (Option Value)) (x : Int) (u : Tok) (c0 : (decide (x < -(2 ^ 63)) || decide (x ≥ 2 ^ 63)) = false) (c1 : (items.isEmpty || x == 1) = false) (c2 : (decide (x ≤ 0) || items.isEmpty) = true) :
    Meets (Builtin.«tuple.__mul__» ⟨[.ref l, .int x u], []⟩) (fun _ R s => s.heap.get? l = some { cls := .type "tuple", dict := dd, data := .seq items n, slots := sl } ∧
      R (.ok (.ret (Value.ref s.heap.objs.size))) { s with heap := s.heap.push { cls := Value.type "tuple", data := Data.seq #[] }, toks := s.toks }) :=
  .of_wp fun prog w A R s h => by
    obtain ⟨hp, g, d, tk, os⟩ := s
    obtain ⟨hl, h⟩ := h
    have f1 := AutoSeq1.idx_int
    wp_walk using wpAny_loadPart' hl
    repeat (first
      | (refine wpAny_ite_false (decide_eq_false (by rw [c0]; exact Bool.false_ne_true)) ?_; wp_walk using wpAny_loadPart' hl)
      | (refine wpAny_ite_false (decide_eq_false (by rw [c1]; exact Bool.false_ne_true)) ?_; wp_walk using wpAny_loadPart' hl)
      | (refine wpAny_ite_true (decide_eq_true c2) ?_; wp_walk using wpAny_loadPart' hl))
    exact ⟨_, rfl, h⟩
/-- tuple * number: the tuple itself, where that is all -/
def rMulT (K : PySem.W.Frag) : R2 := fun x y H Q => ∃ l k xs, x = .ref l ∧ y = .int k ∧ SqT K H l xs ∧ -(2 ^ 62) < k ∧ k ≤ 1000 ∧ xs.length ≤ 1000 ∧ ((xs = [] ∨ k = 1) → Q (.ref l) H) ∧
  (xs ≠ [] → k ≠ 1 → ∀ p, H p = none → Q (.ref p) (upd H p (.tup (List.replicate k.toNat xs).flatten)))
theorem op_mulT : OpR X (binaryOp .Mult) (rMulT X.K) := by
  intro pins s σ H x y v u Q I rx ry h
  obtain ⟨l, k, xs, rfl, rfl, hT, h0, h2, hz, q1, q2⟩ := h
  by_cases hb : xs ≠ [] ∧ 2 ≤ k
  · exact op_repT pins s σ H _ _ v u Q I rx ry ⟨l, k, xs, rfl, rfl, hT, hb.1, hb.2, h2, hz, q2 hb.1 (by omega)⟩
  · cases rx
    obtain ⟨t, rfl⟩ := ry
    obtain ⟨its, r, ⟨⟨cls, dd, data, sl⟩, ho, hc, n, hd⟩, hs⟩ := I.tuple hT
    simp only at hc hd
    subst hc hd
    have hle : its.length = xs.length := r.length.symm
    have c0 : (decide (k < -(2 ^ 63)) || decide (k ≥ 2 ^ 63)) = false := by
      rw [decide_eq_false (by omega), decide_eq_false (by omega)] <;> rfl
    by_cases hc : xs = [] ∨ k = 1
    · have c1 : (its.toArray.isEmpty || k == 1) = true := by
        rcases hc with e | e
        · rw [e] at hle
          have e2 : its = [] := List.eq_nil_of_length_eq_zero hle
          rw [e2]; rfl
        · subst e; simp
      refine wpAny_binaryOp_repeat_ref (T := "tuple") (U := "int") (by decide) ⟨_, ho, rfl⟩ (fun s' => typeIs_int s' k t) noFill_tuple_mul F.fills_int_mul F.slot_int_rmul repeat_tuple F.slot_int_index.lookup
        (call_meets F.slot_int_rmul (typeIs_int s k t) F.entry_int_rmul (F.args_int_rmul_2 _ _) (int_rmul_tuple k t l its.toArray n dd sl)
          ⟨ho, rfl, ⟨_, ho, rfl⟩, call_meets F.slot_tuple_mul ⟨_, ho, rfl⟩ F.entry_tuple_mul (F.args_tuple_mul_2 _ _) (tuple_mul1 l its.toArray n dd sl k t c0 c1) ⟨ho, ?_⟩⟩)
      exact ⟨.ref l, H, I, rfl, q1 hc⟩
    · have hx : xs ≠ [] := fun e => hc (.inl e)
      have hk : k ≠ 1 := fun e => hc (.inr e)
      have hk0 : k ≤ 0 := by
        by_cases h3 : 2 ≤ k
        · exact absurd ⟨hx, h3⟩ hb
        · omega
      have hi : its.toArray.isEmpty = false := by
        cases its with
        | nil => exact absurd (List.eq_nil_of_length_eq_zero hle.symm) hx
        | cons a b => rfl
      have c1 : (its.toArray.isEmpty || k == 1) = false := by
        rw [hi, Bool.false_or]
        exact beq_eq_false_iff_ne.mpr hk
      have c2 : (decide (k ≤ 0) || its.toArray.isEmpty) = true := by
        rw [decide_eq_true hk0]; rfl
      refine wpAny_binaryOp_repeat_ref (T := "tuple") (U := "int") (by decide) ⟨_, ho, rfl⟩ (fun s' => typeIs_int s' k t) noFill_tuple_mul F.fills_int_mul F.slot_int_rmul repeat_tuple F.slot_int_index.lookup
        (call_meets F.slot_int_rmul (typeIs_int s k t) F.entry_int_rmul (F.args_int_rmul_2 _ _) (int_rmul_tuple k t l its.toArray n dd sl)
          ⟨ho, rfl, ⟨_, ho, rfl⟩, call_meets F.slot_tuple_mul ⟨_, ho, rfl⟩ F.entry_tuple_mul (F.args_tuple_mul_2 _ _) (tuple_mul0 l its.toArray n dd sl k t c0 c1 c2) ⟨ho, ?_⟩⟩)
      have e : k.toNat = 0 := by omega
      rw [e] at q2
      exact ⟨.ref s.heap.objs.size, _, I.laid (t' := s.toks) (o := .tup []) (fun b ob q => Heap.get?_push_of_some _ q) (Nat.le_refl _) ⟨Nat.zero_le _, [], .nil, IsTup.new _ _⟩, rfl, q2 hx hk _ (I.hok.fresh (Nat.le_refl _))⟩

/-! ### t[::-1] -/
theorem pick_rev (xs : Array Value) : ((List.range xs.size).filterMap fun (m : Nat) => xs[(((xs.size : Int) - 1) + (m : Int) * (-1)).toNat]?).toArray = xs.toList.reverse.toArray := by
  have e : ((List.range xs.size).filterMap fun (m : Nat) => xs[(((xs.size : Int) - 1) + (m : Int) * (-1)).toNat]?) = ((List.range xs.size).map fun k => xs.size - 1 - k).filterMap (xs[·]?) := by
    rw [List.filterMap_map]
    congr 1
    funext m
    show xs[(((xs.size : Int) - 1) + (m : Int) * (-1)).toNat]? = xs[xs.size - 1 - m]?
    have : (((xs.size : Int) - 1) + (m : Int) * (-1)).toNat = xs.size - 1 - m := by omega
    rw [this]
  rw [e, PySem.W.krv_range, List.filterMap_reverse, PySem.W.krv_all]
section
variable {prog : Program} {w : World} {A : Around} {E : Value → Shared → Prop} {s : Shared}
theorem sliceApplied_rev {sl : Addr} {u : Tok} {n : Nat} {Q : Int × Int × Nat → Shared → Prop} (hs : s.heap.IsSliceOf sl .none .none (.int (-1) u))
    (h : Q ((n : Int) - 1, -1, n) s) : wpAny (model prog w) A (Builtin.Slice.sliceApplied (.ref sl) (pure (n : Int))) Q E s := by
  obtain ⟨os, hos, hcs, hds⟩ := id hs
  unfold Builtin.Slice.sliceApplied Builtin.Slice.sliceFields
  refine wpAny_bind (wpAny_bind (wpAny_field hos hds (x := .none) rfl (wpAny_bind (wpAny_field hos hds (x := .none) rfl (wpAny_bind (wpAny_field hos hds (x := .int (-1) u) rfl (wpAny_pure ?_)))))))
  refine wpAny_bind (HT.slicePart_ (.int (-1) u) ?_)
  show wpAny _ _ (if ((-1 : Int) == 0) = true then _ else _) _ _ s
  rw [if_neg (by decide)]
  refine wpAny_bind (HT.slicePart_ .none (wpAny_bind (HT.slicePart_ .none (wpAny_bind (wpAny_pure ?_)))))
  show wpAny _ _ (pure ((n : Int) - 1, (-1 : Int), Builtin.Slice.slicePlaces ((n : Int) - 1) (-1) (-1))) _ _ s
  have e : Builtin.Slice.slicePlaces ((n : Int) - 1) (-1) (-1) = n := by
    unfold Builtin.Slice.slicePlaces
    rw [if_neg (by omega)]
    by_cases hn : (n : Int) - 1 > -1
    · rw [if_pos hn]
      simp
    · rw [if_neg hn]
      omega
  rw [e]
  exact wpAny_pure h
theorem getItem_tuple_rev {t sl : Addr} {items : Array Value} {u : Tok} {Q : Value → Shared → Prop} (ht : IsTup s.heap t items) (hs : s.heap.IsSliceOf sl .none .none (.int (-1) u))
    (h : Q (.ref s.heap.objs.size) { s with heap := s.heap.push { cls := .type "tuple", data := .seq items.toList.reverse.toArray } })
    (hsz : items.size ≤ sizeLine) : wpAny (model prog w) A (getItem (.ref t) (.ref sl)) Q E s := by
  have htake : sizeOk (.seq items.toList.reverse.toArray) := by
    show items.toList.reverse.toArray.size ≤ sizeLine
    rw [List.size_toArray, List.length_reverse, Array.length_toList]
    exact hsz
  obtain ⟨os, hos, hcs, hds⟩ := id hs
  have hTs : s.TypeIs (.ref sl) "slice" := ⟨os, hos, hcs⟩
  unfold getItem
  try with_reducible refine wpAny_holding ?_
  first | refine wpAny_bind (wpAny_pure ?_) | skip
  refine wpAny_bind (wpAny_sequenceKey ht.typeIs (by decide) ?_)
  refine wpAny_bind (wpAny_callSpecial?_slot (name := Str.ofString "__getitem__") ht.typeIs PyProof.Rows.slot_tuple_getitem
    (wpAny_call_entry PyProof.Rows.slot_tuple_getitem ht.typeIs PyProof.Rows.entry_tuple_getitem ?_ (PyProof.Rows.args_tuple_getitem _ _)))
  show wpAny _ _ (Builtin.Tuple.tupleItemsOf (.ref t) >>= _) _ _ s
  refine wpAny_bind (tupleItemsOf_ ht ?_)
  refine wpAny_bind (wpAny_typeOf hTs ?_)
  rw [if_pos (by decide)]
  refine wpAny_bind (sliceApplied_rev hs ?_)
  have hno : ¬ ((((items.size : Int) - 1) == 0 && (-1 : Int) == 1 && items.size == items.size) = true) := by
    intro q
    rw [Bool.and_eq_true, Bool.and_eq_true] at q
    exact absurd q.1.2 (by decide)
  show wpAny _ _ (if (((items.size : Int) - 1) == 0 && (-1 : Int) == 1 && items.size == items.size) = true then _ else _) _ _ s
  rw [if_neg hno, pick_rev]
  first
    | exact wpAny_bind (m := Builtin.Tuple.tupleExact _) (wpAny_newObj_type (wpAny_pure ⟨_, rfl, wpAny_pure h⟩) htake)
    | exact wpAny_bind (m := Builtin.Tuple.tupleExact _) (wpAny_newObj_type (wpAny_bind (wpAny_pure (wpAny_pure ⟨_, rfl, wpAny_pure h⟩))) htake)
    | exact wpAny_bind (wpAny_bind (m := Builtin.Tuple.tupleExact _) (wpAny_newObj_type (wpAny_pure (wpAny_pure ⟨_, rfl, wpAny_pure h⟩)) htake))
    | exact wpAny_bind (wpAny_bind (m := Builtin.Tuple.tupleExact _) (wpAny_newObj_type (wpAny_pure ⟨_, rfl, wpAny_pure h⟩) htake))
end
/-- x[::-1] of a list or a tuple -/
def tRevA (K : PySem.W.Frag) (te : TE) : TE := fun σ H Q => te σ H fun x H1 => ∃ a xs, x = .ref a ∧ ((SqL K H1 a xs ∧ ∀ p, H1 p = none → Q (.ref p) (upd H1 p (.lst xs.reverse))) ∨ (SqT K H1 a xs ∧ ∀ p, H1 p = none → Q (.ref p) (upd H1 p (.tup xs.reverse))))
theorem pe_revA {e : Expr} {te : TE} {k : Nat} {p1 p2 p3 pos : Pos} (he : PE X e te) : PE X (.Subscript e (.Slice none none (some (.UnaryOp .USub (.Constant (.int 1) k p1) p2)) p3) pos) (tRevA X.K te) := by
  refine ⟨fun pins s σ H Q I h => ?_⟩
  refine Subscript_ (L2.thn (he.run pins s σ H _ I h) fun v s1 ⟨x, H1, I1, r1, q1⟩ => ?_)
  obtain ⟨a, xs, ex, hq⟩ := q1
  subst ex
  cases r1
  have hst : PO X (some (.UnaryOp .USub (.Constant (.int 1) k p1) p2)) (tPart (tUn (rU fun i => .int (-i)) (tC (.int 1)))) := po_some (pe_un un_neg pe_int)
  refine wpAny_Slice (L2.thn (po_none.run pins s1 σ H1 (fun o H2 => o = none ∧ H2 = H1) I1 ⟨rfl, rfl⟩) fun vl s2 ⟨l, H2, I2, pl, el, e2⟩ => ?_)
  subst el e2
  refine L2.thn (po_none.run pins s2 σ H2 (fun o H3 => o = none ∧ H3 = H2) I2 ⟨rfl, rfl⟩) fun vu s3 ⟨u, H3, I3, pu, eu, e3⟩ => ?_
  subst eu e3
  refine L2.thn (hst.run pins s3 σ H3 (fun o H4 => o = some (-1) ∧ H4 = H3) I3 ⟨1, rfl, -1, rfl, rfl, rfl⟩) fun vs s4 ⟨o, H4, I4, ps, eo, e4⟩ => ?_
  subst eo e4
  have I5 : Inv X pins σ H4 { s4 with heap := s4.heap.push { cls := .type "slice", data := .fields #[vl, vu, vs] } } := I4.kept (t' := s4.toks) fun b ob q => Heap.get?_push_of_some _ q
  show wpAny (model X.prog X.w) X.A (subscriptTail e (.Slice none none (some (.UnaryOp .USub (.Constant (.int 1) k p1) p2)) p3) (.ref a) (.ref s4.heap.objs.size)) (EP X pins σ Q) X.xe { s4 with heap := s4.heap.push { cls := .type "slice", data := .fields #[vl, vu, vs] } }
  rcases hq with ⟨hx, q⟩ | ⟨hx, q⟩
  · obtain ⟨its, r, ht, hz⟩ := I5.list hx
    have hlen := r.length
    refine tail_any (ops := [.ref a, .ref s4.heap.objs.size]) ht.isList.typeIs (PySem.slot_list_getitem.lookup) ?_ (by with_unfolding_all rfl)
    refine wpAny_getItem_list_slice ht.isList (Heap.IsSliceOf.new _ vl vu vs) pl pu ps (by decide) ?_ (by rw [List.size_toArray]; omega)
    rw [PySem.W.krv_pick]
    refine ⟨.ref _, _, I5.laid (t' := s4.toks) (o := .lst xs.reverse) (fun b ob q => Heap.get?_push_of_some _ q) (Nat.le_refl _) ?_, rfl, q _ (I5.hok.fresh (Nat.le_refl _))⟩
    exact ⟨by rw [List.length_reverse]; exact hz, _, 0, r.reverse, Heap.get?_push_size _ rfl⟩
  · obtain ⟨its, r, ht, hz⟩ := I5.tuple hx
    have hlen := r.length
    cases pl
    cases pu
    cases ps
    refine tail_any (ops := [.ref a, .ref s4.heap.objs.size]) ht.typeIs (PyProof.Rows.slot_tuple_getitem.lookup) ?_ (by with_unfolding_all rfl)
    refine getItem_tuple_rev ht (Heap.IsSliceOf.new _ _ _ _) ?_ (by rw [List.size_toArray]; omega)
    refine ⟨.ref _, _, I5.laid (t' := s4.toks) (o := .tup xs.reverse) (fun b ob q => Heap.get?_push_of_some _ q) (Nat.le_refl _) ?_, rfl, q _ (I5.hok.fresh (Nat.le_refl _))⟩
    exact ⟨by rw [List.length_reverse]; exact hz, _, r.reverse, IsTup.new _ _⟩

/-! ### repr of plain data -/
def rRepr (K : PySem.W.Frag) : List V → Hp → VK → Prop := fun xs H Q => ∃ x d, xs = [x] ∧ Dp K H x d ∧ d.showable = true ∧ d.hasDict = false ∧ d.depth ≤ 60 ∧ d.shown.length ≤ sizeLine ∧ Q (.str d.shown) H
theorem cr_repr (hg : X.A.guards = some []) (hu : X.A.units + 64 < cLine) : CallR X (.builtin "repr") (rRepr X.K) := by
  intro pins s σ H xs us Q I r h
  obtain ⟨x, d, rfl, hd, hs, hn, hp, hz, q⟩ := h
  obtain ⟨u, rfl, rx⟩ := vals1 r
  cases hd with
  | non => cases rx; exact PySem.P.repr_of_none ⟨.str _, H, I.tok _, ⟨_, rfl⟩, by simpa [PyData.shown] using q⟩
  | bl b => cases rx; exact PySem.P.repr_of_bool ⟨.str _, H, I.tok _, ⟨_, rfl⟩, by simpa [PyData.shown] using q⟩
  | int i => obtain ⟨t, rfl⟩ := rx; exact PySem.P.repr_of_int (by simpa [PyData.showable] using hs) ⟨.str _, H, I.tok _, ⟨_, rfl⟩, by simpa [PyData.shown] using q⟩
  | str y => obtain ⟨t, rfl⟩ := rx; exact PySem.P.repr_of_str ⟨.str _, H, I.tok _, ⟨_, rfl⟩, by simpa [PyData.shown] using q⟩ (by simpa [PyData.shown] using hz)
  | lst hx ha =>
    obtain ⟨as, r1⟩ := Dp.reads I _ _ u (.lst hx ha) rx
    cases rx
    exact repr_of_reads' r1 hs (PyData.noDict_hsm hn) hg (by omega) (fun _ _ e => e) (fun h' u tk hk => ⟨.str _, H, I.kept hk, ⟨_, rfl⟩, q⟩) hz
  | tup hx ha =>
    obtain ⟨as, r1⟩ := Dp.reads I _ _ u (.tup hx ha) rx
    cases rx
    exact repr_of_reads' r1 hs (PyData.noDict_hsm hn) hg (by omega) (fun _ _ e => e) (fun h' u tk hk => ⟨.str _, H, I.kept hk, ⟨_, rfl⟩, q⟩) hz
end
end Rf

namespace Rf
open PySem PySem.Spec PyProof.Rows L2

/-! ### the readings that say all -/
def seE (X : Cx) (e : Expr) : TE := fun σ H Q => ∀ pins s, Inv X pins σ H s → wpAny (model X.prog X.w) X.A (eval e X.env) (EP X pins σ Q) X.xe s
def seT (X : Cx) (e : Expr) : TT := fun σ H Q => ∀ pins s, Inv X pins σ H s → wpAny (model X.prog X.w) X.A (isTrue e X.env (eval e X.env)) (TP X pins σ Q) X.xe s
def seA (X : Cx) (es : List Expr) : TA := fun σ H Q => ∀ pos pins s, Inv X pins σ H s → wpAny (model X.prog X.w) X.A (spliced (backTo pos (starEach es X.env))) (AP X pins σ Q) X.xe s
def seS (X : Cx) (st : Stmt) : TS := fun D σ H => ∀ pins s, Inv X pins σ H s → wpAny (model X.prog X.w) X.A (exec st X.env) (SP X pins D) X.xe s
def seSs (X : Cx) (st : List Stmt) : TS := fun D σ H => ∀ pins s, Inv X pins σ H s → wpAny (model X.prog X.w) X.A (execs st X.env) (SP X pins D) X.xe s
def seG (X : Cx) (tg : Expr) : TG := fun v σ H Q => ∀ pins s u, Inv X pins σ H s → RelV v u → wpAny (model X.prog X.w) X.A (assign tg X.env u) (fun _ s' => ∃ σ' H', Inv X pins σ' H' s' ∧ Q σ' H') X.xe s
def seI (X : Cx) (tg it : Expr) : TI := fun σ H R => ∀ pins s, Inv X pins σ H s → wpAny (model X.prog X.w) X.A (eval it X.env) (fun v s1 => wpAny (model X.prog X.w) X.A (pyIter v) (PIE X pins σ tg R) X.xe s1) X.xe s

section
variable {X : Cx}
theorem pE (e : Expr) : PE X e (seE X e) := ⟨fun pins s _ _ _ I h => h pins s I⟩
theorem pT (e : Expr) : PT X e (seT X e) := ⟨fun pins s _ _ _ I h => h pins s I⟩
theorem pA (es : List Expr) : PA X es (seA X es) := ⟨fun pos pins s _ _ _ I h => h pos pins s I⟩
theorem pS (st : Stmt) : PS X st (seS X st) := ⟨fun pins s _ _ _ I h => h pins s I⟩
theorem pSs (st : List Stmt) : PSs X st (seSs X st) := ⟨fun pins s _ _ _ I h => h pins s I⟩
theorem pG (tg : Expr) : PG X tg (seG X tg) := ⟨fun pins s _ _ _ u _ I r h => h pins s u I r⟩
theorem pI (tg it : Expr) : PI X tg it (seI X tg it) := ⟨fun pins s _ _ _ I h => h pins s I⟩
theorem ofE {e : Expr} {t : TE} (h : PE X e t) {σ : L2.St} {H : Hp} {Q : VK} (q : t σ H Q) : seE X e σ H Q := fun pins s I => h.run pins s σ H Q I q
theorem ofT {e : Expr} {t : TT} (h : PT X e t) {σ : L2.St} {H : Hp} {Q : Bool → Hp → Prop} (q : t σ H Q) : seT X e σ H Q := fun pins s I => h.run pins s σ H Q I q
theorem ofA {es : List Expr} {t : TA} (h : PA X es t) {σ : L2.St} {H : Hp} {Q : List V → Hp → Prop} (q : t σ H Q) : seA X es σ H Q := fun pos pins s I => h.run pos pins s σ H Q I q
theorem ofS {st : Stmt} {t : TS} (h : PS X st t) {σ : L2.St} {H : Hp} {D : Ends} (q : t D σ H) : seS X st D σ H := fun pins s I => h.run pins s σ H D I q
theorem ofSs {st : List Stmt} {t : TS} (h : PSs X st t) {σ : L2.St} {H : Hp} {D : Ends} (q : t D σ H) : seSs X st D σ H := fun pins s I => h.run pins s σ H D I q
theorem ofG {tg : Expr} {t : TG} (h : PG X tg t) {v : V} {σ : L2.St} {H : Hp} {Q : L2.St → Hp → Prop} (q : t v σ H Q) : seG X tg v σ H Q := fun pins s u I r => h.run pins s σ H v u Q I r q
theorem ofI {tg it : Expr} {t : TI} (h : PI X tg it t) {σ : L2.St} {H : Hp} {R : L2.It → Hp → Prop} (q : t σ H R) : seI X tg it σ H R := fun pins s I => h.run pins s σ H R I q

/-- the written part is tracked nowhere; no list is too long -/
structure KF (K : PySem.W.Frag) (H : Hp) : Prop where
  f : ∀ b o, K.lookup b = some o → H b = none
theorem KF.free {K : PySem.W.Frag} {H : Hp} (kf : KF K H) {p : Addr} {o : HO} (h : H p = some o) : K.lookup p = none := by
  cases q : K.lookup p with
  | none => rfl
  | some o' => rw [kf.f p o' q] at h; cases h
theorem kf_of {pins : List (Addr × Obj)} {σ : L2.St} {H : Hp} {s : Shared} (I : Inv X pins σ H s) : KF X.K H := ⟨fun b o e => (I.bs b o (I.mod.kin b o e)).2⟩

theorem seE.thn {e : Expr} {σ : L2.St} {H : Hp} {Q Q' : VK} (h : seE X e σ H Q) (q : ∀ v H', KF X.K H' → Q v H' → Q' v H') : seE X e σ H Q' := fun pins s I =>
  L2.thn (h pins s I) fun _ _ ⟨v, H', I', r, z⟩ => ⟨v, H', I', r, q v H' (kf_of I') z⟩
theorem seT.thn {e : Expr} {σ : L2.St} {H : Hp} {Q Q' : Bool → Hp → Prop} (h : seT X e σ H Q) (q : ∀ v H', KF X.K H' → Q v H' → Q' v H') : seT X e σ H Q' := fun pins s I =>
  L2.thn (h pins s I) fun _ _ ⟨H', I', z⟩ => ⟨H', I', q _ H' (kf_of I') z⟩
theorem seA.thn {es : List Expr} {σ : L2.St} {H : Hp} {Q Q' : List V → Hp → Prop} (h : seA X es σ H Q) (q : ∀ v H', KF X.K H' → Q v H' → Q' v H') : seA X es σ H Q' := fun pos pins s I =>
  L2.thn (h pos pins s I) fun _ _ ⟨v, H', I', r, z⟩ => ⟨v, H', I', r, q v H' (kf_of I') z⟩
theorem seE.kf {e : Expr} {σ : L2.St} {H : Hp} {Q : VK} (h : KF X.K H → seE X e σ H Q) : seE X e σ H Q := fun pins s I => h (kf_of I) pins s I
theorem seA.kf {e : List Expr} {σ : L2.St} {H : Hp} {Q : List V → Hp → Prop} (h : KF X.K H → seA X e σ H Q) : seA X e σ H Q := fun pos pins s I => h (kf_of I) pos pins s I
theorem seG.kf {e : Expr} {v : V} {σ : L2.St} {H : Hp} {Q : L2.St → Hp → Prop} (h : KF X.K H → seG X e v σ H Q) : seG X e v σ H Q := fun pins s u I r => h (kf_of I) pins s u I r
theorem seG.thn {e : Expr} {v : V} {σ : L2.St} {H : Hp} {Q Q' : L2.St → Hp → Prop} (h : seG X e v σ H Q) (q : ∀ σ' H', Q σ' H' → Q' σ' H') : seG X e v σ H Q' := fun pins s u I r =>
  L2.thn (h pins s u I r) fun _ _ ⟨σ', H', I', z⟩ => ⟨σ', H', I', q σ' H' z⟩
theorem seS.thn {e : Stmt} {σ : L2.St} {H : Hp} {D D' : Ends} (h : seS X e D σ H) (q1 : ∀ σ' H', KF X.K H' → D.nx σ' H' → D'.nx σ' H') (q2 : ∀ v H', KF X.K H' → D.rt v H' → D'.rt v H')
    (q3 : ∀ σ' H', KF X.K H' → D.bk σ' H' → D'.bk σ' H') (q4 : ∀ σ' H', KF X.K H' → D.ct σ' H' → D'.ct σ' H') : seS X e D' σ H := fun pins s I =>
  L2.thn (h pins s I) fun f s' z => by
    cases f with
    | next => obtain ⟨σ', H', I', z⟩ := z; exact ⟨σ', H', I', q1 _ _ (kf_of I') z⟩
    | brk => obtain ⟨σ', H', I', z⟩ := z; exact ⟨σ', H', I', q3 _ _ (kf_of I') z⟩
    | cont => obtain ⟨σ', H', I', z⟩ := z; exact ⟨σ', H', I', q4 _ _ (kf_of I') z⟩
    | ret u => obtain ⟨v, σ', H', I', r, z⟩ := z; exact ⟨v, σ', H', I', r, q2 _ _ (kf_of I') z⟩
theorem seSs.thn {e : List Stmt} {σ : L2.St} {H : Hp} {D D' : Ends} (h : seSs X e D σ H) (q1 : ∀ σ' H', KF X.K H' → D.nx σ' H' → D'.nx σ' H') (q2 : ∀ v H', KF X.K H' → D.rt v H' → D'.rt v H')
    (q3 : ∀ σ' H', KF X.K H' → D.bk σ' H' → D'.bk σ' H') (q4 : ∀ σ' H', KF X.K H' → D.ct σ' H' → D'.ct σ' H') : seSs X e D' σ H := fun pins s I =>
  L2.thn (h pins s I) fun f s' z => by
    cases f with
    | next => obtain ⟨σ', H', I', z⟩ := z; exact ⟨σ', H', I', q1 _ _ (kf_of I') z⟩
    | brk => obtain ⟨σ', H', I', z⟩ := z; exact ⟨σ', H', I', q3 _ _ (kf_of I') z⟩
    | cont => obtain ⟨σ', H', I', z⟩ := z; exact ⟨σ', H', I', q4 _ _ (kf_of I') z⟩
    | ret u => obtain ⟨v, σ', H', I', r, z⟩ := z; exact ⟨v, σ', H', I', r, q2 _ _ (kf_of I') z⟩
end

/-! ### data in the abstract heap -/
theorem line_eq : LINE = sizeLine := by rw [sizeLine_eq]; rfl
abbrev S0 (s : List Nat) : Str := ⟨s.toArray⟩
/-- codes of signs -/
def CP (s : List Nat) : Prop := ∀ c ∈ s, c < 0x110000

/-- the addresses that may be written: those of the memory, and hidden ones -/
structure Wd where
  l : List Addr
  z : List Addr
def Wd.out (ρ : Wd) (p : Addr) : Prop := p ∉ ρ.l ∧ p ∉ ρ.z

/-- a key -/
def KR : D → Key → Prop
  | .int i, .inl j => i = j
  | .str s, .inr x => x = S0 s
  | _, _ => False
section
variable (K : PySem.W.Frag) (fa : Nat → Addr)
/-- where a tuple stands: out of what is written, or in the written part -/
def TupO (ρ : Wd) (H : Hp) (p : Addr) (vs : List V) : Prop :=
  (Rd H p (.tup vs) ∧ ρ.out p) ∨ ∃ (o : Obj) (its : Array Value) (n : Nat), K.lookup p = some o ∧ o.cls = .type "tuple" ∧ o.data = .seq its n ∧ its.size ≤ sizeLine ∧ Vals vs its.toList
def LstO (ρ : Wd) (H : Hp) (p : Addr) (vs : List V) : Prop :=
  (Rd H p (.lst vs) ∧ ρ.out p) ∨ ∃ (o : Obj) (its : Array Value) (n : Nat), K.lookup p = some o ∧ o.cls = .type "list" ∧ o.dict = none ∧ o.data = .seq its n ∧ its.size ≤ sizeLine ∧ Vals vs its.toList
mutual
inductive RD : Wd → Hp → D → V → Prop where
  | non {ρ H} : RD ρ H .non .non
  | bl {ρ H b} : RD ρ H (.bl b) (.bl b)
  | int {ρ H i} : RD ρ H (.int i) (.int i)
  | str {ρ H s} : s.length ≤ LINE → CP s → RD ρ H (.str s) (.str (S0 s))
  | tup {ρ H ds p vs} : SqT K H p vs → TupO K ρ H p vs → RDs ρ H ds vs → RD ρ H (.tup ds) (.ref p)
  | lst {ρ H ds p vs} : H p = some (.lst vs) → ρ.out p → RDs ρ H ds vs → RD ρ H (.lst ds) (.ref p)
  | scr {ρ H ns p} : SqL K H p (ns.map V.int) → LstO K ρ H p (ns.map V.int) → RD ρ H (.scr ns) (.ref p)
  | fn {ρ H f} : RD ρ H (.fn f) (.ref (fa f))
  | dct {ρ H kvs p ks} : H p = some (.dK ks) → ρ.out p → RKs ρ H kvs ks → RD ρ H (.dct kvs) (.ref p)
inductive RDs : Wd → Hp → List D → List V → Prop where
  | nil {ρ H} : RDs ρ H [] []
  | cons {ρ H d ds v vs} : RD ρ H d v → RDs ρ H ds vs → RDs ρ H (d :: ds) (v :: vs)
inductive RKs : Wd → Hp → List (D × D) → List (Key × V) → Prop where
  | nil {ρ H} : RKs ρ H [] []
  | cons {ρ H k d r k' v r'} : KR k k' → RD ρ H d v → RKs ρ H r r' → RKs ρ H ((k, d) :: r) ((k', v) :: r')
end
def RV (ρ : Wd) (H : Hp) : Val → V → Prop
  | .d x, v => RD K fa ρ H x v
  | .r i, v => ∃ a, ρ.l[i]? = some a ∧ v = .ref a
inductive RVs : Wd → Hp → List Val → List V → Prop where
  | nil {ρ H} : RVs ρ H [] []
  | cons {ρ H x xs v vs} : RV K fa ρ H x v → RVs ρ H xs vs → RVs ρ H (x :: xs) (v :: vs)
def RO (ρ : Wd) (H : Hp) (a : Addr) : Ob → Prop
  | .lst us => ∃ vs, H a = some (.lst vs) ∧ RVs K fa ρ H us vs
  | .dct _ => False
  | .ins _ _ => False
/-- the memory is what the heap bears -/
structure HR (ρ : Wd) (M : Mem) (H : Hp) : Prop where
  len : ρ.l.length = M.length
  nd : ρ.l.Nodup
  at_ : ∀ (i : Nat) a o, ρ.l[i]? = some a → M[i]? = some o → RO K fa ρ H a o
  zr : ∀ a ∈ ρ.z, H a ≠ none
/-- how heaps go on -/
structure Go (ρ : Wd) (H : Hp) (ρ' : Wd) (H' : Hp) : Prop where
  gr : ∃ n, ρ'.l = ρ.l ++ n ∧ ∀ a ∈ n, H a = none
  zz : ρ'.z = ρ.z
  fr : ∀ b o, H b = some o → b ∉ ρ.l → H' b = some o
  dm : ∀ b, H b ≠ none → H' b ≠ none
/-- what data is, it stays -/
structure Kp (ρ : Wd) (H : Hp) (ρ' : Wd) (H' : Hp) : Prop where
  rd : ∀ p o, H p = some o → ρ.out p → H' p = some o ∧ ρ'.out p
def Pl (ρ ρ' : Wd) : Prop := ∀ (i : Nat) a, ρ.l[i]? = some a → ρ'.l[i]? = some a
structure SR (ρ : Wd) (H : Hp) (s : Slots) (σ : L2.St) : Prop where
  len : s.length = σ.length
  at_ : ∀ (i : Nat) x, s[i]? = some (some x) → ∃ v, σ[i]? = some (some v) ∧ RV K fa ρ H x v
end

section
variable {K : PySem.W.Frag} {fa : Nat → Addr} {ρ ρ' ρ1 ρ2 : Wd} {H H' H1 H2 : Hp} {M M' : Mem}
theorem Go.refl : Go ρ H ρ H := ⟨⟨[], by simp, by simp⟩, rfl, fun _ _ h _ => h, fun _ h => h⟩
theorem Go.trans (a : Go ρ H ρ1 H1) (b : Go ρ1 H1 ρ2 H2) : Go ρ H ρ2 H2 := by
  obtain ⟨⟨n1, e1, h1⟩, z1, f1, d1⟩ := a
  obtain ⟨⟨n2, e2, h2⟩, z2, f2, d2⟩ := b
  refine ⟨⟨n1 ++ n2, by rw [e2, e1, List.append_assoc], fun x hx => ?_⟩, z2.trans z1, fun x o hx hn => ?_, fun x h => d2 x (d1 x h)⟩
  · rcases List.mem_append.mp hx with hx | hx
    · exact h1 x hx
    · cases q : H x with
      | none => rfl
      | some o => exact absurd (h2 x hx) (d1 x (by rw [q]; simp))
  · refine f2 x o (f1 x o hx hn) ?_
    rw [e1]
    intro hm
    rcases List.mem_append.mp hm with hm | hm
    · exact hn hm
    · rw [h1 x hm] at hx; cases hx
theorem Go.nl (g : Go ρ H ρ' H') {p : Addr} (h : p ∉ ρ.l) (t : H p ≠ none) : p ∉ ρ'.l := by
  obtain ⟨⟨n, e, q⟩, _, _, _⟩ := g
  rw [e]
  intro hm
  rcases List.mem_append.mp hm with hm | hm
  · exact h hm
  · exact t (q p hm)
theorem Go.out (g : Go ρ H ρ' H') {p : Addr} (h : ρ.out p) (t : H p ≠ none) : ρ'.out p := by
  refine ⟨g.nl h.1 t, ?_⟩
  rw [g.zz]
  exact h.2
theorem Go.kp (g : Go ρ H ρ' H') : Kp ρ H ρ' H' := ⟨fun p o h n => ⟨g.fr p o h n.1, g.out n (by rw [h]; simp)⟩⟩
theorem Go.pl (g : Go ρ H ρ' H') : Pl ρ ρ' := by
  intro i a e
  obtain ⟨⟨n, e2, _⟩, _, _, _⟩ := g
  rw [e2, List.getElem?_append_left (by exact (List.getElem?_eq_some_iff.mp e).1)]
  exact e
theorem TupO.sq {p : Addr} {vs : List V} (n : TupO K ρ H p vs) : SqT K H p vs := n.elim (fun h => .inl h.1) .inr
theorem LstO.sq {p : Addr} {vs : List V} (n : LstO K ρ H p vs) : SqL K H p vs := n.elim (fun h => .inl h.1) .inr
theorem Kp.tupO (g : Kp ρ H ρ' H') {p : Addr} {vs : List V} (n : TupO K ρ H p vs) : TupO K ρ' H' p vs := by
  rcases n with ⟨h | ⟨o, h⟩, n⟩ | h
  · exact .inl ⟨.inl (g.rd _ _ h n).1, (g.rd _ _ h n).2⟩
  · exact .inl ⟨.inr ⟨o, (g.rd _ _ h n).1⟩, (g.rd _ _ h n).2⟩
  · exact .inr h
theorem Kp.lstO (g : Kp ρ H ρ' H') {p : Addr} {vs : List V} (n : LstO K ρ H p vs) : LstO K ρ' H' p vs := by
  rcases n with ⟨h | ⟨o, h⟩, n⟩ | h
  · exact .inl ⟨.inl (g.rd _ _ h n).1, (g.rd _ _ h n).2⟩
  · exact .inl ⟨.inr ⟨o, (g.rd _ _ h n).1⟩, (g.rd _ _ h n).2⟩
  · exact .inr h
mutual
theorem RD.kp (g : Kp ρ H ρ' H') : ∀ {d : D} {v : V}, RD K fa ρ H d v → RD K fa ρ' H' d v
  | _, _, .non => .non
  | _, _, .bl => .bl
  | _, _, .int => .int
  | _, _, .str h c => .str h c
  | _, _, .tup h n r => .tup (g.tupO n).sq (g.tupO n) (RDs.kp g r)
  | _, _, .lst h n r => .lst (g.rd _ _ h n).1 (g.rd _ _ h n).2 (RDs.kp g r)
  | _, _, .scr h n => .scr (g.lstO n).sq (g.lstO n)
  | _, _, .fn => .fn
  | _, _, .dct h n r => .dct (g.rd _ _ h n).1 (g.rd _ _ h n).2 (RKs.kp g r)
theorem RDs.kp (g : Kp ρ H ρ' H') : ∀ {ds : List D} {vs : List V}, RDs K fa ρ H ds vs → RDs K fa ρ' H' ds vs
  | _, _, .nil => .nil
  | _, _, .cons a b => .cons (RD.kp g a) (RDs.kp g b)
theorem RKs.kp (g : Kp ρ H ρ' H') : ∀ {kvs : List (D × D)} {ks : List (Key × V)}, RKs K fa ρ H kvs ks → RKs K fa ρ' H' kvs ks
  | _, _, .nil => .nil
  | _, _, .cons k a b => .cons k (RD.kp g a) (RKs.kp g b)
end
theorem RV.kp (g : Kp ρ H ρ' H') (q : Pl ρ ρ') {x : Val} {v : V} (h : RV K fa ρ H x v) : RV K fa ρ' H' x v := by
  cases x with
  | d x => exact RD.kp g h
  | r i =>
    obtain ⟨a, e, w⟩ := h
    exact ⟨a, q i a e, w⟩
theorem RVs.kp (g : Kp ρ H ρ' H') (q : Pl ρ ρ') : ∀ {xs : List Val} {vs : List V}, RVs K fa ρ H xs vs → RVs K fa ρ' H' xs vs
  | _, _, .nil => .nil
  | _, _, .cons a b => .cons (RV.kp g q a) (RVs.kp g q b)
theorem SR.kp (g : Kp ρ H ρ' H') (q : Pl ρ ρ') {s : Slots} {σ : L2.St} (h : SR K fa ρ H s σ) : SR K fa ρ' H' s σ :=
  ⟨h.len, fun i x e => let ⟨v, a, b⟩ := h.at_ i x e; ⟨v, a, RV.kp g q b⟩⟩
theorem RD.go (g : Go ρ H ρ' H') {d : D} {v : V} (h : RD K fa ρ H d v) : RD K fa ρ' H' d v := h.kp g.kp
theorem RDs.go (g : Go ρ H ρ' H') {d : List D} {v : List V} (h : RDs K fa ρ H d v) : RDs K fa ρ' H' d v := h.kp g.kp
theorem RV.go (g : Go ρ H ρ' H') {d : Val} {v : V} (h : RV K fa ρ H d v) : RV K fa ρ' H' d v := h.kp g.kp g.pl
theorem RVs.go (g : Go ρ H ρ' H') {d : List Val} {v : List V} (h : RVs K fa ρ H d v) : RVs K fa ρ' H' d v := h.kp g.kp g.pl
theorem SR.go (g : Go ρ H ρ' H') {s : Slots} {σ : L2.St} (h : SR K fa ρ H s σ) : SR K fa ρ' H' s σ := h.kp g.kp g.pl

theorem RDs.length : ∀ {ds : List D} {vs : List V}, RDs K fa ρ H ds vs → ds.length = vs.length
  | _, _, .nil => rfl
  | _, _, .cons _ b => by simp [RDs.length b]
theorem RVs.length : ∀ {ds : List Val} {vs : List V}, RVs K fa ρ H ds vs → ds.length = vs.length
  | _, _, .nil => rfl
  | _, _, .cons _ b => by simp [RVs.length b]
theorem RDs.vs : ∀ {ds : List D} {vs : List V}, RDs K fa ρ H ds vs → RVs K fa ρ H (ds.map .d) vs
  | _, _, .nil => .nil
  | _, _, .cons a b => .cons a (RDs.vs b)
theorem RVs.ds : ∀ {us : List Val} {vs : List V} {ds : List D}, RVs K fa ρ H us vs → datas us = some ds → RDs K fa ρ H ds vs
  | _, _, _, .nil, h => by simp [datas] at h; subst h; exact .nil
  | _, _, _, .cons (x := .d y) (xs := xs) a b, h => by
    unfold datas at h
    split at h
    · rename_i ys q
      cases h
      exact .cons a (RVs.ds b q)
    · cases h
  | _, _, _, .cons (x := .r y) a b, h => by simp [datas] at h
theorem RVs.append : ∀ {a b : List Val} {vs ws : List V}, RVs K fa ρ H a vs → RVs K fa ρ H b ws → RVs K fa ρ H (a ++ b) (vs ++ ws)
  | _, _, _, _, .nil, h => h
  | _, _, _, _, .cons x y, h => .cons x (RVs.append y h)
theorem RDs.append : ∀ {a b : List D} {vs ws : List V}, RDs K fa ρ H a vs → RDs K fa ρ H b ws → RDs K fa ρ H (a ++ b) (vs ++ ws)
  | _, _, _, _, .nil, h => h
  | _, _, _, _, .cons x y, h => .cons x (RDs.append y h)
theorem RVs.get : ∀ {a : List Val} {vs : List V} {i : Nat} {x : Val}, RVs K fa ρ H a vs → a[i]? = some x → ∃ v, vs[i]? = some v ∧ RV K fa ρ H x v
  | _, _, _, _, .nil, h => by simp at h
  | _, _, 0, _, .cons a _, h => by simp at h; subst h; exact ⟨_, rfl, a⟩
  | _, _, i + 1, _, .cons _ b, h => by simpa using RVs.get (i := i) b (by simpa using h)
theorem RDs.get {a : List D} {vs : List V} {i : Nat} {x : D} (r : RDs K fa ρ H a vs) (h : a[i]? = some x) : ∃ v, vs[i]? = some v ∧ RD K fa ρ H x v := by
  obtain ⟨v, e, q⟩ := RVs.get (i := i) (x := .d x) r.vs (by rw [List.getElem?_map, h]; rfl)
  exact ⟨v, e, q⟩
theorem RVs.set : ∀ {a : List Val} {vs : List V} (i : Nat) {x : Val} {v : V}, RVs K fa ρ H a vs → RV K fa ρ H x v → RVs K fa ρ H (a.set i x) (vs.set i v)
  | _, _, _, _, _, .nil, _ => .nil
  | _, _, 0, _, _, .cons _ b, h => .cons h b
  | _, _, i + 1, _, _, .cons a b, h => .cons a (RVs.set i b h)
theorem RVs.take : ∀ {a : List Val} {vs : List V} (n : Nat), RVs K fa ρ H a vs → RVs K fa ρ H (a.take n) (vs.take n)
  | _, _, 0, _ => .nil
  | _, _, _ + 1, .nil => .nil
  | _, _, n + 1, .cons a b => .cons a (RVs.take n b)
theorem RVs.drop : ∀ {a : List Val} {vs : List V} (n : Nat), RVs K fa ρ H a vs → RVs K fa ρ H (a.drop n) (vs.drop n)
  | _, _, 0, h => h
  | _, _, _ + 1, .nil => .nil
  | _, _, n + 1, .cons _ b => RVs.drop n b
theorem RDs.take : ∀ {a : List D} {vs : List V} (n : Nat), RDs K fa ρ H a vs → RDs K fa ρ H (a.take n) (vs.take n)
  | _, _, 0, _ => .nil
  | _, _, _ + 1, .nil => .nil
  | _, _, n + 1, .cons a b => .cons a (RDs.take n b)
theorem RDs.drop : ∀ {a : List D} {vs : List V} (n : Nat), RDs K fa ρ H a vs → RDs K fa ρ H (a.drop n) (vs.drop n)
  | _, _, 0, h => h
  | _, _, _ + 1, .nil => .nil
  | _, _, n + 1, .cons _ b => RDs.drop n b
theorem RVs.rev : ∀ {a : List Val} {vs : List V}, RVs K fa ρ H a vs → RVs K fa ρ H a.reverse vs.reverse
  | _, _, .nil => .nil
  | _, _, .cons a b => by rw [List.reverse_cons, List.reverse_cons]; exact (RVs.rev b).append (.cons a .nil)
theorem RDs.rev : ∀ {a : List D} {vs : List V}, RDs K fa ρ H a vs → RDs K fa ρ H a.reverse vs.reverse
  | _, _, .nil => .nil
  | _, _, .cons a b => by rw [List.reverse_cons, List.reverse_cons]; exact (RDs.rev b).append (.cons a .nil)
theorem RVs.rep {a : List Val} {vs : List V} (h : RVs K fa ρ H a vs) : ∀ n : Nat, RVs K fa ρ H (Rf.rep a n) (List.replicate n vs).flatten
  | 0 => .nil
  | n + 1 => by
    show RVs K fa ρ H (a ++ Rf.rep a n) (List.replicate (n + 1) vs).flatten
    rw [List.replicate_succ, List.flatten_cons]
    exact h.append (RVs.rep h n)

/-- a place of the memory, in the heap -/
theorem HR.lst (h : HR K fa ρ M H) {i : Nat} {us : List Val} {v : V} (e : M[i]? = some (.lst us)) (r : RV K fa ρ H (.r i) v) :
    ∃ a vs, ρ.l[i]? = some a ∧ v = .ref a ∧ H a = some (.lst vs) ∧ RVs K fa ρ H us vs := by
  obtain ⟨a, q, w⟩ := r
  obtain ⟨vs, x, y⟩ := h.at_ i a _ q e
  exact ⟨a, vs, q, w, x, y⟩
/-- a list of either sort -/
theorem HR.lstOf (h : HR K fa ρ M H) {x : Val} {us : List Val} {v : V} (e : lstOf M x = some us) (r : RV K fa ρ H x v) :
    ∃ a vs, v = .ref a ∧ H a = some (.lst vs) ∧ RVs K fa ρ H us vs := by
  cases x with
  | d x =>
    cases x with
    | lst ds =>
      have e' : ds.map Val.d = us := Option.some.inj e
      subst e'
      cases r with
      | lst hp n rs => exact ⟨_, _, rfl, hp, rs.vs⟩
    | _ => cases e
  | r i =>
    have e' : (match M[i]? with
      | some (.lst vs) => some vs
      | _ => none) = some us := e
    cases q : M[i]? with
    | none => rw [q] at e'; cases e'
    | some o =>
      rw [q] at e'
      cases o with
      | lst us' =>
        cases e'
        obtain ⟨a, vs, _, x, y, z⟩ := h.lst q r
        exact ⟨a, vs, x, y, z⟩
      | dct _ => cases e'
      | ins _ _ => cases e'

theorem HR.trk (h : HR K fa ρ M H) {a : Addr} (m : a ∈ ρ.l) : ∃ vs, H a = some (.lst vs) := by
  obtain ⟨i, hi, e⟩ := List.mem_iff_getElem.mp m
  have e1 : ρ.l[i]? = some a := by rw [List.getElem?_eq_getElem hi, e]
  obtain ⟨o, e2⟩ : ∃ o, M[i]? = some o := ⟨_, List.getElem?_eq_getElem (by rw [← h.len]; exact hi)⟩
  have q := h.at_ i a _ e1 e2
  cases o with
  | lst us => obtain ⟨vs, x, _⟩ := q; exact ⟨vs, x⟩
  | dct _ => exact q.elim
  | ins _ _ => exact q.elim
theorem HR.out (h : HR K fa ρ M H) {p : Addr} (hn : H p = none) : ρ.out p := by
  refine ⟨fun hm => ?_, fun hm => h.zr p hm hn⟩
  obtain ⟨vs, e⟩ := h.trk hm
  rw [hn] at e; cases e
/-- the memory under another heap -/
theorem HR.kp (h : HR K fa ρ M H) (g : Kp ρ H ρ' H') (e : ρ'.l = ρ.l) (k : ∀ a ∈ ρ.l, H' a = H a) (z : ∀ a ∈ ρ'.z, H' a ≠ none) : HR K fa ρ' M H' := by
  refine ⟨by rw [e]; exact h.len, by rw [e]; exact h.nd, fun i a ob e1 e2 => ?_, z⟩
  rw [e] at e1
  have q := h.at_ i a ob e1 e2
  cases ob with
  | lst us =>
    obtain ⟨vs, x, y⟩ := q
    exact ⟨vs, by rw [k a (List.mem_of_getElem? e1)]; exact x, y.kp g (fun i a q => by rw [e]; exact q)⟩
  | dct _ => exact q
  | ins _ _ => exact q

/-- a new object that is data -/
theorem go_new (hn : H p = none) {o : HO} : Go ρ H ρ (upd H p o) :=
  ⟨⟨[], by simp, by simp⟩, rfl, fun b x e _ => by rw [upd_ne (fun z => by rw [z, hn] at e; cases e)]; exact e, fun b e => by
    by_cases z : b = p
    · rw [z, upd_same]; simp
    · rw [upd_ne z]; exact e⟩
theorem HR.new (h : HR K fa ρ M H) {p : Addr} {o : HO} (hn : H p = none) : HR K fa ρ M (upd H p o) := by
  refine h.kp (go_new hn).kp rfl (fun a m => ?_) (fun a m => (go_new (ρ := ρ) hn).dm a (h.zr a m))
  exact upd_ne (fun z => (h.out hn).1 (by rw [← z]; exact m))
/-- a new object that is a place of the memory -/
theorem go_place (hn : H p = none) : Go ρ H ⟨ρ.l ++ [p], ρ.z⟩ (upd H p o) := by
  refine ⟨⟨[p], rfl, fun a ha => ?_⟩, rfl, (go_new hn (ρ := ρ)).fr, (go_new hn (ρ := ρ)).dm⟩
  have e : a = p := by simpa using ha
  subst e
  exact hn
/-- a list becomes a place -/
theorem HR.adopt (h : HR K fa ρ M H) (g : Kp ρ H ρ' H') {p : Addr} (e : ρ'.l = ρ.l ++ [p]) (k : ∀ a ∈ ρ.l, H' a = H a) {us : List Val} {vs : List V} (hp : H' p = some (.lst vs)) (n : p ∉ ρ.l)
    (z : ∀ a ∈ ρ'.z, H' a ≠ none) (r : RVs K fa ρ' H' us vs) : HR K fa ρ' (M ++ [.lst us]) H' := by
  have pl : Pl ρ ρ' := fun i a q => by
    rw [e, List.getElem?_append_left (by exact (List.getElem?_eq_some_iff.mp q).1)]
    exact q
  refine ⟨by simp [e, h.len], ?_, fun i a ob e1 e2 => ?_, z⟩
  · rw [e]
    refine List.nodup_append.mpr ⟨h.nd, by simp, fun a ha b hb => ?_⟩
    have e : b = p := by simpa using hb
    subst e
    intro z
    subst z
    exact n ha
  · rw [e] at e1
    by_cases hi : i < ρ.l.length
    · rw [List.getElem?_append_left hi] at e1
      rw [List.getElem?_append_left (by rw [← h.len]; exact hi)] at e2
      have q := h.at_ i a ob e1 e2
      cases ob with
      | lst us =>
        obtain ⟨vs, x, y⟩ := q
        exact ⟨vs, by rw [k a (List.mem_of_getElem? e1)]; exact x, y.kp g pl⟩
      | dct _ => exact q
      | ins _ _ => exact q
    · rw [List.getElem?_append_right (by omega)] at e1
      rw [List.getElem?_append_right (by rw [← h.len]; omega)] at e2
      have e0 : i - ρ.l.length = 0 := by
        have := (List.getElem?_eq_some_iff.mp e1).1
        simp at this
        omega
      rw [e0] at e1
      rw [← h.len, e0] at e2
      simp at e1 e2
      subst e1 e2
      exact ⟨vs, hp, r⟩
theorem HR.place (h : HR K fa ρ M H) {p : Addr} {us : List Val} {vs : List V} (hn : H p = none) (r : RVs K fa ρ H us vs) :
    HR K fa ⟨ρ.l ++ [p], ρ.z⟩ (M ++ [.lst us]) (upd H p (.lst vs)) := by
  have g := go_place (ρ := ρ) (o := .lst vs) hn
  exact h.adopt g.kp rfl (fun a m => upd_ne (fun z => (h.out hn).1 (by rw [← z]; exact m))) upd_same (h.out hn).1 (fun a m => g.dm a (h.zr a m)) (r.go g)
/-- a place is written -/
theorem HR.write (h : HR K fa ρ M H) {i : Nat} {p : Addr} {us us' : List Val} {vs vs' : List V} (e : ρ.l[i]? = some p) (hp : H p = some (.lst vs)) (r : RVs K fa ρ H us' vs') :
    HR K fa ρ (M.set i (.lst us')) (upd H p (.lst vs')) ∧ Go ρ H ρ (upd H p (.lst vs')) := by
  have hm : p ∈ ρ.l := List.mem_of_getElem? e
  have g : Go ρ H ρ (upd H p (.lst vs')) := ⟨⟨[], by simp, by simp⟩, rfl, fun b x e n => by rw [upd_ne (fun z => n (by rw [z]; exact hm))]; exact e, fun b q => by
    by_cases z : b = p
    · rw [z, upd_same]; simp
    · rw [upd_ne z]; exact q⟩
  refine ⟨⟨by simp [h.len], h.nd, fun j a ob e1 e2 => ?_, fun a m => g.dm a (h.zr a m)⟩, g⟩
  by_cases hj : j = i
  · subst hj
    rw [e] at e1
    cases e1
    have hlt : j < M.length := by rw [← h.len]; exact (List.getElem?_eq_some_iff.mp e).1
    rw [List.getElem?_set_self hlt] at e2
    cases e2
    exact ⟨vs', upd_same, r.go g⟩
  · rw [List.getElem?_set_ne (Ne.symm hj)] at e2
    have q := h.at_ j a ob e1 e2
    have ne : a ≠ p := by
      intro z
      subst z
      obtain ⟨h1, q1⟩ := List.getElem?_eq_some_iff.mp e
      obtain ⟨h2, q2⟩ := List.getElem?_eq_some_iff.mp e1
      exact hj ((List.getElem_inj h.nd).mp (q2.trans q1.symm))
    cases ob with
    | lst us =>
      obtain ⟨vs, x, y⟩ := q
      exact ⟨vs, by rw [upd_ne ne]; exact x, y.go g⟩
    | dct _ => exact q
    | ins _ _ => exact q

/-! hidden writable places -/
/-- a new hidden one -/
theorem kp_hide (hn : H p = none) {o : HO} : Kp ρ H ⟨ρ.l, p :: ρ.z⟩ (upd H p o) := by
  refine ⟨fun q x e w => ?_⟩
  have ne : q ≠ p := fun z => by rw [z, hn] at e; cases e
  exact ⟨by rw [upd_ne ne]; exact e, w.1, fun m => (List.mem_cons.mp m).elim ne w.2⟩
theorem HR.hide (h : HR K fa ρ M H) (hn : H p = none) {o : HO} : HR K fa ⟨ρ.l, p :: ρ.z⟩ M (upd H p o) := by
  refine h.kp (kp_hide hn) rfl (fun a m => upd_ne (fun z => (h.out hn).1 (by rw [← z]; exact m))) (fun a m => ?_)
  rcases List.mem_cons.mp m with rfl | m
  · rw [upd_same]; simp
  · exact (go_new (ρ := ρ) hn).dm a (h.zr a m)
/-- it is written -/
theorem kp_step (hz : p ∈ ρ.z) {o : HO} : Kp ρ H ρ (upd H p o) :=
  ⟨fun q x e w => ⟨(upd_ne (fun z => w.2 (by rw [z]; exact hz))).trans e, w⟩⟩
theorem HR.step (h : HR K fa ρ M H) (hz : p ∈ ρ.z) (hl : p ∉ ρ.l) {o : HO} : HR K fa ρ M (upd H p o) := by
  refine h.kp (kp_step hz) rfl (fun a m => upd_ne (fun z => hl (by rw [← z]; exact m))) (fun a m => ?_)
  by_cases z : a = p
  · rw [z, upd_same]; simp
  · rw [upd_ne z]; exact h.zr a m
/-- no longer hidden -/
theorem kp_show {l zs : List Addr} : Kp ⟨l, p :: zs⟩ H ⟨l, zs⟩ H :=
  ⟨fun q x e w => ⟨e, w.1, fun m => w.2 (List.mem_cons_of_mem _ m)⟩⟩
theorem HR.shown {l zs : List Addr} (h : HR K fa ⟨l, p :: zs⟩ M H) : HR K fa ⟨l, zs⟩ M H :=
  h.kp kp_show rfl (fun _ _ => rfl) (fun a m => h.zr a (List.mem_cons_of_mem _ m))
theorem kp_take {l zs : List Addr} : Kp ⟨l, p :: zs⟩ H ⟨l ++ [p], zs⟩ H := by
  refine ⟨fun q x e w => ⟨e, fun m => ?_, fun m => w.2 (List.mem_cons_of_mem _ m)⟩⟩
  rcases List.mem_append.mp m with m | m
  · exact w.1 m
  · have e : q = p := by simpa using m
    exact w.2 (by rw [e]; exact List.mem_cons_self)
/-- the memory goes on under less hiding -/
theorem Go.drop {l l' zs : List Addr} (g : Go ⟨l, p :: zs⟩ H ⟨l', p :: zs⟩ H') : Go ⟨l, zs⟩ H ⟨l', zs⟩ H' := ⟨g.gr, rfl, g.fr, g.dm⟩
end
end Rf

namespace Rf
open PySem PySem.Spec PyProof.Rows L2

/-! ### from the text to erased programs -/
abbrev Nms := List (Str × NameKind)
structure Tab where
  N : List Str
  fid : List (Str × Nat × Nat)
  gid : List (Str × Nat)
  free : List Str
  mu : List (Nat × Nat)

def ixIn (x : Str) : List Str → Option Nat
  | [] => none
  | y :: r => if x = y then some 0 else (ixIn x r).map (· + 1)
def isGl (T : Tab) (nm : Nms) (x : Str) : Bool := decide (nm.lookup x = some .globalImplicit) && !decide (x = "__debug__")
def isFr (T : Tab) (nm : Nms) (x : Str) : Bool := isGl T nm x && decide (x ∈ T.free) && !decide (x = "__name__")
def slot (T : Tab) (nm : Nms) (x : Str) : Option Nat :=
  match nm.lookup x with
  | some .local => if x = "__debug__" ∨ x = "__classdict__" then none else ixIn x T.N
  | some .cell => if x = "__debug__" ∨ x = "__classdict__" then none else ixIn x T.N
  | some .free => if x = "__debug__" ∨ x = "__classdict__" then none else ixIn x T.N
  | _ => none
/-- a name that is stored -/
def slotS (T : Tab) (nm : Nms) (x : Str) : Option Nat :=
  match nm.lookup x with
  | some .local => ixIn x T.N
  | some .cell => ixIn x T.N
  | _ => none
def bopOf : Operator → Option Bop
  | .Add => some .add
  | .Sub => some .sub
  | .Mult => some .mul
  | .FloorDiv => some .div
  | .Mod => some .mod
  | .Pow => some .pow
  | _ => none
def copOf : CmpOp → Cop
  | .Eq => .eq
  | .NotEq => .ne
  | .Lt => .lt
  | .LtE => .le
  | .Gt => .gt
  | .GtE => .ge
  | .Is => .is
  | .IsNot => .isNot
  | .In => .isIn
  | .NotIn => .notIn
def isCell (c : NameKind) : Bool := match c with
  | .cell => true
  | .free => true
  | _ => false
/-- the expressions that are taken -/
def okE : Expr → Bool
  | .BoolOp .. => true
  | .BinOp .. => true
  | .UnaryOp .. => true
  | .IfExp .. => true
  | .Compare .. => true
  | .Call .. => true
  | .Constant .. => true
  | .Subscript .. => true
  | .Name .. => true
  | .List .. => true
  | .Tuple .. => true
  | .ListComp .. => true
  | .Attribute .. => true
  | .Dict .. => true
  | _ => false
def cE (f : Expr → Option Ex) (e : Expr) : Option Ex := if okE e then f e else none
def cL (f : Expr → Option Ex) : List Expr → Option Exs
  | [] => some .nil
  | e :: r => match cE f e, cL f r with
    | some a, some b => some (.cons a b)
    | _, _ => none
def bEx : BoolOp → Ex → Ex → Ex
  | .And, a, b => .and a b
  | .Or, a, b => .or a b
def cBool (f : Expr → Option Ex) (op : BoolOp) : List Expr → Option Ex
  | [] => none
  | [e] => cE f e
  | e :: r => match cE f e, cBool f op r with
    | some a, some b => some (bEx op a b)
    | _, _ => none
def cO (f : Expr → Option Ex) : Option Expr → Option Ex
  | none => some (.con .non)
  | some e => cE f e
def cT (T : Tab) (nm : Nms) : Expr → Option Tg
  | .Name x _ => (slotS T nm x).map .nm
  | _ => none
def cTs (T : Tab) (nm : Nms) : List Expr → Option Tgs
  | [] => some .nil
  | e :: r => match cT T nm e, cTs T nm r with
    | some a, some b => some (.cons a b)
    | _, _ => none
def cTg (T : Tab) (nm : Nms) : Expr → Option Tg
  | .Name x _ => (slotS T nm x).map .nm
  | .Tuple es _ _ => (cTs T nm es).map .tup
  | _ => none
def zOf (T : Tab) (p : Pos) : Bool := !(T.mu.any fun q => q.1 == p.line && q.2 == p.col)
/-- keys and values in turn -/
def altL : List (Option Expr) → List Expr → Option (List Expr)
  | [], [] => some []
  | some k :: ks, v :: vs => (altL ks vs).map fun r => k :: v :: r
  | _, _ => none
def bi1T : List (Str × Bi) := [("len", .len), ("int", .int), ("str", .str), ("abs", .abs), ("tuple", .tuple), ("list", .list), ("sum", .sum), ("all", .all), ("any", .any), ("ord", .ord), ("repr", .repr), ("sorted", .sorted), ("min", .min), ("max", .max)]
def bi2T : List (Str × Bi) := [("min", .min2), ("max", .max2)]
def bi1 (x : Str) : Option Bi := bi1T.lookup x
def bi2 (x : Str) : Option Bi := bi2T.lookup x
def mt0T : List (Str × Mt) := [("pop", .pop), ("upper", .upper)]
def mt1T : List (Str × Mt) := [("join", .join), ("zfill", .zfill), ("index", .index), ("append", .append), ("pop", .popAt), ("split", .split), ("extend", .extend)]
def mt0 (x : Str) : Option Mt := mt0T.lookup x
def mt1 (x : Str) : Option Mt := mt1T.lookup x
def tyT : List (Str × Ty) := [("int", .int), ("str", .str), ("bool", .bool), ("tuple", .tuple), ("list", .list), ("dict", .dict)]
def tyOf (x : Str) : Option Ty := tyT.lookup x
def cTys (T : Tab) (nm : Nms) : List Expr → Option (List Ty)
  | [] => some []
  | .Name x _ :: r => match isFr T nm x, tyOf x, cTys T nm r with
    | true, some t, some ts => some (t :: ts)
    | _, _, _ => none
  | _ => none
/-- the names of a comprehension: its own ones with their places -/
def ownOf (T : Tab) : Nms → Option (List (Str × Nat))
  | [] => some []
  | (x, .local) :: r => match ixIn x T.N with
    | some i => (ownOf T r).map fun l => (x, i) :: l
    | none => ownOf T r
  | (x, .cell) :: r => match ixIn x T.N with
    | some i => (ownOf T r).map fun l => (x, i) :: l
    | none => ownOf T r
  | _ :: r => ownOf T r
def blkB (T : Tab) (nm : Nms) (sc : Scope) : Bool :=
  decide (sc.kind = .function) && (sc.names.all fun y => decide (sc.names.lookup y.1 = some y.2)) &&
    (sc.names.all fun y => match y.2 with
      | .free => (match nm.lookup y.1 with
        | some .cell => true
        | some .free => true
        | _ => false)
      | _ => true)
def isTupE : Expr → Bool
  | .Tuple .. => true
  | _ => false
def cIt (f : Expr → Option Ex) (T : Tab) (nm : Nms) (tg e : Expr) : Option It :=
  match e with
  | .Call (.Name x _) as [] _ => if (isFr T nm x && decide (x = "range")) = true then
      (match as with
      | [b] => match cE f b with
        | some b => some (.rng (.con (.int 0)) b)
        | none => none
      | [a, b] => match cE f a, cE f b with
        | some a, some b => some (.rng a b)
        | _, _ => none
      | [a, b, c] => match cE f a, cE f b, cE f c with
        | some a, some b, some c => some (.rng3 a b c)
        | _, _, _ => none
      | _ => none)
    else if (isFr T nm x && decide (x = "enumerate") && isTupE tg) = true then
      (match as with
      | [a] => (cE f a).map .enum
      | _ => none)
    else if (isFr T nm x && decide (x = "zip") && isTupE tg) = true then
      (match as with
      | [a, b] => match cE f a, cE f b with
        | some a, some b => some (.zip a b)
        | _, _ => none
      | _ => none)
    else (cE f e).map .ex
  | e => (cE f e).map .ex
def cIf (f : Expr → Option Ex) : List Expr → Option Ex
  | [] => some (.con (.bl true))
  | [c] => cE f c
  | _ => none
def compE : Nat → Tab → Nms → Expr → Option Ex
  | 0, _, _, _ => none
  | n + 1, T, nm, e =>
    match e with
    | .Constant c _ _ => match c with
      | .int i => some (.con (.int i))
      | .str s => if s.cps.size ≤ LINE ∧ (s.cps.toList.all fun c => decide (c < 0x110000)) = true then some (.con (.str s.cps.toList)) else none
      | .bool b => some (.con (.bl b))
      | .none => some (.con .non)
      | _ => none
    | .Name x _ => match slot T nm x with
      | some i => some (.var i)
      | none => if isGl T nm x then (T.gid.lookup x).map .glo else none
    | .Tuple es _ _ => if es.length ≤ 1000 then (cL (compE n T nm) es).map .tup else none
    | .List es p => if es.length ≤ 1000 then (cL (compE n T nm) es).map (.lst (zOf T p)) else none
    | .Dict ks vs _ => match altL ks vs with
      | some es => if 0 < ks.length ∧ ks.length ≤ 15 then (cL (compE n T nm) es).map .dct else none
      | none => none
    | .BinOp a op b p => match cE (compE n T nm) a, bopOf op, cE (compE n T nm) b with
      | some a, some o, some b => some (.bin (zOf T p) o a b)
      | _, _, _ => none
    | .UnaryOp .USub a _ => (cE (compE n T nm) a).map .neg
    | .UnaryOp .Not a _ => (cE (compE n T nm) a).map .not
    | .Compare a [op] [b] _ => match cE (compE n T nm) a, cE (compE n T nm) b with
      | some a, some b => some (.cmp (copOf op) a b)
      | _, _ => none
    | .Compare a [op, op'] [b, c] _ => match cE (compE n T nm) a, cE (compE n T nm) b, cE (compE n T nm) c with
      | some a, some b, some c => some (.chn (copOf op) (copOf op') a b c)
      | _, _, _ => none
    | .BoolOp op es _ => cBool (compE n T nm) op es
    | .IfExp c a b _ => match cE (compE n T nm) c, cE (compE n T nm) a, cE (compE n T nm) b with
      | some c, some a, some b => some (.ite c a b)
      | _, _, _ => none
    | .Subscript a (.Slice lo hi none _) p => match cE (compE n T nm) a, cO (compE n T nm) lo, cO (compE n T nm) hi with
      | some a, some l, some h => some (.slc (zOf T p) lo.isSome hi.isSome a l h)
      | _, _, _ => none
    | .Subscript a (.Slice none none (some (.UnaryOp .USub (.Constant (.int 1) _ _) _)) _) p => (cE (compE n T nm) a).map (.rev (zOf T p))
    | .Subscript a i _ => match cE (compE n T nm) a, cE (compE n T nm) i with
      | some a, some i => some (.idx a i)
      | _, _ => none
    | .Call (.Name x _) as [] p =>
      if isFr T nm x then
        (match as with
        | [a, .Name y py] => if x = "isinstance" then
            (match cE (compE n T nm) a, cTys T nm [.Name y py] with
            | some a, some ts => some (.isi a ts)
            | _, _ => none)
          else (match bi2 x, cL (compE n T nm) as with
            | some b, some es => some (.bi (zOf T p) b es)
            | _, _ => none)
        | [a, .Tuple ts _ _] => if x = "isinstance" ∧ ts.length ≤ 1000 then
            (match cE (compE n T nm) a, cTys T nm ts with
            | some a, some ts => some (.isi a ts)
            | _, _ => none)
          else none
        | [_] => (match bi1 x, cL (compE n T nm) as with
            | some b, some es => some (.bi (zOf T p) b es)
            | _, _ => none)
        | [_, _] => (match bi2 x, cL (compE n T nm) as with
            | some b, some es => some (.bi (zOf T p) b es)
            | _, _ => none)
        | _ => none)
      else if isGl T nm x then
        (match T.fid.lookup x, cL (compE n T nm) as with
        | some f, some es => if as.length = f.2 then some (.call f.1 es) else none
        | _, _ => none)
      else none
    | .Call (.Attribute o a ap) as [] p => if (ap.endLine == p.line) = true then (match cE (compE n T nm) o, cL (compE n T nm) as with
      | some x, some es => (match o with
        | .Call (.Name _ _) [] [] _ => none
        | _ => (match as with
          | [] => (mt0 a).map fun m => .mth m x es
          | [_] => (mt1 a).map fun m => .mth m x es
          | _ => none))
      | _, _ => none) else none
    | .ListComp elt [⟨tg, it, ifs, as⟩] sc p => if as = 0 then
        (match ownOf T sc.names, blkB T nm sc, cIt (compE n T nm) T nm tg it with
        | some own, true, some it => (match cTg T sc.names tg, cIf (compE n T sc.names) ifs, cE (compE n T sc.names) elt with
          | some tg, some c, some e => some (.cmpr (zOf T p) (own.map (·.2)) tg it c e)
          | _, _, _ => none)
        | _, _, _ => none)
      else none
    | _ => none

/-! statements -/
def isLC : Expr → Bool
  | .ListComp .. => true
  | _ => false
def isTup : Expr → Bool
  | .Tuple .. => true
  | _ => false
def ipOf : Operator → Option Bop
  | .Add => some .add
  | .Sub => some .sub
  | .Mult => some .mul
  | .FloorDiv => some .div
  | .Mod => some .mod
  | _ => none
/-- targets of a pair that is stored from the right: names of locals on one line, other ones -/
def parN (T : Tab) (nm : Nms) : List Expr → Option (List (Str × Nat × Nat))
  | [] => some []
  | .Name x p :: r => match decide (nm.lookup x = some .local), ixIn x T.N, parN T nm r with
    | true, some i, some l => if l.all (fun q => !decide (q.1 = x) && !decide (q.2.1 = i) && decide (q.2.2 = p.line)) then some ((x, i, p.line) :: l) else none
    | _, _, _ => none
  | _ => none
/-- is one of the names a cell -/
def cellIn (nm : Nms) (ts : List Expr) : Bool := ts.any fun
  | .Name x _ => decide (nm.lookup x = some .cell)
  | _ => false
def parOk (vs : List Expr) : Bool := !(vs.all (foldedForSure 8)) && !(vs.all (constantsAlone 8)) && !(vs.any fun | .Starred .. => true | _ => false)
def compSs (f : Stmt → Option St) : List Stmt → Option Sts
  | [] => some .nil
  | s :: r => match f s, compSs f r with
    | some a, some b => some (.cons a b)
    | _, _ => none
def compS : Nat → Tab → Nms → Stmt → Option St
  | 0, _, _, _ => none
  | n + 1, T, nm, s =>
    match s with
    | .Expr (.Constant (.str _) _ _) _ => some .pass
    | .Expr e _ => if isLC e then none else (cE (compE n T nm) e).map .ex
    | .Return none _ => some (.ret (.con .non))
    | .Return (some e) _ => (cE (compE n T nm) e).map .ret
    | .Pass _ => some .pass
    | .Break _ => some .brk
    | .Continue _ => some .cnt
    | .If c a b _ => match cE (compE n T nm) c, compSs (compS n T nm) a, compSs (compS n T nm) b with
      | some c, some a, some b => some (.iff c a b)
      | _, _, _ => none
    | .While c b [] _ => match cE (compE n T nm) c, compSs (compS n T nm) b with
      | some c, some b => some (.whil c b)
      | _, _ => none
    | .For tg it b [] _ => match cTg T nm tg, cIt (compE n T nm) T nm tg it, compSs (compS n T nm) b with
      | some tg, some it, some b => some (.forr tg it b)
      | _, _, _ => none
    | .Assign [.Name x p] e _ => match cTg T nm (.Name x p), cE (compE n T nm) e with
      | some tg, some e => some (.asg tg e)
      | _, _ => none
    | .Assign [.Tuple ts j p] e _ => match e with
      | .Tuple vs _ _ => if parOk vs ∧ vs.length = ts.length ∧ (ts.length = 2 ∨ ts.length = 3) then (match parN T nm ts, cL (compE n T nm) vs with
        | some l, some es => some (.par (l.map (·.2.1)) es)
        | _, _ => if cellIn nm ts then (match cTg T nm (.Tuple ts j p), cE (compE n T nm) e with
          | some tg, some e => some (.asg tg e)
          | _, _ => none) else none) else none
      | e => match cTg T nm (.Tuple ts j p), cE (compE n T nm) e with
        | some tg, some e => some (.asg tg e)
        | _, _ => none
    | .Assign [.Subscript o i p] e _ => match cE (compE n T nm) o, cE (compE n T nm) i, cE (compE n T nm) e with
      | some o, some i, some e => some (.set o i e)
      | _, _, _ => none
    | .AugAssign (.Name x _) op e _ => match slotS T nm x, ipOf op, cE (compE n T nm) e with
      | some i, some o, some e => some (.aug i o e)
      | _, _, _ => none
    | .Raise (some _) _ _ => some (.ex (.bi true .len .nil))
    | _ => none

theorem cE_ok {f : Expr → Option Ex} {e : Expr} {x : Ex} (h : cE f e = some x) : okE e = true ∧ f e = some x := by
  unfold cE at h
  by_cases q : okE e = true
  · rw [if_pos q] at h; exact ⟨q, h⟩
  · rw [if_neg q] at h; cases h
/-! what the text's form says -/
theorem ok_star {e : Expr} (h : okE e = true) (r : List Expr) (env : Env) : starEach (e :: r) env = (false, eval e env) :: starEach r env := by
  cases e <;> first | rfl | cases h
theorem ok_mark {e : Expr} (h : okE e = true) (op : CmpOp) : behindInMarks op e = false := by
  cases e <;> first | rfl | cases h
theorem ok_plain {e : Expr} (h : okE e = true) : PlainIx e := by
  intro o i
  cases e <;> first | rfl | cases h
theorem ok_fold {e : Expr} (h : okE e = true) (env : Env) : ∀ x, foldedSetIterable e env x = pure x := by
  intro x
  cases e <;> first | rfl | cases h
/-- is its truth its value's? -/
def tvE : Expr → Bool
  | .UnaryOp .Not _ _ => false
  | .BoolOp .. => false
  | .IfExp .. => false
  | .Compare .. => false
  | _ => true
theorem tv_true {e : Expr} (h : tvE e = true) (env : Env) (whole : Sem Value) : isTrue e env whole = (do let v ← whole; standAt e.pos; holding [v] (truthy v)) := by
  cases e with
  | UnaryOp op a p => cases op <;> first | rfl | cases h
  | _ => first | rfl | cases h
end Rf

namespace Rf
open PySem PySem.Spec PyProof.Rows L2

/-! ### what is wanted behind a part -/
section
variable (K : PySem.W.Frag) (fa : Nat → Addr)
def PoE (ρ : Wd) (H : Hp) (v : Val) (M' : Mem) (x : V) (H' : Hp) : Prop := ∃ ρ', Go ρ H ρ' H' ∧ HR K fa ρ' M' H' ∧ RV K fa ρ' H' v x
def PoA (ρ : Wd) (H : Hp) (v : List Val) (M' : Mem) (x : List V) (H' : Hp) : Prop := ∃ ρ', Go ρ H ρ' H' ∧ HR K fa ρ' M' H' ∧ RVs K fa ρ' H' v x
def PoT (ρ : Wd) (H : Hp) (v : Bool) (M' : Mem) (x : Bool) (H' : Hp) : Prop := ∃ ρ', Go ρ H ρ' H' ∧ HR K fa ρ' M' H' ∧ v = x
end
structure Rm (k : Nat) (A : Around) : Prop where
  r : Room k A
  g : A.guards = some []

/-- a def, called: what it comes to -/
def FnG (P : Program) (w : World) (K : PySem.W.Frag) (mg : Str → Option Value) (base : Heap) (fa : Nat → Addr) (k f np : Nat) (g : List Val → Mem → R Val) : Prop :=
  ∀ (A : Around) (outer : List Env) (s : Shared) (H : Hp) (us : List Value) (vs : List V) (as : List Val) (ρ : Wd) (M : Mem) (v : Val) (M' : Mem),
    Rm k A → Env0 P w K mg base A outer s H → Vals vs us → RVs K fa ρ H as vs → HR K fa ρ M H → as.length = np → g as M = .ok v M' →
    codeAny (model P w) A (.call (.ref (fa f)) ⟨us, []⟩) (fun r s' => match r with
      | .ok (.ret u) => CE outer P w H s (PoE K fa ρ H v M') u s'
      | _ => False) s

/-- where one stands -/
structure Cok (fa : Nat → Addr) (X : Cx) (T : Tab) (nm : Nms) (k : Nat) (C : Cal) : Prop where
  calm : X.calm = true
  nd : X.N.Nodup
  N : X.N = T.N
  rm : Rm k X.A
  k1 : 0 ≤ k
  na : ∀ x kd, nm.lookup x = some kd → kd ≠ .free → X.env.scope.names.lookup x = some kd
  nf : ∀ x, nm.lookup x = some .free → X.env.scope.names.lookup x = some .free ∨ X.env.scope.names.lookup x = some .cell
  fn : ∀ x f np, T.fid.lookup x = some (f, np) → X.mg x = some (.ref (fa f)) ∧ PySem.W.keepIn X.K (.ref (fa f)) = true ∧ FnG X.prog X.w X.K X.mg X.base fa k f np (C.call f)
  gl : ∀ x g d, T.gid.lookup x = some g → C.glo g = some d → ∃ v u, X.mg x = some u ∧ RelV v u ∧ ∀ ρ H, RD X.K fa ρ H d v
  fr : ∀ x ∈ T.free, X.mg x = none
  fc : ∀ x, nm.lookup x = some .cell → X.fn x = true

def SndE (fa : Nat → Addr) (X : Cx) (pe : Expr) (ev : Slots → Mem → R Val) : Prop :=
  ∀ s σ ρ M H v M', SR X.K fa ρ H s σ → HR X.K fa ρ M H → ev s M = .ok v M' → seE X pe σ H (PoE X.K fa ρ H v M')
def SndA (fa : Nat → Addr) (X : Cx) (pe : List Expr) (ev : Slots → Mem → R (List Val)) : Prop :=
  ∀ s σ ρ M H v M', SR X.K fa ρ H s σ → HR X.K fa ρ M H → ev s M = .ok v M' → seA X pe σ H (PoA X.K fa ρ H v M')
/-- as a test: the truth of what it comes to -/
def SndT (fa : Nat → Addr) (X : Cx) (pe : Expr) (ev : Slots → Mem → R Val) : Prop :=
  ∀ s σ ρ M H v M' b, SR X.K fa ρ H s σ → HR X.K fa ρ M H → ev s M = .ok v M' → truth M' v = some b → seT X pe σ H (PoT X.K fa ρ H b M')

section
variable {fa : Nat → Addr} {X : Cx} {T : Tab} {nm : Nms} {k : Nat} {C : Cal}
theorem seE.kfo {e : Expr} {σ : L2.St} {H : Hp} {Q : VK} (h : seE X e σ H (fun v H' => KF X.K H' → Q v H')) : seE X e σ H Q := h.thn fun _ _ kf q => q kf
theorem R.bind_ok {α β : Type} {x : R α} {f : α → Mem → R β} {b : β} {m : Mem} (h : x.bind f = .ok b m) : ∃ a m1, x = .ok a m1 ∧ f a m1 = .ok b m := by
  cases x with
  | ok a m1 => exact ⟨a, m1, rfl, h⟩
  | ex _ _ => cases h
  | no => cases h
theorem R.opt_ok {α : Type} {x : Option α} {m m' : Mem} {a : α} (h : R.opt x m = .ok a m') : x = some a ∧ m = m' := by
  cases x with
  | none => cases h
  | some b => cases h; exact ⟨rfl, rfl⟩

variable {K : PySem.W.Frag} {ρ ρ1 : Wd} {H H1 H2 : Hp} {M M' : Mem}
theorem PoE.here (h : HR K fa ρ M H) {v : Val} {x : V} (r : RV K fa ρ H v x) : PoE K fa ρ H v M x H := ⟨ρ, Go.refl, h, r⟩
theorem PoE.back (g : Go ρ H ρ1 H1) {v : Val} {x : V} (h : PoE K fa ρ1 H1 v M x H2) : PoE K fa ρ H v M x H2 := let ⟨ρ2, a, b, c⟩ := h; ⟨ρ2, g.trans a, b, c⟩
theorem PoT.back (g : Go ρ H ρ1 H1) {v x : Bool} (h : PoT K fa ρ1 H1 v M x H2) : PoT K fa ρ H v M x H2 := let ⟨ρ2, a, b, c⟩ := h; ⟨ρ2, g.trans a, b, c⟩

/-! ### names, constants -/
theorem slot_vis (c : Cok fa X T nm k C) {x : Str} {i : Nat} (h : slot T nm x = some i) : X.N[i]? = some x ∧ Vis X.env.scope x ∧ (x == ("__debug__" : Str)) = false ∧ (x == ("__classdict__" : Str)) = false := by
  have go : ∀ {N : List Str} {i : Nat}, ixIn x N = some i → N[i]? = some x := by
    intro N
    induction N with
    | nil => intro i h; cases h
    | cons y r ih =>
      intro i h
      unfold ixIn at h
      by_cases e : x = y
      · rw [if_pos e] at h
        cases h
        rw [e]; rfl
      · rw [if_neg e] at h
        cases q : ixIn x r with
        | none => rw [q] at h; cases h
        | some j =>
          rw [q] at h
          cases h
          exact ih q
  have fin : ∀ kd, nm.lookup x = some kd → (if x = "__debug__" ∨ x = "__classdict__" then none else ixIn x T.N) = some i → X.N[i]? = some x ∧ (x == ("__debug__" : Str)) = false ∧ (x == ("__classdict__" : Str)) = false := by
    intro kd _ h
    by_cases e : x = "__debug__" ∨ x = "__classdict__"
    · rw [if_pos e] at h; cases h
    · rw [if_neg e] at h
      rw [c.N]
      exact ⟨go h, beq_eq_false_iff_ne.mpr fun z => e (.inl z), beq_eq_false_iff_ne.mpr fun z => e (.inr z)⟩
  unfold slot at h
  split at h
  · rename_i e
    obtain ⟨a, b, d⟩ := fin _ e h
    exact ⟨a, .inl (c.na _ _ e (by decide)), b, d⟩
  · rename_i e
    obtain ⟨a, b, d⟩ := fin _ e h
    exact ⟨a, .inr (.inl (c.na _ _ e (by decide))), b, d⟩
  · rename_i e
    obtain ⟨a, b, d⟩ := fin _ e h
    refine ⟨a, ?_, b, d⟩
    rcases c.nf _ e with z | z
    · exact .inr (.inr z)
    · exact .inr (.inl z)
  · cases h
theorem snd_var {x : Str} {p : Pos} {i : Nat} (c : Cok fa X T nm k C) (h : slot T nm x = some i) : SndE fa X (.Name x p) (evE C (.var i)) := by
  intro s σ ρ M H v M' hs hm e
  obtain ⟨h1, h2, h3, h4⟩ := slot_vis c h
  have e' : (match s[i]? with
    | some (some v) => R.ok v M
    | _ => R.no) = R.ok v M' := e
  split at e'
  · rename_i w q
    cases e'
    obtain ⟨y, q1, q2⟩ := hs.at_ i _ q
    exact ofE (pe_var h1 h2 h3 h4) ⟨y, q1, .here hm q2⟩
  · cases e'
theorem snd_int {i : Int} {j p} : SndE fa X (.Constant (.int i) j p) (evE C (.con (.int i))) := fun s σ ρ M H v M' hs hm e => by
  cases e; exact ofE pe_int (PoE.here hm .int)
theorem snd_bl {i : Bool} {j p} : SndE fa X (.Constant (.bool i) j p) (evE C (.con (.bl i))) := fun s σ ρ M H v M' hs hm e => by
  cases e; exact ofE pe_bl (PoE.here hm .bl)
theorem snd_non {j p} : SndE fa X (.Constant .none j p) (evE C (.con .non)) := fun s σ ρ M H v M' hs hm e => by
  cases e; exact ofE pe_non (PoE.here hm .non)
theorem s0_of (x : Str) : S0 x.cps.toList = x := by
  cases x with
  | mk a => simp [S0]
theorem snd_str {x : Str} {j p} (h : x.cps.size ≤ LINE) (h2 : (x.cps.toList.all fun c => decide (c < 0x110000)) = true) : SndE fa X (.Constant (.str x) j p) (evE C (.con (.str x.cps.toList))) := fun s σ ρ M H v M' hs hm e => by
  cases e
  refine ofE pe_str (PoE.here hm ?_)
  have r : RD X.K fa ρ H (.str x.cps.toList) (.str (S0 x.cps.toList)) := .str (by simpa using h) (fun c hc => of_decide_eq_true (List.all_eq_true.mp h2 c hc))
  rw [s0_of] at r
  exact r
theorem gl_of (c : Cok fa X T nm k C) {x : Str} (h : isGl T nm x = true) : Gl X x ∧ (x == ("__debug__" : Str)) = false := by
  unfold isGl at h
  simp only [Bool.and_eq_true, decide_eq_true_eq, Bool.not_eq_true', decide_eq_false_iff_not] at h
  exact ⟨c.na _ _ h.1 (by decide), beq_eq_false_iff_ne.mpr h.2⟩
theorem fr_of (c : Cok fa X T nm k C) {x : Str} (h : isFr T nm x = true) : Gl X x ∧ (x == ("__debug__" : Str)) = false ∧ X.mg x = none ∧ x ≠ "__name__" := by
  unfold isFr at h
  simp only [Bool.and_eq_true, decide_eq_true_eq, Bool.not_eq_true', decide_eq_false_iff_not] at h
  obtain ⟨a, b⟩ := gl_of c h.1.1
  exact ⟨a, b, c.fr _ h.1.2, h.2⟩
theorem snd_glo {x : Str} {p : Pos} {g : Nat} (c : Cok fa X T nm k C) (h : isGl T nm x = true) (hg : T.gid.lookup x = some g) : SndE fa X (.Name x p) (evE C (.glo g)) := by
  intro s σ ρ M H v M' hs hm e
  obtain ⟨d, m1, e1, e2⟩ := R.bind_ok e
  obtain ⟨e3, rfl⟩ := R.opt_ok e1
  cases e2
  obtain ⟨y, u, q1, q2, q3⟩ := c.gl x g d hg e3
  obtain ⟨g1, g2⟩ := gl_of c h
  exact ofE (pe_glob g1 q1 q2 g2) (PoE.here hm (q3 ρ H))

/-! ### lists of expressions -/
theorem snd_nil : SndA fa X [] (evEs C .nil) := fun s σ ρ M H v M' hs hm e => by
  cases e; exact ofA pa_nil ⟨ρ, .refl, hm, .nil⟩
theorem snd_cons {e : Expr} {es : List Expr} {x : Ex} {xs : Exs} (hk : okE e = true) (h1 : SndE fa X e (evE C x)) (h2 : SndA fa X es (evEs C xs)) : SndA fa X (e :: es) (evEs C (.cons x xs)) := by
  intro s σ ρ M H v M' hs hm q
  obtain ⟨a, m1, q1, q⟩ := R.bind_ok q
  obtain ⟨b, m2, q2, q⟩ := R.bind_ok q
  cases q
  refine ofA (pa_cons (pE e) (pA es) (ok_star hk es X.env)) ?_
  refine (h1 s σ ρ M H a m1 hs hm q1).thn fun y H1 kf ⟨ρ1, g1, hm1, r1⟩ => ?_
  refine (h2 s σ ρ1 m1 H1 b _ (hs.go g1) hm1 q2).thn fun ys H2 kf2 ⟨ρ2, g2, hm2, r2⟩ => ?_
  exact ⟨ρ2, g1.trans g2, hm2, .cons (r1.go g2) r2⟩
theorem snd_cL {f : Expr → Option Ex} : ∀ {es : List Expr} {xs : Exs}, (∀ e x, f e = some x → okE e = true → SndE fa X e (evE C x)) → cL f es = some xs → SndA fa X es (evEs C xs)
  | [], _, _, h => by cases h; exact snd_nil
  | e :: r, _, ih, h => by
    unfold cL at h
    split at h
    · rename_i a b q1 q2
      cases h
      obtain ⟨k1, k2⟩ := cE_ok q1
      exact snd_cons k1 (ih e a k2 k1) (snd_cL ih q2)
    · cases h
theorem cL_ok {f : Expr → Option Ex} : ∀ {es : List Expr} {xs : Exs}, cL f es = some xs → ∀ e ∈ es, okE e = true
  | [], _, _, _, h => by cases h
  | e :: r, _, h, x, hx => by
    unfold cL at h
    split at h
    · rename_i a b q1 q2
      rcases List.mem_cons.mp hx with rfl | hx
      · exact (cE_ok q1).1
      · exact cL_ok q2 x hx
    · cases h
theorem any_ok {pos : Pos} {env : Env} : ∀ {es : List Expr}, (∀ e ∈ es, okE e = true) → (backTo pos (starEach es env)).any (·.1) = false
  | [], _ => rfl
  | e :: r, h => by
    rw [ok_star (h e List.mem_cons_self) r env]
    exact any_ok fun x hx => h x (List.mem_cons_of_mem _ hx)
theorem len_cL {f : Expr → Option Ex} : ∀ {es : List Expr} {xs : Exs} {s : Slots} {m m' : Mem} {vs : List Val}, cL f es = some xs → evEs C xs s m = .ok vs m' → vs.length = es.length
  | [], _, _, _, _, _, h, q => by cases h; cases q; rfl
  | e :: r, _, _, _, _, _, h, q => by
    unfold cL at h
    split at h
    · cases h
      obtain ⟨a, m1, q1, q⟩ := R.bind_ok q
      obtain ⟨b, m2, q2, q⟩ := R.bind_ok q
      cases q
      rw [List.length_cons, List.length_cons, len_cL (by assumption) q2]
    · cases h
theorem thou {n : Nat} (h : n ≤ 1000) : n ≤ sizeLine := Nat.le_trans h (by rw [sizeLine_eq]; decide)

/-- a new list, in either way -/
theorem mk_list {z : Bool} {vs : List Val} {xs : List V} {v : Val} {m' : Mem} {p : Addr} (hm : HR K fa ρ M H) (r : RVs K fa ρ H vs xs) (e : mkL z vs M = .ok v m') (hn : H p = none) (kf : KF K (upd H p (.lst xs))) :
    PoE K fa ρ H v m' (.ref p) (upd H p (.lst xs)) := by
  cases z with
  | true =>
    have e' : (match datas vs with
      | some ds => R.ok (Val.d (.lst ds)) M
      | none => .no) = .ok v m' := e
    split at e'
    · rename_i ds q
      cases e'
      refine ⟨ρ, go_new hn, hm.new hn, ?_⟩
      exact .lst upd_same (hm.out hn) ((RVs.ds r q).go (go_new hn))
    · cases e'
  | false =>
    cases e
    refine ⟨⟨ρ.l ++ [p], ρ.z⟩, go_place hn, hm.place hn r, p, ?_, rfl⟩
    show (ρ.l ++ [p])[M.length]? = some p
    rw [List.getElem?_append_right (by rw [hm.len]; exact Nat.le_refl _), hm.len, Nat.sub_self]
    rfl
/-- a new tuple of data -/
theorem mk_tup {ds : List D} {xs : List V} {p : Addr} (hm : HR K fa ρ M H) (r : RDs K fa ρ H ds xs) (hn : H p = none) (kf : KF K (upd H p (.tup xs))) :
    PoE K fa ρ H (.d (.tup ds)) M (.ref p) (upd H p (.tup xs)) :=
  ⟨ρ, go_new hn, hm.new hn, .tup (.inl (.inl upd_same)) (.inl ⟨.inl upd_same, hm.out hn⟩) (r.go (go_new hn))⟩
theorem snd_tup {es : List Expr} {j p} {f : Expr → Option Ex} {xs : Exs} (hl : es.length ≤ 1000) (hc : cL f es = some xs) (h : SndA fa X es (evEs C xs)) : SndE fa X (.Tuple es j p) (evE C (.tup xs)) := by
  intro s σ ρ M H v M' hs hm q
  obtain ⟨a, m1, q1, q⟩ := R.bind_ok q
  have e' : (match datas a with
    | some ds => R.ok (Val.d (.tup ds)) m1
    | none => .no) = .ok v M' := q
  split at e'
  · rename_i ds qd
    cases e'
    refine seE.kfo (ofE (pe_tup (pA es)) ((h s σ ρ M H a _ hs hm q1).thn fun ys H1 kf ⟨ρ1, g1, hm1, r1⟩ => ⟨?_, fun p hn kf => (mk_tup hm1 (RVs.ds r1 qd) hn kf).back g1⟩))
    rw [← r1.length, len_cL hc q1]
    exact thou hl
  · cases e'
theorem snd_lst {es : List Expr} {p} {f : Expr → Option Ex} {xs : Exs} {z : Bool} (hl : es.length ≤ 1000) (hc : cL f es = some xs) (h : SndA fa X es (evEs C xs)) : SndE fa X (.List es p) (evE C (.lst z xs)) := by
  intro s σ ρ M H v M' hs hm q
  obtain ⟨a, m1, q1, q⟩ := R.bind_ok q
  refine seE.kfo (ofE (pe_lst (pA es)) ((h s σ ρ M H a _ hs hm q1).thn fun ys H1 kf ⟨ρ1, g1, hm1, r1⟩ => ⟨?_, fun p hn kf => (mk_list hm1 r1 q hn kf).back g1⟩))
  rw [← r1.length, len_cL hc q1]
  exact thou hl
end
end Rf

namespace Rf
open PySem PySem.Spec PyProof.Rows L2
section
variable {fa : Nat → Addr} {X : Cx} {T : Tab} {nm : Nms} {k : Nat} {C : Cal}
variable {ρ ρ1 : Wd} {H H1 H2 : Hp} {M M' : Mem}
theorem s0_len (x : List Nat) : (S0 x).length = x.length := by simp [S0, Str.length]
theorem s0_app (x y : List Nat) : S0 x ++ S0 y = S0 (x ++ y) := by
  show (⟨x.toArray ++ y.toArray⟩ : Str) = ⟨(x ++ y).toArray⟩
  simp
theorem s0_inj {x y : List Nat} (h : S0 x = S0 y) : x = y := by
  have := congrArg (fun z : Str => z.cps.toList) h
  simpa [S0] using this
theorem s0_list (x : List Nat) : (S0 x).cps.toList = x := by simp [S0]

/-- two values and what an operator makes of them -/
def Op2 (fa : Nat → Addr) (X : Cx) (f : Value → Value → Sem Value) (a b : Val) (M : Mem) (v : Val) (M' : Mem) : Prop :=
  ∃ r, OpR X f r ∧ ∀ ρ H x y (Q : VK), HR X.K fa ρ M H → RV X.K fa ρ H a x → RV X.K fa ρ H b y → (∀ z H', PoE X.K fa ρ H v M' z H' → Q z H') → r x y H (fun z H' => KF X.K H' → Q z H')

theorem binI_ok {op : Operator} {o : Bop} {i j : Int} {d : D} (ho : bopOf op = some o) (h : binI o i j = some d) : Op2 fa X (binaryOp op) (.d (.int i)) (.d (.int j)) M (.d d) M := by
  have fin : ∀ {n : Int} {ρ H} {Q : VK}, HR X.K fa ρ M H → (∀ z H', PoE X.K fa ρ H (.d (.int n)) M z H' → Q z H') → KF X.K H → Q (.int n) H := fun hm q _ => q _ _ (PoE.here hm .int)
  cases op <;> simp only [bopOf, Option.some.injEq, reduceCtorEq] at ho <;> subst ho
  · cases h
    exact ⟨_, op_add, fun ρ H x y Q hm rx ry q => by cases rx; cases ry; exact ⟨i, j, rfl, rfl, fin hm q⟩⟩
  · cases h
    exact ⟨_, op_sub, fun ρ H x y Q hm rx ry q => by cases rx; cases ry; exact ⟨i, j, rfl, rfl, fin hm q⟩⟩
  · simp only [binI] at h
    split at h
    · rename_i c
      cases h
      exact ⟨_, op_mul, fun ρ H x y Q hm rx ry q => by cases rx; cases ry; exact ⟨i, j, rfl, rfl, c, fin hm q⟩⟩
    · cases h
  · simp only [binI] at h
    split at h
    · rename_i c
      cases h
      exact ⟨_, op_mod, fun ρ H x y Q hm rx ry q => by cases rx; cases ry; exact ⟨i, j, rfl, rfl, c, fin hm q⟩⟩
    · cases h
  · simp only [binI] at h
    split at h
    · rename_i c
      cases h
      exact ⟨_, op_pow, fun ρ H x y Q hm rx ry q => by cases rx; cases ry; exact ⟨i, j, rfl, rfl, c, fin hm q⟩⟩
    · cases h
  · simp only [binI] at h
    split at h
    · rename_i c
      cases h
      exact ⟨_, op_fdivW, fun ρ H x y Q hm rx ry q => by cases rx; cases ry; exact ⟨i, j, rfl, rfl, wide_div (b := 64) c.1 (by omega) (by decide) (by decide), fin hm q⟩⟩
    · cases h
theorem add_str {x y : List Nat} (h : x.length + y.length ≤ LINE) : Op2 fa X (binaryOp .Add) (.d (.str x)) (.d (.str y)) M (.d (.str (x ++ y))) M :=
  ⟨_, op_add_str, fun ρ H a b Q hm rx ry q => by
    cases rx with
    | str _ cx =>
      cases ry with
      | str _ cy =>
        refine ⟨_, _, rfl, rfl, ?_, fun _ => ?_⟩
        · rw [s0_len, s0_len]; rw [line_eq] at h; exact h
        · rw [s0_app]
          exact q _ _ (PoE.here hm (.str (by rw [List.length_append]; exact h) fun c hc => (List.mem_append.mp hc).elim (cx c) (cy c)))⟩
theorem add_tup {x y : List D} (h : x.length + y.length ≤ LINE) : Op2 fa X (binaryOp .Add) (.d (.tup x)) (.d (.tup y)) M (.d (.tup (x ++ y))) M :=
  ⟨_, op_catA, fun ρ H a b Q hm rx ry q => by
    cases rx with
    | tup hx nx rx =>
      cases ry with
      | tup hy ny ry =>
        refine ⟨_, _, _, _, rfl, rfl, hx, hy, ?_, fun e _ => ?_, fun _ e _ => ?_, fun _ _ p hn kf => ?_⟩
        · rw [← rx.length, ← ry.length]; rw [line_eq] at h; exact h
        · subst e
          cases rx
          exact q _ _ (PoE.here hm (.tup hy ny ry))
        · subst e
          cases ry
          rw [List.append_nil] at q
          exact q _ _ (PoE.here hm (.tup hx nx rx))
        · exact q _ _ (mk_tup hm (rx.append ry) hn kf)⟩
theorem add_lst {z : Bool} {a b : Val} {x y : List Val} {v : Val} {M' : Mem} (ha : lstOf M a = some x) (hb : lstOf M b = some y) (h : x.length + y.length ≤ LINE) (e : mkL z (x ++ y) M = .ok v M') : Op2 fa X (binaryOp .Add) a b M v M' :=
  ⟨_, op_cat, fun ρ H s t Q hm rx ry q => by
    obtain ⟨p1, vs1, rfl, h1, r1⟩ := hm.lstOf ha rx
    obtain ⟨p2, vs2, rfl, h2, r2⟩ := hm.lstOf hb ry
    refine ⟨p1, p2, vs1, vs2, rfl, rfl, h1, h2, ?_, fun p hn kf => q _ _ (mk_list hm (r1.append r2) e hn kf)⟩
    rw [← r1.length, ← r2.length]; rw [line_eq] at h; exact h⟩
theorem mul_lst {z : Bool} {a : Val} {x : List Val} {n : Int} {v : Val} {M' : Mem} (ha : lstOf M a = some x) (h : n < 2 ^ 62 ∧ -(2 ^ 62) < n ∧ x.length * n.toNat ≤ LINE) (e : mkL z (rep x n.toNat) M = .ok v M') : Op2 fa X (binaryOp .Mult) a (.d (.int n)) M v M' :=
  ⟨_, op_rep, fun ρ H s t Q hm rx ry q => by
    obtain ⟨p1, vs1, rfl, h1, r1⟩ := hm.lstOf ha rx
    cases ry
    refine ⟨p1, n, vs1, rfl, rfl, h1, by omega, by omega, ?_, fun p hn kf => q _ _ (mk_list hm (r1.rep _) e hn kf)⟩
    rw [← r1.length]; rw [line_eq] at h; exact h.2.2⟩
theorem rep_flat {α : Type} (xs : List α) : ∀ n : Nat, rep xs n = (List.replicate n xs).flatten
  | 0 => rfl
  | n + 1 => by
    show xs ++ rep xs n = _
    rw [rep_flat xs n, List.replicate_succ, List.flatten_cons]
theorem rep_mem {α : Type} {xs : List α} {x : α} : ∀ {n : Nat}, x ∈ rep xs n → x ∈ xs
  | 0, h => by cases h
  | n + 1, h => (List.mem_append.mp (show x ∈ xs ++ rep xs n from h)).elim id rep_mem
theorem rep_len {α : Type} (xs : List α) : ∀ n : Nat, (rep xs n).length = xs.length * n
  | 0 => rfl
  | n + 1 => by
    show (xs ++ rep xs n).length = _
    rw [List.length_append, rep_len xs n, Nat.mul_succ, Nat.add_comm]
theorem rds_rep {ρ : Wd} {H : Hp} {a : List D} {vs : List V} (h : RDs X.K fa ρ H a vs) : ∀ n : Nat, RDs X.K fa ρ H (rep a n) (List.replicate n vs).flatten
  | 0 => .nil
  | n + 1 => by
    show RDs X.K fa ρ H (a ++ rep a n) (List.replicate (n + 1) vs).flatten
    rw [List.replicate_succ, List.flatten_cons]
    exact h.append (rds_rep h n)
theorem mul_str {x : List Nat} {n : Int} (h : -(2 ^ 62) < n ∧ n < 2 ^ 62 ∧ x.length * n.toNat ≤ LINE) : Op2 fa X (binaryOp .Mult) (.d (.str x)) (.d (.int n)) M (.d (.str (rep x n.toNat))) M :=
  ⟨_, op_mulS, fun ρ H s t Q hm rx ry q => by
    cases rx with
    | str hl cp =>
      cases ry
      refine ⟨_, n, rfl, rfl, h.1, h.2.1, by rw [s0_len, ← line_eq]; exact h.2.2, fun _ => ?_⟩
      have e : (⟨(List.replicate n.toNat (S0 x).cps.toList).flatten.toArray⟩ : Str) = S0 (rep x n.toNat) := by
        rw [s0_list, rep_flat]
      rw [e]
      exact q _ _ (PoE.here hm (.str (by rw [rep_len]; exact h.2.2) fun c hc => cp c (rep_mem hc)))⟩
theorem mul_tup {x : List D} {n : Int} (h : -(2 ^ 62) < n ∧ n ≤ 1000 ∧ x.length ≤ 1000) : Op2 fa X (binaryOp .Mult) (.d (.tup x)) (.d (.int n)) M (.d (.tup (rep x n.toNat))) M :=
  ⟨_, op_mulT, fun ρ H s t Q hm rx ry q => by
    cases rx with
    | tup hx nx rs =>
      cases ry
      refine ⟨_, n, _, rfl, rfl, hx, h.1, h.2.1, by rw [← rs.length]; exact h.2.2, fun hc _ => ?_, fun h1 h2 p hn kf => q _ _ (mk_tup hm (rds_rep rs _) hn kf)⟩
      have e : rep x n.toNat = x := by
        rcases hc with e | e
        · have e1 := rs.length
          rw [e] at e1
          have e2 : x = [] := List.eq_nil_of_length_eq_zero e1
          rw [e2]
          generalize n.toNat = m
          induction m with
          | zero => rfl
          | succ m ih => exact ih
        · subst e
          show x ++ [] = x
          simp
      rw [e] at q
      exact q _ _ (PoE.here hm (.tup hx nx rs))⟩
theorem binV_ok {z : Bool} {op : Operator} {o : Bop} {a b v : Val} {M' : Mem} (ho : bopOf op = some o) (h : binV z o a b M = .ok v M') : Op2 fa X (binaryOp op) a b M v M' := by
  unfold binV at h
  split at h
  · obtain ⟨d, m, h1, h2⟩ := R.bind_ok h
    obtain ⟨h3, rfl⟩ := R.opt_ok h1
    cases h2
    exact binI_ok ho h3
  · split at h
    · split at h
      · rename_i c
        cases h
        cases op <;> simp [bopOf] at ho
        exact add_str c
      · cases h
    · cases h
  · split at h
    · split at h
      · rename_i c
        cases h
        cases op <;> simp [bopOf] at ho
        exact add_tup c
      · cases h
    · cases h
  · split at h
    · split at h
      · rename_i c
        cases h
        cases op <;> simp [bopOf] at ho
        exact mul_str c
      · cases h
    · cases h
  · split at h
    · split at h
      · rename_i c
        cases h
        cases op <;> simp [bopOf] at ho
        exact mul_tup c
      · cases h
    · cases h
  · split at h
    · rename_i x qx
      split at h
      · split at h
        · rename_i c
          cases op <;> simp [bopOf] at ho
          exact mul_lst qx c h
        · cases h
      · split at h
        · rename_i y qy
          split at h
          · rename_i c
            cases op <;> simp [bopOf] at ho
            exact add_lst qx qy c h
          · cases h
        · cases h
      · cases h
    · cases h
theorem snd_bin {a b : Expr} {op : Operator} {p : Pos} {z : Bool} {o : Bop} {x y : Ex} (ho : bopOf op = some o) (ha : SndE fa X a (evE C x)) (hb : SndE fa X b (evE C y)) : SndE fa X (.BinOp a op b p) (evE C (.bin z o x y)) := by
  intro s σ ρ M H v M' hs hm q
  obtain ⟨u, m1, q1, q⟩ := R.bind_ok q
  obtain ⟨w, m2, q2, q⟩ := R.bind_ok q
  obtain ⟨r, hr, fin⟩ := binV_ok (fa := fa) (X := X) ho q
  refine seE.kfo (ofE (pe_op hr (pE a) (pE b)) ?_)
  refine (ha s σ ρ M H u m1 hs hm q1).thn fun y H1 kf ⟨ρ1, g1, hm1, r1⟩ => ?_
  refine (hb s σ ρ1 m1 H1 w m2 (hs.go g1) hm1 q2).thn fun y H2 kf ⟨ρ2, g2, hm2, r2⟩ => ?_
  exact fin ρ2 H2 _ _ _ hm2 (r1.go g2) r2 fun z H' po => po.back (g1.trans g2)
theorem snd_neg {a : Expr} {p : Pos} {x : Ex} (ha : SndE fa X a (evE C x)) : SndE fa X (.UnaryOp .USub a p) (evE C (.neg x)) := by
  intro s σ ρ M H v M' hs hm q
  obtain ⟨u, m1, q1, q⟩ := R.bind_ok q
  split at q
  · cases q
    refine ofE (pe_un un_neg (pE a)) ((ha s σ ρ M H _ _ hs hm q1).thn fun y H1 kf ⟨ρ1, g1, hm1, r1⟩ => ?_)
    cases r1
    exact ⟨_, rfl, ρ1, g1, hm1, .int⟩
  · cases q

/-! ### comparisons -/
mutual
def D.py : D → PyData
  | .non => .none
  | .bl b => .bool b
  | .int i => .int i
  | .str s => .str (S0 s)
  | .tup xs => .tuple (D.pys xs)
  | .lst xs => .list (D.pys xs)
  | _ => .none
def D.pys : List D → List PyData
  | [] => []
  | x :: xs => D.py x :: D.pys xs
end
mutual
theorem dp_of {d : D} {v : V} (h : D.pl d = true) (r : RD X.K fa ρ H d v) : Dp X.K H v (D.py d) := by
  cases r with
  | non => exact .non
  | bl => exact .bl _
  | int => exact .int _
  | str _ _ => exact .str _
  | tup hx _ rs => exact .tup hx (dps_of (by simpa [D.pl] using h) rs)
  | lst hx _ rs => exact .lst (.inl (.inl hx)) (dps_of (by simpa [D.pl] using h) rs)
  | scr _ _ => simp [D.pl] at h
  | fn => simp [D.pl] at h
  | dct _ _ _ => simp [D.pl] at h
theorem dps_of {ds : List D} {vs : List V} (h : D.pls ds = true) (r : RDs X.K fa ρ H ds vs) : DpAll X.K H vs (D.pys ds) := by
  cases r with
  | nil => exact .nil
  | cons a b =>
    simp only [D.pls, Bool.and_eq_true] at h
    exact .cons (dp_of h.1 a) (dps_of h.2 b)
end
theorem s0_beq (x y : List Nat) : (S0 x == S0 y) = (x == y) := by
  rw [Bool.eq_iff_iff, beq_iff_eq, beq_iff_eq]
  exact ⟨s0_inj, fun e => by rw [e]⟩
mutual
theorem eqv_of : ∀ (a b : D), D.pl a = true → D.pl b = true → PyData.eqv (D.py a) (D.py b) = D.eq a b
  | a, b, ha, hb => by
    cases a <;> cases b <;> first
      | (simp [D.pl] at ha; done)
      | (simp [D.pl] at hb; done)
      | (simp [D.py, PyData.eqv, D.eq]; done)
      | (simp only [D.py, PyData.eqv, D.eq]; exact s0_beq _ _)
      | (simp only [D.py, PyData.eqv, D.eq]; exact eqvs_of _ _ (by simpa [D.pl] using ha) (by simpa [D.pl] using hb))
theorem eqvs_of : ∀ (a b : List D), D.pls a = true → D.pls b = true → PyData.eqvAll (D.pys a) (D.pys b) = D.eqs a b
  | [], [], _, _ => by simp [D.pys, PyData.eqvAll, D.eqs]
  | [], _ :: _, _, _ => by simp [D.pys, PyData.eqvAll, D.eqs]
  | _ :: _, [], _, _ => by simp [D.pys, PyData.eqvAll, D.eqs]
  | x :: xs, y :: ys, ha, hb => by
    simp only [D.pls, Bool.and_eq_true] at ha hb
    simp only [D.pys, PyData.eqvAll, D.eqs]
    rw [eqv_of x y ha.1 hb.1, eqvs_of xs ys ha.2 hb.2]
end
mutual
theorem lay_of : ∀ {d : D} {v : V}, RD X.K fa ρ H d v → D.pl d = true → (D.py d).canLay0 = true
  | _, _, .non, _ => rfl
  | _, _, .bl, _ => rfl
  | _, _, .int, _ => rfl
  | .str s, _, .str _ c, _ => by
    simp only [D.py, PyData.canLay0, PyData.strOk]
    rw [Array.all_eq_true']
    intro x hx
    exact decide_eq_true (c x (by simpa [S0] using hx))
  | .tup xs, _, .tup _ _ r, h => by
    simp only [D.py, PyData.canLay0]
    exact lays_of r (by simpa [D.pl] using h)
  | .lst xs, _, .lst _ _ r, h => by
    simp only [D.py, PyData.canLay0]
    exact lays_of r (by simpa [D.pl] using h)
  | _, _, .scr _ _, h => by simp [D.pl] at h
  | _, _, .fn, h => by simp [D.pl] at h
  | _, _, .dct _ _ _, h => by simp [D.pl] at h
theorem lays_of : ∀ {ds : List D} {vs : List V}, RDs X.K fa ρ H ds vs → D.pls ds = true → PyData.canLayAll0 (D.pys ds) = true
  | _, _, .nil, _ => rfl
  | _, _, .cons a b, h => by
    simp only [D.pls, Bool.and_eq_true] at h
    simp only [D.pys, PyData.canLayAll0, Bool.and_eq_true]
    exact ⟨lay_of a h.1, lays_of b h.2⟩
end
mutual
theorem dep_of : ∀ d : D, (D.py d).depth = D.dep d
  | .tup xs => by
    show PyData.depthAll (D.pys xs) + 1 = D.deps xs + 1
    rw [deps_of xs]
  | .lst xs => by
    show PyData.depthAll (D.pys xs) + 1 = D.deps xs + 1
    rw [deps_of xs]
  | .non => rfl
  | .bl _ => rfl
  | .int _ => rfl
  | .str _ => rfl
  | .dct _ => rfl
  | .set _ => rfl
  | .scr _ => rfl
  | .fn _ => rfl
  | .obj _ _ => rfl
theorem deps_of : ∀ ds : List D, PyData.depthAll (D.pys ds) = D.deps ds
  | [] => rfl
  | x :: xs => by
    show max (D.py x).depth (PyData.depthAll (D.pys xs)) = max (D.dep x) (D.deps xs)
    rw [dep_of x, deps_of xs]
end
/-- two data held against one another -/
def rEq2 (K : PySem.W.Frag) (n : Bool) : R2 := fun x y H Q => ∃ d e, Dp K H x d ∧ Dp K H y e ∧ d.canLay0 = true ∧ e.canLay0 = true ∧ (d.depth ≤ 60 ∨ e.depth ≤ 60) ∧ Q (.bl (if n then !PyData.eqv d e else PyData.eqv d e)) H
theorem op_eq2 (hu : X.A.units + 64 < cLine) : OpR X (compareOp .Eq) (rEq2 X.K false) := by
  intro pins s σ H x y v u Q I rx ry h
  obtain ⟨d, e, hd, he, sd, se, dp, q⟩ := h
  obtain ⟨as, r1⟩ := Dp.reads I d x v hd rx
  obtain ⟨bs, r2⟩ := Dp.reads I e y u he ry
  exact SeqAt.compareEq_reads r1 r2 sd se (by omega) ⟨.bl _, H, I, rfl, q⟩
theorem op_ne2 (hu : X.A.units + 64 < cLine) : OpR X (compareOp .NotEq) (rEq2 X.K true) := by
  intro pins s σ H x y v u Q I rx ry h
  obtain ⟨d, e, hd, he, sd, se, dp, q⟩ := h
  obtain ⟨as, r1⟩ := Dp.reads I d x v hd rx
  obtain ⟨bs, r2⟩ := Dp.reads I e y u he ry
  exact SeqAt.compareNe_reads r1 r2 sd se (by omega) ⟨.bl _, H, I, rfl, q⟩
/-- two values and what a comparison makes of them: a truth, nothing changed -/
def Cmp2 (fa : Nat → Addr) (X : Cx) (f : Value → Value → Sem Value) (a b : Val) (M : Mem) (c : Bool) : Prop :=
  ∃ r, OpR X f r ∧ ∀ ρ H x y (Q : VK), HR X.K fa ρ M H → RV X.K fa ρ H a x → RV X.K fa ρ H b y → Q (.bl c) H → r x y H Q
theorem cmp_eq {a b : D} (hu : X.A.units + 64 < cLine) (h : eqOk a b = true) : Cmp2 fa X (compareOp .Eq) (.d a) (.d b) M (D.eq a b) := by
  unfold eqOk at h
  simp only [Bool.and_eq_true, Bool.or_eq_true, decide_eq_true_eq] at h
  obtain ⟨⟨pa, pb⟩, dp⟩ := h
  refine ⟨_, op_eq2 hu, fun ρ H x y Q hm rx ry q => ⟨D.py a, D.py b, dp_of pa rx, dp_of pb ry, lay_of rx pa, lay_of ry pb, by rw [dep_of, dep_of]; exact dp, ?_⟩⟩
  rw [eqv_of a b pa pb]
  exact q
theorem cmp_ne {a b : D} (hu : X.A.units + 64 < cLine) (h : eqOk a b = true) : Cmp2 fa X (compareOp .NotEq) (.d a) (.d b) M (!D.eq a b) := by
  unfold eqOk at h
  simp only [Bool.and_eq_true, Bool.or_eq_true, decide_eq_true_eq] at h
  obtain ⟨⟨pa, pb⟩, dp⟩ := h
  refine ⟨_, op_ne2 hu, fun ρ H x y Q hm rx ry q => ⟨D.py a, D.py b, dp_of pa rx, dp_of pb ry, lay_of rx pa, lay_of ry pb, by rw [dep_of, dep_of]; exact dp, ?_⟩⟩
  rw [eqv_of a b pa pb]
  exact q
theorem cmpI_ok {op : CmpOp} {i j : Int} {c : Bool} (h : cmpI (copOf op) i j = some c) : Cmp2 fa X (compareOp op) (.d (.int i)) (.d (.int j)) M c := by
  cases op <;> simp only [copOf, cmpI, Option.some.injEq, reduceCtorEq] at h <;> subst h
  · exact ⟨_, op_eq, fun ρ H x y Q hm rx ry q => by
      cases rx; cases ry
      refine ⟨rfl, ?_⟩
      rw [show decide (V.int i = V.int j) = decide (i = j) by simp]
      exact q⟩
  · exact ⟨_, op_ne, fun ρ H x y Q hm rx ry q => by
      cases rx; cases ry
      refine ⟨rfl, ?_⟩
      rw [show decide (V.int i = V.int j) = decide (i = j) by simp]
      exact q⟩
  · exact ⟨_, op_lt, fun ρ H x y Q hm rx ry q => by cases rx; cases ry; exact ⟨i, j, rfl, rfl, q⟩⟩
  · exact ⟨_, op_le, fun ρ H x y Q hm rx ry q => by cases rx; cases ry; exact ⟨i, j, rfl, rfl, q⟩⟩
  · exact ⟨_, op_gt, fun ρ H x y Q hm rx ry q => by cases rx; cases ry; exact ⟨i, j, rfl, rfl, q⟩⟩
  · exact ⟨_, op_ge, fun ρ H x y Q hm rx ry q => by cases rx; cases ry; exact ⟨i, j, rfl, rfl, q⟩⟩
theorem non_iff {a : D} {x : V} (r : RD X.K fa ρ H a x) : decide (x = .non) = isNon a := by
  cases r <;> rfl
end
end Rf

namespace Rf
open PySem PySem.Spec PyProof.Rows L2
/-! ### a text in a text -/
theorem findSub_ok (x : List Nat) : ∀ t : List Nat, (findSub x t).isSome = true ↔ ∃ i, i + x.length ≤ t.length ∧ (t.drop i).take x.length = x
  | [] => by
    unfold findSub
    cases x with
    | nil => simp
    | cons a r => simp
  | c :: r => by
    have ih := findSub_ok x r
    unfold findSub
    by_cases h : x.isPrefixOf (c :: r) = true
    · rw [if_pos h]
      have h1 : x <+: (c :: r) := List.isPrefixOf_iff_prefix.mp h
      refine ⟨fun _ => ⟨0, by simpa using h1.length_le, ?_⟩, fun _ => rfl⟩
      obtain ⟨t, ht⟩ := h1
      rw [List.drop_zero, ← ht]
      simp
    · rw [if_neg h, Option.isSome_map]
      rw [ih]
      constructor
      · rintro ⟨i, h1, h2⟩
        exact ⟨i + 1, by simp; omega, by simpa using h2⟩
      · rintro ⟨i, h1, h2⟩
        cases i with
        | zero =>
          exfalso
          apply h
          rw [List.isPrefixOf_iff_prefix]
          refine ⟨(c :: r).drop x.length, ?_⟩
          have h3 : (c :: r).take x.length = x := by simpa using h2
          conv => lhs; lhs; rw [← h3]
          exact List.take_append_drop _ _
        | succ i => exact ⟨i, by simp at h1; omega, by simpa using h2⟩
theorem in_s0 (x t : List Nat) : (!(Builtin.Str.occurrences (S0 t) (S0 x) 0 (S0 t).length 1).isEmpty) = (findSub x t).isSome := by
  rw [Bool.eq_iff_iff, StrLaws.found_iff, findSub_ok]
  simp only [s0_len, StrLaws.subAt_eq, s0_list, beq_iff_eq]

section
variable {fa : Nat → Addr} {X : Cx} {T : Tab} {nm : Nms} {k : Nat} {C : Cal}
variable {ρ ρ1 : Wd} {H H1 H2 : Hp} {M M' : Mem}
theorem units_of {A : Around} (h : Rm k A) (h1 : 0 ≤ k) : A.units + 64 + 16 + 100 < cLine := by have := h.r.un; omega

def rIn2 (K : PySem.W.Frag) (n : Bool) : R2 := fun x y H Q => ∃ d ds, Dp K H x d ∧ (Dp K H y (.list ds) ∨ Dp K H y (.tuple ds)) ∧ d.canLay0 = true ∧ PyData.canLayAll0 ds = true ∧ d.depth ≤ 60 ∧
  Q (.bl (if n then !(ds.any fun z => PyData.eqv z d) else ds.any fun z => PyData.eqv z d)) H
theorem op_in2 (hu : X.A.units + 65 < cLine) : OpR X (compareOp .In) (rIn2 X.K false) := by
  intro pins s σ H x y v u Q I rx ry h
  obtain ⟨d, ds, hd, he, sd, se, dp, q⟩ := h
  obtain ⟨as, r1⟩ := Dp.reads I d x v hd rx
  rcases he with he | he
  · obtain ⟨bs, r2⟩ := Dp.reads I (.list ds) y u he ry
    exact SeqAt.in_list_reads r2 r1 se sd (by omega) ⟨.bl _, H, I, rfl, q⟩
  · obtain ⟨bs, r2⟩ := Dp.reads I (.tuple ds) y u he ry
    exact SeqAt.in_tuple_reads r2 r1 se sd (by omega) ⟨.bl _, H, I, rfl, q⟩
theorem op_notIn2 (hu : X.A.units + 65 < cLine) : OpR X (compareOp .NotIn) (rIn2 X.K true) := by
  intro pins s σ H x y v u Q I rx ry h
  obtain ⟨d, ds, hd, he, sd, se, dp, q⟩ := h
  obtain ⟨as, r1⟩ := Dp.reads I d x v hd rx
  rcases he with he | he
  · obtain ⟨bs, r2⟩ := Dp.reads I (.list ds) y u he ry
    exact SeqAt.notIn_list_reads r2 r1 se sd (by omega) ⟨.bl _, H, I, rfl, q⟩
  · obtain ⟨bs, r2⟩ := Dp.reads I (.tuple ds) y u he ry
    exact SeqAt.notIn_tuple_reads r2 r1 se sd (by omega) ⟨.bl _, H, I, rfl, q⟩
theorem any_py {x : D} (hx : D.pl x = true) : ∀ {xs : List D}, D.pls xs = true → ((D.pys xs).any fun z => PyData.eqv z (D.py x)) = inD x xs
  | [], _ => rfl
  | y :: ys, h => by
    simp only [D.pls, Bool.and_eq_true] at h
    show (PyData.eqv (D.py y) (D.py x) || (D.pys ys).any fun z => PyData.eqv z (D.py x)) = (D.eq y x || inD x ys)
    rw [eqv_of y x h.1 hx, any_py hx h.2]
def rDIn : R2 := fun y x H Q => ∃ a o, x = .ref a ∧ DGet H a y o ∧ Q (.bl o.isSome) H
def rDNotIn : R2 := fun y x H Q => ∃ a o, x = .ref a ∧ DGet H a y o ∧ Q (.bl (!o.isSome)) H
theorem op_inD (hu : X.A.units + 1 < cLine) : OpR X (compareOp .In) rDIn := by
  intro pins s σ H y x v u Q I ry rx h
  obtain ⟨a, o, rfl, g, q⟩ := h
  obtain rfl : u = Value.ref a := rx
  exact d_in hu I g ry fun s3 I3 => ⟨.bl o.isSome, H, I3, rfl, q⟩
theorem op_notInD (hu : X.A.units + 1 < cLine) : OpR X (compareOp .NotIn) rDNotIn := by
  intro pins s σ H y x v u Q I ry rx h
  obtain ⟨a, o, rfl, g, q⟩ := h
  obtain rfl : u = Value.ref a := rx
  exact d_notIn hu I g ry fun s3 I3 => ⟨.bl (!o.isSome), H, I3, rfl, q⟩
theorem key_of {d : D} {x : V} (h : keyB d = true) (r : RD X.K fa ρ H d x) : ∃ k, x = kV k ∧ KR d k := by
  cases r with
  | int => exact ⟨.inl _, rfl, rfl⟩
  | str _ _ => exact ⟨.inr _, rfl, rfl⟩
  | _ => cases h
theorem keq_of {a b : D} {a' b' : Key} (h1 : KR a a') (h2 : KR b b') : keq a b = decide (a' = b') := by
  cases a <;> cases a' <;> first | (cases h1; done) | skip
  · cases b <;> cases b' <;> first | (cases h2; done) | skip
    · cases h1; cases h2; rw [Bool.eq_iff_iff]; simp [keq]
    · rw [Bool.eq_iff_iff]; simp [keq]
  · cases b <;> cases b' <;> first | (cases h2; done) | skip
    · rw [Bool.eq_iff_iff]; simp [keq]
    · cases h1; cases h2
      rw [Bool.eq_iff_iff]
      simp only [keq, beq_iff_eq, decide_eq_true_eq, Sum.inr.injEq]
      exact ⟨fun e => by rw [e], s0_inj⟩
theorem find_key {k : D} {k' : Key} (hk : KR k k') : ∀ {kvs : List (D × D)} {ks : List (Key × V)}, RKs X.K fa ρ H kvs ks → (getK kvs k = none ∧ valV ks k' = none) ∨ ∃ d v, getK kvs k = some d ∧ valV ks k' = some v ∧ RD X.K fa ρ H d v
  | _, _, .nil => .inl ⟨rfl, rfl⟩
  | _, _, .cons (k := a) (d := d) (k' := a') (v := v) h1 h2 h3 => by
    have e := keq_of h1 hk
    have ih := find_key hk h3
    unfold getK valV
    rw [List.find?_cons, List.find?_cons]
    by_cases c : a' = k'
    · have e1 : keq a k = true := by rw [e]; exact decide_eq_true c
      simp only [e1, decide_eq_true c]
      exact .inr ⟨d, v, rfl, rfl, h2⟩
    · have e1 : keq a k = false := by rw [e]; exact decide_eq_false c
      simp only [e1, decide_eq_false c]
      exact ih
theorem any_get (kvs : List (D × D)) (k : D) : (kvs.any fun q => keq q.1 k) = (getK kvs k).isSome := by
  unfold getK
  induction kvs with
  | nil => rfl
  | cons q r ih =>
    rw [List.any_cons, List.find?_cons]
    cases keq q.1 k with
    | true => rfl
    | false => exact ih
theorem any_key {k : D} {k' : Key} (hk : KR k k') {kvs : List (D × D)} {ks : List (Key × V)} (r : RKs X.K fa ρ H kvs ks) : (valV ks k').isSome = (kvs.any fun q => keq q.1 k) := by
  rw [any_get]
  rcases find_key hk r with ⟨a, b⟩ | ⟨d, v, a, b, _⟩
  · rw [a, b]; rfl
  · rw [a, b]; rfl
theorem inB_ok {a b : D} {c : Bool} (hu : X.A.units + 65 < cLine) (h : inB a b = some c) : Cmp2 fa X (compareOp .In) (.d a) (.d b) M c ∧ Cmp2 fa X (compareOp .NotIn) (.d a) (.d b) M (!c) := by
  have seq : ∀ xs : List D, (b = .tup xs ∨ b = .lst xs) → (if (D.pl a && D.pls xs && decide (D.dep a ≤ 60)) = true then some (inD a xs) else none) = some c → Cmp2 fa X (compareOp .In) (.d a) (.d b) M c ∧ Cmp2 fa X (compareOp .NotIn) (.d a) (.d b) M (!c) := by
    intro xs hb h
    split at h
    · rename_i cc
      cases h
      simp only [Bool.and_eq_true, decide_eq_true_eq] at cc
      obtain ⟨⟨pa, px⟩, dp⟩ := cc
      have go : ∀ ρ H x y, RD X.K fa ρ H a x → RD X.K fa ρ H b y → Dp X.K H x (D.py a) ∧ (Dp X.K H y (.list (D.pys xs)) ∨ Dp X.K H y (.tuple (D.pys xs))) ∧ (D.py a).canLay0 = true ∧ PyData.canLayAll0 (D.pys xs) = true ∧ (D.py a).depth ≤ 60 := by
        intro ρ H x y rx ry
        refine ⟨dp_of pa rx, ?_, lay_of rx pa, ?_, by rw [dep_of]; exact dp⟩
        · rcases hb with rfl | rfl
          · exact .inr (dp_of (d := .tup xs) (by simpa [D.pl] using px) ry)
          · exact .inl (dp_of (d := .lst xs) (by simpa [D.pl] using px) ry)
        · rcases hb with rfl | rfl
          · cases ry with | tup _ _ r => exact lays_of r px
          · cases ry with | lst _ _ r => exact lays_of r px
      constructor
      · refine ⟨_, op_in2 hu, fun ρ H x y Q hm rx ry q => ?_⟩
        obtain ⟨a1, a2, a3, a4, a5⟩ := go ρ H x y rx ry
        refine ⟨_, _, a1, a2, a3, a4, a5, ?_⟩
        rw [any_py pa px]
        exact q
      · refine ⟨_, op_notIn2 hu, fun ρ H x y Q hm rx ry q => ?_⟩
        obtain ⟨a1, a2, a3, a4, a5⟩ := go ρ H x y rx ry
        refine ⟨_, _, a1, a2, a3, a4, a5, ?_⟩
        rw [any_py pa px]
        exact q
    · cases h
  cases b with
  | dct kvs =>
    have h' : (if keyB a then some (kvs.any fun q => keq q.1 a) else none) = some c := h
    split at h'
    · rename_i hk
      cases h'
      have go : ∀ ρ H x y, RD X.K fa ρ H a x → RD X.K fa ρ H (.dct kvs) y → ∃ p o, y = .ref p ∧ DGet H p x o ∧ o.isSome = (kvs.any fun q => keq q.1 a) := by
        intro ρ H x y rx ry
        cases ry with
        | dct hp n rs =>
          obtain ⟨k', hk1, hk2⟩ := key_of hk rx
          refine ⟨_, _, rfl, .inl ⟨_, k', .inl hp, hk1, rfl⟩, ?_⟩
          exact any_key hk2 rs
      constructor
      · refine ⟨_, op_inD (by omega), fun ρ H x y Q hm rx ry q => ?_⟩
        obtain ⟨p, o, rfl, g, e⟩ := go ρ H x y rx ry
        exact ⟨p, o, rfl, g, by rw [e]; exact q⟩
      · refine ⟨_, op_notInD (by omega), fun ρ H x y Q hm rx ry q => ?_⟩
        obtain ⟨p, o, rfl, g, e⟩ := go ρ H x y rx ry
        exact ⟨p, o, rfl, g, by rw [e]; exact q⟩
    · cases h'
  | str t =>
    cases a with
    | str s =>
      have e : (findSub s t).isSome = c := Option.some.inj h
      subst e
      constructor
      · refine ⟨_, op_in_str, fun ρ H x y Q hm rx ry q => ?_⟩
        cases rx; cases ry
        refine ⟨_, _, rfl, rfl, ?_⟩
        rw [in_s0]
        exact q
      · refine ⟨_, op_notin_str, fun ρ H x y Q hm rx ry q => ?_⟩
        cases rx; cases ry
        refine ⟨_, _, rfl, rfl, ?_⟩
        rw [in_s0]
        exact q
    | _ => cases h
  | tup xs => exact seq xs (.inl rfl) h
  | lst xs => exact seq xs (.inr rfl) h
  | _ => cases h
theorem cmpD_ok {op : CmpOp} {a b : D} {c : Bool} (hu : X.A.units + 65 < cLine) (h : cmpD (copOf op) a b = some c) : Cmp2 fa X (compareOp op) (.d a) (.d b) M c := by
  unfold cmpD at h
  split at h
  · exact cmpI_ok h
  · cases op <;> simp only [copOf] at h
    · split at h
      · cases h; exact cmp_eq (by omega) (by assumption)
      · cases h
    · split at h
      · cases h; exact cmp_ne (by omega) (by assumption)
      · cases h
    · cases h
    · cases h
    · cases h
    · cases h
    · split at h
      · cases h
        exact ⟨_, op_isBl, fun ρ H x y Q hm rx ry q => by cases rx; cases ry; exact ⟨_, _, rfl, rfl, q⟩⟩
      · split at h
        · rename_i hb
          cases h
          refine ⟨_, op_isN, fun ρ H x y Q hm rx ry q => ⟨?_, ?_⟩⟩
          · have := non_iff ry; rw [hb] at this; exact of_decide_eq_true this
          · rw [non_iff rx]; exact q
        · cases h
    · split at h
      · cases h
        exact ⟨_, op_notBl, fun ρ H x y Q hm rx ry q => by cases rx; cases ry; exact ⟨_, _, rfl, rfl, q⟩⟩
      · split at h
        · rename_i hb
          cases h
          refine ⟨_, op_notN, fun ρ H x y Q hm rx ry q => ⟨?_, ?_⟩⟩
          · have := non_iff ry; rw [hb] at this; exact of_decide_eq_true this
          · rw [non_iff rx]; exact q
        · cases h
    · exact (inB_ok hu h).1
    · cases q : inB a b with
      | none => rw [q] at h; cases h
      | some z =>
        rw [q] at h
        cases h
        exact (inB_ok hu q).2
theorem deep_ok {a : Val} {d : D} {ρ : Wd} {H : Hp} {x : V} (hm : HR X.K fa ρ M H) (e : deepV M a = some d) (r : RV X.K fa ρ H a x) (h : D.pl d = true) : Dp X.K H x (D.py d) ∧ (D.py d).canLay0 = true := by
  cases a with
  | d y => cases e; exact ⟨dp_of h r, lay_of r h⟩
  | r i =>
    have e' : (match M[i]? with
      | some (.lst vs) => (datas vs).map D.lst
      | _ => none) = some d := e
    cases q : M[i]? with
    | none => rw [q] at e'; cases e'
    | some o =>
      rw [q] at e'
      cases o with
      | lst us =>
        obtain ⟨ds, h1, rfl⟩ := Option.map_eq_some_iff.mp e'
        obtain ⟨a, vs, _, rfl, h3, h4⟩ := hm.lst q r
        have rs := h4.ds h1
        have h' : D.pls ds = true := by simpa [D.pl] using h
        refine ⟨.lst (.inl (.inl h3)) (dps_of h' rs), ?_⟩
        simp only [D.py, PyData.canLay0]
        exact lays_of rs h'
      | dct _ => cases e'
      | ins _ _ => cases e'
theorem cmp_eqP {a b : Val} {x y : D} (hu : X.A.units + 64 < cLine) (ea : deepV M a = some x) (eb : deepV M b = some y) (h : eqOk x y = true) : Cmp2 fa X (compareOp .Eq) a b M (D.eq x y) := by
  unfold eqOk at h
  simp only [Bool.and_eq_true, Bool.or_eq_true, decide_eq_true_eq] at h
  obtain ⟨⟨pa, pb⟩, dp⟩ := h
  refine ⟨_, op_eq2 hu, fun ρ H u v Q hm rx ry q => ⟨D.py x, D.py y, (deep_ok hm ea rx pa).1, (deep_ok hm eb ry pb).1, (deep_ok hm ea rx pa).2, (deep_ok hm eb ry pb).2, by rw [dep_of, dep_of]; exact dp, ?_⟩⟩
  rw [eqv_of x y pa pb]
  exact q
theorem cmp_neP {a b : Val} {x y : D} (hu : X.A.units + 64 < cLine) (ea : deepV M a = some x) (eb : deepV M b = some y) (h : eqOk x y = true) : Cmp2 fa X (compareOp .NotEq) a b M (!D.eq x y) := by
  unfold eqOk at h
  simp only [Bool.and_eq_true, Bool.or_eq_true, decide_eq_true_eq] at h
  obtain ⟨⟨pa, pb⟩, dp⟩ := h
  refine ⟨_, op_ne2 hu, fun ρ H u v Q hm rx ry q => ⟨D.py x, D.py y, (deep_ok hm ea rx pa).1, (deep_ok hm eb ry pb).1, (deep_ok hm ea rx pa).2, (deep_ok hm eb ry pb).2, by rw [dep_of, dep_of]; exact dp, ?_⟩⟩
  rw [eqv_of x y pa pb]
  exact q
theorem cmpV_ok {op : CmpOp} {a b : Val} {c : Bool} {M' : Mem} (hu : X.A.units + 65 < cLine) (h : cmpV (copOf op) a b M = .ok c M') : M = M' ∧ Cmp2 fa X (compareOp op) a b M c := by
  unfold cmpV at h
  split at h
  · obtain ⟨h1, h2⟩ := R.opt_ok h
    exact ⟨h2, cmpD_ok hu h1⟩
  · obtain ⟨h1, h2⟩ := R.opt_ok h
    refine ⟨h2, ?_⟩
    cases ea : deepV M a with
    | none => rw [ea] at h1; cases h1
    | some x =>
      rename_i j
      cases eb : deepV M (.r j) with
      | none => rw [ea, eb] at h1; cases h1
      | some y =>
        rw [ea, eb] at h1
        have hu' : X.A.units + 64 < cLine := by omega
        cases op <;> first
          | (cases h1; done)
          | (simp only [copOf, cmpP] at h1
             split at h1
             · cases h1
               rename_i hq
               first
                 | exact cmp_eqP hu' ea eb hq
                 | exact cmp_neP hu' ea eb hq
             · cases h1)
  · cases h
theorem snd_cmp {a b : Expr} {op : CmpOp} {p : Pos} {x y : Ex} (c : Cok fa X T nm k C) (hb : okE b = true) (h1 : SndE fa X a (evE C x)) (h2 : SndE fa X b (evE C y)) : SndE fa X (.Compare a [op] [b] p) (evE C (.cmp (copOf op) x y)) := by
  intro s σ ρ M H v M' hs hm q
  obtain ⟨u, m1, q1, q⟩ := R.bind_ok q
  obtain ⟨w, m2, q2, q⟩ := R.bind_ok q
  obtain ⟨t, m3, q3, q⟩ := R.bind_ok q
  cases q
  obtain ⟨rfl, r, hr, fin⟩ := cmpV_ok (fa := fa) (X := X) (by have := units_of c.rm c.k1; omega) q3
  refine ofE (pe_cmpR hr (pE a) (pE b) (ok_mark hb op)) ?_
  refine (h1 s σ ρ M H u m1 hs hm q1).thn fun y H1 kf ⟨ρ1, g1, hm1, r1⟩ => ?_
  refine (h2 s σ ρ1 m1 H1 w m2 (hs.go g1) hm1 q2).thn fun y H2 kf ⟨ρ2, g2, hm2, r2⟩ => ?_
  exact fin ρ2 H2 _ _ _ hm2 (r1.go g2) r2 ⟨ρ2, g1.trans g2, hm2, .bl⟩
theorem tst_cmp {a b : Expr} {op : CmpOp} {p : Pos} {x y : Ex} (c : Cok fa X T nm k C) (hb : okE b = true) (h1 : SndE fa X a (evE C x)) (h2 : SndE fa X b (evE C y)) : SndT fa X (.Compare a [op] [b] p) (evE C (.cmp (copOf op) x y)) := by
  intro s σ ρ M H v M' tb hs hm q tr
  obtain ⟨u, m1, q1, q⟩ := R.bind_ok q
  obtain ⟨w, m2, q2, q⟩ := R.bind_ok q
  obtain ⟨t, m3, q3, q⟩ := R.bind_ok q
  cases q
  have e : t = tb := Option.some.inj tr
  subst e
  obtain ⟨rfl, r, hr, fin⟩ := cmpV_ok (fa := fa) (X := X) (by have := units_of c.rm c.k1; omega) q3
  refine ofT (pt_cmpR hr (pE a) (pE b) (ok_mark hb op)) ?_
  refine (h1 s σ ρ M H u m1 hs hm q1).thn fun y H1 kf ⟨ρ1, g1, hm1, r1⟩ => ?_
  refine (h2 s σ ρ1 m1 H1 w m2 (hs.go g1) hm1 q2).thn fun y H2 kf ⟨ρ2, g2, hm2, r2⟩ => ?_
  exact fin ρ2 H2 _ _ _ hm2 (r1.go g2) r2 ⟨t, rfl, ρ2, g1.trans g2, hm2, rfl⟩
theorem chn_core {o p : Cop} {C : Cal} {x y z : Ex} {s : Slots} {M M' : Mem} {v : Val} (q : evE C (.chn o p x y z) s M = .ok v M') :
    ∃ a m1 b m2 k m3, evE C x s M = .ok a m1 ∧ evE C y s m1 = .ok b m2 ∧ cmpV o a b m2 = .ok k m3 ∧
      ((k = false ∧ v = .d (.bl false) ∧ M' = m3) ∨ (k = true ∧ ∃ c m4 l, evE C z s m3 = .ok c m4 ∧ cmpV p b c m4 = .ok l M' ∧ v = .d (.bl l))) := by
  obtain ⟨u, m1, q1, q⟩ := R.bind_ok q
  obtain ⟨w, m2, q2, q⟩ := R.bind_ok q
  obtain ⟨t, m3, q3, q⟩ := R.bind_ok q
  refine ⟨u, m1, w, m2, t, m3, q1, q2, q3, ?_⟩
  cases t with
  | false => cases q; exact .inl ⟨rfl, rfl, rfl⟩
  | true =>
    obtain ⟨d, m4, q4, q⟩ := R.bind_ok q
    obtain ⟨l, m5, q5, q⟩ := R.bind_ok q
    cases q
    exact .inr ⟨rfl, d, m4, l, q4, q5, rfl⟩
theorem cmp_true (hu : X.A.units + 65 < cLine) (op : CmpOp) : ∃ r, OpR X (compareOp op) r := ⟨fun _ _ _ _ => False, fun _ _ _ _ _ _ _ _ _ _ _ _ h => h.elim⟩
theorem snd_chn {a b d : Expr} {op op' : CmpOp} {p : Pos} {x y z : Ex} (c : Cok fa X T nm k C) (h1 : SndE fa X a (evE C x)) (h2 : SndE fa X b (evE C y)) (hd : okE d = true) (h3 : SndE fa X d (evE C z)) :
    SndE fa X (.Compare a [op, op'] [b, d] p) (evE C (.chn (copOf op) (copOf op') x y z)) := by
  intro s σ ρ M H v M' hs hm q
  have hu : X.A.units + 65 < cLine := by have := units_of c.rm c.k1; omega
  obtain ⟨u, m1, w, m2, t, m3, q1, q2, q3, q⟩ := chn_core q
  obtain ⟨rfl, r, hr, fin⟩ := cmpV_ok (fa := fa) (X := X) hu q3
  rcases q with ⟨rfl, rfl, rfl⟩ | ⟨rfl, e, m4, l, q4, q5, rfl⟩
  · obtain ⟨r', hr'⟩ := cmp_true hu op'
    refine ofE (pe_chain hr hr' (pE a) (pE b) (pE d) (ok_mark hd op')) ?_
    refine (h1 s σ ρ M H u m1 hs hm q1).thn fun y H1 kf ⟨ρ1, g1, hm1, r1⟩ => ?_
    refine (h2 s σ ρ1 m1 H1 w _ (hs.go g1) hm1 q2).thn fun y H2 kf ⟨ρ2, g2, hm2, r2⟩ => ?_
    refine fin ρ2 H2 _ _ _ hm2 (r1.go g2) r2 ⟨false, rfl, ?_⟩
    rw [if_neg Bool.false_ne_true]
    exact ⟨ρ2, g1.trans g2, hm2, .bl⟩
  · obtain ⟨rfl, r', hr', fin'⟩ := cmpV_ok (fa := fa) (X := X) hu q5
    refine ofE (pe_chain hr hr' (pE a) (pE b) (pE d) (ok_mark hd op')) ?_
    refine (h1 s σ ρ M H u m1 hs hm q1).thn fun y H1 kf ⟨ρ1, g1, hm1, r1⟩ => ?_
    refine (h2 s σ ρ1 m1 H1 w _ (hs.go g1) hm1 q2).thn fun y H2 kf ⟨ρ2, g2, hm2, r2⟩ => ?_
    refine fin ρ2 H2 _ _ _ hm2 (r1.go g2) r2 ⟨true, rfl, ?_⟩
    rw [if_pos rfl]
    refine (h3 s σ ρ2 _ H2 e _ (hs.go (g1.trans g2)) hm2 q4).thn fun y H3 kf ⟨ρ3, g3, hm3, r3⟩ => ?_
    exact fin' ρ3 H3 _ _ _ hm3 (r2.go g3) r3 ⟨ρ3, (g1.trans g2).trans g3, hm3, .bl⟩
theorem tst_chn {a b d : Expr} {op op' : CmpOp} {p : Pos} {x y z : Ex} (c : Cok fa X T nm k C) (h1 : SndE fa X a (evE C x)) (h2 : SndE fa X b (evE C y)) (hd : okE d = true) (h3 : SndE fa X d (evE C z)) :
    SndT fa X (.Compare a [op, op'] [b, d] p) (evE C (.chn (copOf op) (copOf op') x y z)) := by
  intro s σ ρ M H v M' tb hs hm q tr
  have hu : X.A.units + 65 < cLine := by have := units_of c.rm c.k1; omega
  obtain ⟨u, m1, w, m2, t, m3, q1, q2, q3, q⟩ := chn_core q
  obtain ⟨rfl, r, hr, fin⟩ := cmpV_ok (fa := fa) (X := X) hu q3
  rcases q with ⟨rfl, rfl, rfl⟩ | ⟨rfl, e, m4, l, q4, q5, rfl⟩
  · have e : false = tb := Option.some.inj tr
    subst e
    obtain ⟨r', hr'⟩ := cmp_true hu op'
    refine ofT (pt_chain hr hr' (pE a) (pE b) (pE d) (ok_mark hd op')) ?_
    refine (h1 s σ ρ M H u m1 hs hm q1).thn fun y H1 kf ⟨ρ1, g1, hm1, r1⟩ => ?_
    refine (h2 s σ ρ1 m1 H1 w _ (hs.go g1) hm1 q2).thn fun y H2 kf ⟨ρ2, g2, hm2, r2⟩ => ?_
    refine fin ρ2 H2 _ _ _ hm2 (r1.go g2) r2 ⟨false, rfl, ?_⟩
    rw [if_neg Bool.false_ne_true]
    exact ⟨false, rfl, ρ2, g1.trans g2, hm2, rfl⟩
  · have e2 : l = tb := Option.some.inj tr
    subst e2
    obtain ⟨rfl, r', hr', fin'⟩ := cmpV_ok (fa := fa) (X := X) hu q5
    refine ofT (pt_chain hr hr' (pE a) (pE b) (pE d) (ok_mark hd op')) ?_
    refine (h1 s σ ρ M H u m1 hs hm q1).thn fun y H1 kf ⟨ρ1, g1, hm1, r1⟩ => ?_
    refine (h2 s σ ρ1 m1 H1 w _ (hs.go g1) hm1 q2).thn fun y H2 kf ⟨ρ2, g2, hm2, r2⟩ => ?_
    refine fin ρ2 H2 _ _ _ hm2 (r1.go g2) r2 ⟨true, rfl, ?_⟩
    rw [if_pos rfl]
    refine (h3 s σ ρ2 _ H2 e _ (hs.go (g1.trans g2)) hm2 q4).thn fun y H3 kf ⟨ρ3, g3, hm3, r3⟩ => ?_
    exact fin' ρ3 H3 _ _ _ hm3 (r2.go g3) r3 ⟨l, rfl, ρ3, (g1.trans g2).trans g3, hm3, rfl⟩
end
end Rf

namespace Rf
open PySem PySem.Spec PyProof.Rows L2
section
variable {fa : Nat → Addr} {X : Cx} {T : Tab} {nm : Nms} {k : Nat} {C : Cal}
variable {ρ ρ1 : Wd} {H H1 H2 : Hp} {M M' : Mem}
theorem empt_of {α β : Type} {a : List α} {b : List β} (h : a.length = b.length) : (!a.isEmpty) = !b.isEmpty := by
  cases a <;> cases b <;> simp at h <;> rfl
theorem tru_of (hm : HR X.K fa ρ M H) {v : Val} {x : V} {b : Bool} (r : RV X.K fa ρ H v x) (h : truth M v = some b) : TruV X.K x H b := by
  cases v with
  | d v =>
    cases r with
    | non => exact (Option.some.inj h).symm
    | bl => exact (Option.some.inj h).symm
    | int => exact (Option.some.inj h).symm
    | @str s hl _ =>
      refine ⟨by rw [s0_len, ← line_eq]; exact hl, ?_⟩
      have e : (!s.isEmpty) = b := Option.some.inj h
      rw [s0_len, ← e]
      cases s <;> simp
      omega
    | @tup ds p vs hx _ rs =>
      have e : (!ds.isEmpty) = b := Option.some.inj h
      exact .inr (.inl ⟨vs, hx, by rw [← e]; exact empt_of rs.length⟩)
    | @lst ds p vs hx _ rs =>
      have e : (!ds.isEmpty) = b := Option.some.inj h
      exact .inl ⟨vs, .inl (.inl hx), by rw [← e]; exact empt_of rs.length⟩
    | scr _ _ => cases h
    | fn => cases h
    | dct _ _ _ => cases h
  | r i =>
    have h' : (match M[i]? with
      | some (.lst vs) => some (!vs.isEmpty)
      | _ => none) = some b := h
    split at h'
    · rename_i us q
      obtain ⟨a, vs, _, rfl, h1, r1⟩ := hm.lst q r
      have e : (!us.isEmpty) = b := Option.some.inj h'
      exact .inl ⟨vs, .inl (.inl h1), by rw [← e]; exact empt_of r1.length⟩
    · cases h'
/-- a test by the value's truth -/
theorem tst_val {e : Expr} {x : Ex} (ht : tvE e = true) (h : SndE fa X e (evE C x)) : SndT fa X e (evE C x) := by
  intro s σ ρ M H v M' b hs hm q tr
  refine ofT (pt_truth (pE e) (tv_true ht X.env)) ((h s σ ρ M H v M' hs hm q).thn fun y H1 kf ⟨ρ1, g1, hm1, r1⟩ => ?_)
  exact ⟨b, tru_of hm1 r1 tr, ρ1, g1, hm1, rfl⟩
theorem tru_bl {m : Mem} {b c : Bool} (h : truth m (.d (.bl b)) = some c) : b = c := Option.some.inj h
theorem not_core {C : Cal} {x : Ex} {s : Slots} {M M' : Mem} {v : Val} (q : evE C (.not x) s M = .ok v M') : ∃ a b, evE C x s M = .ok a M' ∧ truth M' a = some b ∧ v = .d (.bl (!b)) := by
  obtain ⟨u, m1, q1, q⟩ := R.bind_ok q
  split at q
  · rename_i b e
    cases q
    exact ⟨u, b, q1, e, rfl⟩
  · cases q
theorem snd_not {a : Expr} {p : Pos} {x : Ex} (h : SndE fa X a (evE C x)) : SndE fa X (.UnaryOp .Not a p) (evE C (.not x)) := by
  intro s σ ρ M H v M' hs hm q
  obtain ⟨u, b, q1, q2, rfl⟩ := not_core q
  refine ofE (pe_notT (pE a)) ((h s σ ρ M H u _ hs hm q1).thn fun y H1 kf ⟨ρ1, g1, hm1, r1⟩ => ?_)
  exact ⟨b, tru_of hm1 r1 q2, ρ1, g1, hm1, .bl⟩
theorem tst_not {a : Expr} {p : Pos} {x : Ex} (h : SndT fa X a (evE C x)) : SndT fa X (.UnaryOp .Not a p) (evE C (.not x)) := by
  intro s σ ρ M H v M' c hs hm q tr
  obtain ⟨u, b, q1, q2, rfl⟩ := not_core q
  have e := tru_bl tr
  subst e
  refine ofT (pt_not (pT a)) ((h s σ ρ M H u _ b hs hm q1 q2).thn fun y H1 kf ⟨ρ1, g1, hm1, r1⟩ => ?_)
  subst r1
  exact ⟨ρ1, g1, hm1, rfl⟩
theorem and_core {C : Cal} {x y : Ex} {s : Slots} {M M' : Mem} {v : Val} (q : evE C (.and x y) s M = .ok v M') :
    ∃ a m1, evE C x s M = .ok a m1 ∧ ((truth m1 a = some true ∧ evE C y s m1 = .ok v M') ∨ (truth m1 a = some false ∧ v = a ∧ M' = m1)) := by
  obtain ⟨u, m1, q1, q⟩ := R.bind_ok q
  refine ⟨u, m1, q1, ?_⟩
  split at q
  · exact .inl ⟨by assumption, q⟩
  · cases q; exact .inr ⟨by assumption, rfl, rfl⟩
  · cases q
theorem or_core {C : Cal} {x y : Ex} {s : Slots} {M M' : Mem} {v : Val} (q : evE C (.or x y) s M = .ok v M') :
    ∃ a m1, evE C x s M = .ok a m1 ∧ ((truth m1 a = some false ∧ evE C y s m1 = .ok v M') ∨ (truth m1 a = some true ∧ v = a ∧ M' = m1)) := by
  obtain ⟨u, m1, q1, q⟩ := R.bind_ok q
  refine ⟨u, m1, q1, ?_⟩
  split at q
  · cases q; exact .inr ⟨by assumption, rfl, rfl⟩
  · exact .inl ⟨by assumption, q⟩
  · cases q
theorem snd_and {a b : Expr} {r : List Expr} {p : Pos} {x y : Ex} (h1 : SndE fa X a (evE C x)) (h2 : SndE fa X (.BoolOp .And (b :: r) p) (evE C y)) : SndE fa X (.BoolOp .And (a :: b :: r) p) (evE C (.and x y)) := by
  intro s σ ρ M H v M' hs hm q
  obtain ⟨u, m1, q1, q⟩ := and_core q
  refine ofE (pe_andT (pE a) (pE _)) ((h1 s σ ρ M H u m1 hs hm q1).thn fun z H1 kf ⟨ρ1, g1, hm1, r1⟩ => ?_)
  rcases q with ⟨t, q⟩ | ⟨t, rfl, rfl⟩
  · refine ⟨true, tru_of hm1 r1 t, ?_⟩
    rw [if_pos rfl]
    exact (h2 s σ ρ1 m1 H1 v M' (hs.go g1) hm1 q).thn fun z H2 _ po => po.back g1
  · refine ⟨false, tru_of hm1 r1 t, ?_⟩
    rw [if_neg Bool.false_ne_true]
    exact ⟨ρ1, g1, hm1, r1⟩
theorem snd_or {a b : Expr} {r : List Expr} {p : Pos} {x y : Ex} (h1 : SndE fa X a (evE C x)) (h2 : SndE fa X (.BoolOp .Or (b :: r) p) (evE C y)) : SndE fa X (.BoolOp .Or (a :: b :: r) p) (evE C (.or x y)) := by
  intro s σ ρ M H v M' hs hm q
  obtain ⟨u, m1, q1, q⟩ := or_core q
  refine ofE (pe_orT (pE a) (pE _)) ((h1 s σ ρ M H u m1 hs hm q1).thn fun z H1 kf ⟨ρ1, g1, hm1, r1⟩ => ?_)
  rcases q with ⟨t, q⟩ | ⟨t, rfl, rfl⟩
  · refine ⟨false, tru_of hm1 r1 t, ?_⟩
    rw [if_neg Bool.false_ne_true]
    exact (h2 s σ ρ1 m1 H1 v M' (hs.go g1) hm1 q).thn fun z H2 _ po => po.back g1
  · refine ⟨true, tru_of hm1 r1 t, ?_⟩
    rw [if_pos rfl]
    exact ⟨ρ1, g1, hm1, r1⟩
def seW (X : Cx) (e : Expr) : TT := fun σ H Q => ∀ whole pins s, Inv X pins σ H s → wpAny (model X.prog X.w) X.A (isTrue e X.env whole) (TP X pins σ Q) X.xe s
theorem pW (e : Expr) : PW X e (seW X e) := ⟨fun wh pins s _ _ _ I h => h wh pins s I⟩
theorem ofW {e : Expr} {t : TT} (h : PW X e t) {σ : L2.St} {H : Hp} {Q : Bool → Hp → Prop} (q : t σ H Q) : seW X e σ H Q := fun wh pins s I => h.run wh pins s σ H Q I q
theorem seW.thn {e : Expr} {σ : L2.St} {H : Hp} {Q Q' : Bool → Hp → Prop} (h : seW X e σ H Q) (q : ∀ v H', KF X.K H' → Q v H' → Q' v H') : seW X e σ H Q' := fun wh pins s I =>
  L2.thn (h wh pins s I) fun _ _ ⟨H', I', z⟩ => ⟨H', I', q _ H' (kf_of I') z⟩
/-- as a test whatever the whole is -/
def SndW (fa : Nat → Addr) (X : Cx) (pe : Expr) (ev : Slots → Mem → R Val) : Prop :=
  ∀ s σ ρ M H v M' b, SR X.K fa ρ H s σ → HR X.K fa ρ M H → ev s M = .ok v M' → truth M' v = some b → seW X pe σ H (PoT X.K fa ρ H b M')
theorem SndW.t {e : Expr} {x : Slots → Mem → R Val} (h : SndW fa X e x) : SndT fa X e x := fun s σ ρ M H v M' b h1 h2 h3 h4 => ofT (pW e).pt (h s σ ρ M H v M' b h1 h2 h3 h4)
theorem tst_one {a : Expr} {op : BoolOp} {p : Pos} {x : Ex} (h : SndT fa X a (evE C x)) : SndW fa X (.BoolOp op [a] p) (evE C x) := by
  intro s σ ρ M H v M' b hs hm q tr
  cases op with
  | And => exact ofW (pw_and1 (pT a)) (h s σ ρ M H v M' b hs hm q tr)
  | Or => exact ofW (pw_or1 (pT a)) (h s σ ρ M H v M' b hs hm q tr)
theorem tst_and {a b : Expr} {r : List Expr} {p : Pos} {x y : Ex} (h1 : SndT fa X a (evE C x)) (h2 : SndW fa X (.BoolOp .And (b :: r) p) (evE C y)) : SndW fa X (.BoolOp .And (a :: b :: r) p) (evE C (.and x y)) := by
  intro s σ ρ M H v M' c hs hm q tr
  obtain ⟨u, m1, q1, q⟩ := and_core q
  rcases q with ⟨t, q⟩ | ⟨t, rfl, rfl⟩
  · refine ofW (pw_and (pT a) (pW _)) ((h1 s σ ρ M H u m1 true hs hm q1 t).thn fun z H1 kf ⟨ρ1, g1, hm1, r1⟩ => ?_)
    subst r1
    rw [if_pos rfl]
    exact (h2 s σ ρ1 m1 H1 v M' c (hs.go g1) hm1 q tr).thn fun z H2 _ po => po.back g1
  · rw [t] at tr
    cases tr
    refine ofW (pw_and (pT a) (pW _)) ((h1 s σ ρ M H v _ false hs hm q1 t).thn fun z H1 kf ⟨ρ1, g1, hm1, r1⟩ => ?_)
    subst r1
    rw [if_neg Bool.false_ne_true]
    exact ⟨ρ1, g1, hm1, rfl⟩
theorem tst_or {a b : Expr} {r : List Expr} {p : Pos} {x y : Ex} (h1 : SndT fa X a (evE C x)) (h2 : SndW fa X (.BoolOp .Or (b :: r) p) (evE C y)) : SndW fa X (.BoolOp .Or (a :: b :: r) p) (evE C (.or x y)) := by
  intro s σ ρ M H v M' c hs hm q tr
  obtain ⟨u, m1, q1, q⟩ := or_core q
  rcases q with ⟨t, q⟩ | ⟨t, rfl, rfl⟩
  · refine ofW (pw_or (pT a) (pW _)) ((h1 s σ ρ M H u m1 false hs hm q1 t).thn fun z H1 kf ⟨ρ1, g1, hm1, r1⟩ => ?_)
    subst r1
    rw [if_neg Bool.false_ne_true]
    exact (h2 s σ ρ1 m1 H1 v M' c (hs.go g1) hm1 q tr).thn fun z H2 _ po => po.back g1
  · rw [t] at tr
    cases tr
    refine ofW (pw_or (pT a) (pW _)) ((h1 s σ ρ M H v _ true hs hm q1 t).thn fun z H1 kf ⟨ρ1, g1, hm1, r1⟩ => ?_)
    subst r1
    rw [if_pos rfl]
    exact ⟨ρ1, g1, hm1, rfl⟩
/-- a if c else b -/
theorem ite_core {C : Cal} {c x y : Ex} {s : Slots} {M M' : Mem} {v : Val} (q : evE C (.ite c x y) s M = .ok v M') :
    ∃ a m1, evE C c s M = .ok a m1 ∧ ((truth m1 a = some true ∧ evE C x s m1 = .ok v M') ∨ (truth m1 a = some false ∧ evE C y s m1 = .ok v M')) := by
  obtain ⟨u, m1, q1, q⟩ := R.bind_ok q
  refine ⟨u, m1, q1, ?_⟩
  split at q
  · exact .inl ⟨by assumption, q⟩
  · exact .inr ⟨by assumption, q⟩
  · cases q
theorem snd_ite {c a b : Expr} {p : Pos} {z x y : Ex} (h0 : SndT fa X c (evE C z)) (h1 : SndE fa X a (evE C x)) (h2 : SndE fa X b (evE C y)) : SndE fa X (.IfExp c a b p) (evE C (.ite z x y)) := by
  intro s σ ρ M H v M' hs hm q
  obtain ⟨u, m1, q1, q⟩ := ite_core q
  rcases q with ⟨t, q⟩ | ⟨t, q⟩
  · refine ofE (pe_ifExp (pT c) (pE a) (pE b)) ((h0 s σ ρ M H u m1 true hs hm q1 t).thn fun z H1 kf ⟨ρ1, g1, hm1, r1⟩ => ?_)
    subst r1
    rw [if_pos rfl]
    exact (h1 s σ ρ1 m1 H1 v M' (hs.go g1) hm1 q).thn fun z H2 _ po => po.back g1
  · refine ofE (pe_ifExp (pT c) (pE a) (pE b)) ((h0 s σ ρ M H u m1 false hs hm q1 t).thn fun z H1 kf ⟨ρ1, g1, hm1, r1⟩ => ?_)
    subst r1
    rw [if_neg Bool.false_ne_true]
    exact (h2 s σ ρ1 m1 H1 v M' (hs.go g1) hm1 q).thn fun z H2 _ po => po.back g1

/-! ### items, slices -/
theorem at_eq {α : Type} (xs : List α) (i : Int) : atL xs i = L2.atI xs i := rfl
theorem at_map {α β : Type} (f : α → β) (xs : List α) (i : Int) : L2.atI (xs.map f) i = (L2.atI xs i).map f := by
  unfold L2.atI
  rw [List.length_map]
  cases L2.ixN xs.length i with
  | none => rfl
  | some j => simp
theorem at_vs {us : List Val} {vs : List V} {i : Int} {x : Val} (r : RVs X.K fa ρ H us vs) (h : atL us i = some x) : ∃ v, L2.atI vs i = some v ∧ RV X.K fa ρ H x v := by
  unfold atL at h
  unfold L2.atI
  rw [← r.length]
  have e : ixOf us.length i = L2.ixN us.length i := rfl
  rw [e] at h
  cases q : L2.ixN us.length i with
  | none => rw [q] at h; cases h
  | some j =>
    rw [q] at h
    exact r.get h
theorem at_ds {us : List D} {vs : List V} {i : Int} {x : D} (r : RDs X.K fa ρ H us vs) (h : atL us i = some x) : ∃ v, L2.atI vs i = some v ∧ RD X.K fa ρ H x v := by
  obtain ⟨v, a, b⟩ := at_vs (x := .d x) (i := i) r.vs (by rw [at_eq, at_map, ← at_eq, h]; rfl)
  exact ⟨v, a, b⟩
theorem mem_at {α : Type} {xs : List α} {i : Int} {x : α} (h : atL xs i = some x) : x ∈ xs := by
  unfold atL at h
  cases q : ixOf xs.length i with
  | none => rw [q] at h; cases h
  | some j => rw [q] at h; exact List.mem_of_getElem? h
theorem idxV_ok {a : Val} {i : Int} {v : Val} (h : idxV M a i = some v) : ∃ r, IxR X r ∧ ∀ ρ H x (Q : VK), HR X.K fa ρ M H → RV X.K fa ρ H a x → (∀ z, RV X.K fa ρ H v z → Q z H) → r x (.int i) H Q := by
  unfold idxV at h
  split at h
  · rename_i s
    refine ⟨_, ix_str, fun ρ H x Q hm rx q => ?_⟩
    cases e : atL s i with
    | none => rw [e] at h; cases h
    | some c =>
      rw [e] at h
      cases h
      cases rx with
      | str hl cp =>
        refine ⟨_, i, c, rfl, rfl, by rw [s0_len, ← line_eq]; exact hl, by rw [s0_list]; exact e, ?_⟩
        exact q _ (.str (s := [c]) (by show 1 ≤ LINE; decide) fun d hd => by
          have : d = c := by simpa using hd
          rw [this]; exact cp c (mem_at e))
  · rename_i xs
    refine ⟨_, ix_tup, fun ρ H x Q hm rx q => ?_⟩
    cases e : atL xs i with
    | none => rw [e] at h; cases h
    | some c =>
      rw [e] at h
      cases h
      cases rx with
      | tup hx _ rs =>
        obtain ⟨w, e1, e2⟩ := at_ds rs e
        exact ⟨_, _, i, w, rfl, rfl, hx, e1, q _ e2⟩
  · rename_i xs
    refine ⟨_, ix_list, fun ρ H x Q hm rx q => ?_⟩
    cases e : atL xs i with
    | none => rw [e] at h; cases h
    | some c =>
      rw [e] at h
      cases h
      cases rx with
      | lst hx _ rs =>
        obtain ⟨w, e1, e2⟩ := at_ds rs e
        exact ⟨_, _, i, w, rfl, rfl, .inl (.inl hx), e1, q _ e2⟩
  · rename_i xs
    refine ⟨_, ix_list, fun ρ H x Q hm rx q => ?_⟩
    cases e : atL xs i with
    | none => rw [e] at h; cases h
    | some c =>
      rw [e] at h
      cases h
      cases rx with
      | scr hx _ =>
        refine ⟨_, _, i, .int c, rfl, rfl, hx, ?_, q _ .int⟩
        rw [at_map, ← at_eq, e]; rfl
  · rename_i j
    split at h
    · rename_i us qj
      refine ⟨_, ix_list, fun ρ H x Q hm rx q => ?_⟩
      obtain ⟨p, vs, _, rfl, h1, r1⟩ := hm.lst qj rx
      obtain ⟨w, e1, e2⟩ := at_vs r1 h
      exact ⟨_, _, i, w, rfl, rfl, .inl (.inl h1), e1, q _ e2⟩
    · cases h
  · cases h
theorem snd_idx {a i : Expr} {p : Pos} {x y : Ex} (c : Cok fa X T nm k C) (hi : okE i = true) (h1 : SndE fa X a (evE C x)) (h2 : SndE fa X i (evE C y)) : SndE fa X (.Subscript a i p) (evE C (.idx x y)) := by
  intro s σ ρ M H v M' hs hm q
  obtain ⟨u, m1, q1, q⟩ := R.bind_ok q
  obtain ⟨w, m2, q2, q⟩ := R.bind_ok q
  obtain ⟨q3, rfl⟩ := R.opt_ok q
  unfold idxK at q3
  split at q3
  · rename_i kvs kd
    split at q3
    · rename_i hk
      obtain ⟨d, hd, rfl⟩ := Option.map_eq_some_iff.mp q3
      refine ofE (pe_dget (by have := units_of c.rm c.k1; omega) (pE a) (pE i) (ok_plain hi)) ?_
      refine (h1 s σ ρ M H _ m1 hs hm q1).thn fun y H1 kf ⟨ρ1, g1, hm1, r1⟩ => ?_
      refine (h2 s σ ρ1 m1 H1 _ _ (hs.go g1) hm1 q2).thn fun y2 H2 kf ⟨ρ2, g2, hm2, r2⟩ => ?_
      cases r1.go g2 with
      | dct hp n rs =>
        obtain ⟨k', hk1, hk2⟩ := key_of hk r2
        rcases find_key hk2 rs with ⟨e1, _⟩ | ⟨d', v', e1, e2, e3⟩
        · rw [e1] at hd; cases hd
        · rw [hd] at e1
          cases e1
          exact ⟨_, v', rfl, .inl ⟨_, k', .inl hp, hk1, e2.symm⟩, ρ2, g1.trans g2, hm2, e3⟩
    · cases q3
  · cases q3
  · rename_i n _
    obtain ⟨r, hr, fin⟩ := idxV_ok (fa := fa) (X := X) q3
    refine ofE (pe_ix hr (pE a) (pE i) (ok_plain hi)) ?_
    refine (h1 s σ ρ M H u m1 hs hm q1).thn fun y H1 kf ⟨ρ1, g1, hm1, r1⟩ => ?_
    refine (h2 s σ ρ1 m1 H1 _ _ (hs.go g1) hm1 q2).thn fun y H2 kf ⟨ρ2, g2, hm2, r2⟩ => ?_
    cases r2
    exact fin ρ2 H2 _ _ hm2 (r1.go g2) fun z rz => ⟨ρ2, g1.trans g2, hm2, rz⟩
  · cases q3
theorem cut_eq {α : Type} (xs : List α) (lo hi : Option Int) : cut xs lo hi = (xs.drop (HT.sIx xs.length 0 lo)).take (HT.sIx xs.length xs.length hi - HT.sIx xs.length 0 lo) := by
  have e : ∀ n d o, cutAt n d o = HT.sIx n d o := fun n d o => by cases o <;> rfl
  unfold cut
  rw [e, e]
theorem cut_vs {us : List Val} {vs : List V} (r : RVs X.K fa ρ H us vs) (lo hi : Option Int) : RVs X.K fa ρ H (cut us lo hi) (cutV vs lo hi) := by
  rw [cut_eq]
  unfold cutV
  rw [← r.length]
  exact (r.drop _).take _
theorem cut_ds {us : List D} {vs : List V} (r : RDs X.K fa ρ H us vs) (lo hi : Option Int) : RDs X.K fa ρ H (cut us lo hi) (cutV vs lo hi) := by
  rw [cut_eq]
  unfold cutV
  rw [← r.length]
  exact (r.drop _).take _
theorem ints_vs (ns : List Int) : RVs X.K fa ρ H (ns.map fun n => .d (.int n)) (ns.map V.int) := by
  induction ns with
  | nil => exact .nil
  | cons n ns ih => exact .cons .int ih
theorem cut_le {α : Type} (xs : List α) (lo hi : Option Int) : (cut xs lo hi).length ≤ xs.length := by
  unfold cut
  rw [List.length_take, List.length_drop]
  omega
theorem cut_mem {α : Type} {xs : List α} {lo hi : Option Int} {x : α} (h : x ∈ cut xs lo hi) : x ∈ xs := List.mem_of_mem_drop (List.mem_of_mem_take h)
theorem slcV_ok {z : Bool} {a : Val} {lo hi : Option Int} {v : Val} (h : slcV z a lo hi M = .ok v M') :
    ∃ r, SlR X r ∧ ∀ ρ H x (Q : VK), HR X.K fa ρ M H → RV X.K fa ρ H a x → (∀ z H', PoE X.K fa ρ H v M' z H' → Q z H') → r x lo hi H (fun z H' => KF X.K H' → Q z H') := by
  unfold slcV at h
  split at h
  · rename_i s
    cases h
    refine ⟨_, sl_str, fun ρ H x Q hm rx q => ?_⟩
    cases rx with
    | str hl cp =>
      refine ⟨_, rfl, by rw [s0_len, ← line_eq]; exact hl, fun _ => ?_⟩
      have e : cutS (S0 s) lo hi = S0 (cut s lo hi) := by
        rw [cut_eq]
        unfold cutS
        rw [s0_list, s0_len]
      rw [e]
      exact q _ _ (PoE.here hm (.str (Nat.le_trans (cut_le s lo hi) hl) fun c hc => cp c (cut_mem hc)))
  · rename_i xs
    cases h
    refine ⟨_, sl_tupA, fun ρ H x Q hm rx q => ?_⟩
    cases rx with
    | tup hx nx rs =>
      refine ⟨_, _, rfl, hx, fun hw _ => ?_, fun _ p hn kf => q _ _ (mk_tup hm (cut_ds rs lo hi) hn kf)⟩
      have e : cut xs lo hi = xs := by
        rw [cut_eq, rs.length, hw.1, hw.2, ← rs.length]
        simp
      rw [e] at q
      exact q _ _ (PoE.here hm (.tup hx nx rs))
  · rename_i ns
    refine ⟨_, sl_list, fun ρ H x Q hm rx q => ?_⟩
    cases rx with
    | scr hx nx => exact ⟨_, _, rfl, hx, fun p hn kf => q _ _ (mk_list hm (cut_vs (ints_vs ns) lo hi) h hn kf)⟩
  · split at h
    · rename_i us qu
      refine ⟨_, sl_list, fun ρ H x Q hm rx q => ?_⟩
      obtain ⟨p, vs, rfl, h1, r1⟩ := hm.lstOf qu rx
      exact ⟨_, _, rfl, .inl (.inl h1), fun p hn kf => q _ _ (mk_list hm (cut_vs r1 lo hi) h hn kf)⟩
    · cases h
/-- a part of a slice, where it is written -/
def tP (X : Cx) (o : Option Expr) : TO := match o with
  | none => tNoPart
  | some e => tPart (seE X e)
theorem pP (o : Option Expr) : PO X o (tP X o) := by
  cases o with
  | none => exact po_none
  | some e => exact po_some (pE e)
theorem snd_part {o : Option Expr} {f : Expr → Option Ex} {x : Ex} (hf : ∀ e x, f e = some x → okE e = true → SndE fa X e (evE C x)) (h : cO f o = some x) {s : Slots} {σ : L2.St} {v : Val} {i : Option Int} (hs : SR X.K fa ρ H s σ) (hm : HR X.K fa ρ M H)
    (q : evE C x s M = .ok v M') (hp : partV o.isSome v = some i) {Q : Option Int → Hp → Prop} (fin : ∀ H' ρ', Go ρ H ρ' H' → HR X.K fa ρ' M' H' → Q i H') : tP X o σ H Q := by
  cases o with
  | none =>
    cases h
    cases q
    have e : i = none := (Option.some.inj (show some none = some i from hp)).symm
    subst e
    exact fin H ρ Go.refl hm
  | some e =>
    obtain ⟨k1, k2⟩ := cE_ok h
    refine (hf e x k2 k1 s σ ρ M H v M' hs hm q).thn fun y H1 kf ⟨ρ1, g1, hm1, r1⟩ => ?_
    have hp' : partV true v = some i := hp
    cases v with
    | r _ => cases hp'
    | d v =>
      cases v with
      | int n =>
        cases r1
        cases hp'
        exact ⟨n, rfl, fin H1 ρ1 g1 hm1⟩
      | _ => cases hp'
theorem snd_slc {a : Expr} {lo hi : Option Expr} {p p2 : Pos} {z : Bool} {x l h : Ex} {f : Expr → Option Ex} (hf : ∀ e x, f e = some x → okE e = true → SndE fa X e (evE C x)) (h1 : SndE fa X a (evE C x)) (hl : cO f lo = some l) (hh : cO f hi = some h) :
    SndE fa X (.Subscript a (.Slice lo hi none p2) p) (evE C (.slc z lo.isSome hi.isSome x l h)) := by
  intro s σ ρ M H v M' hs hm q
  obtain ⟨u, m1, q1, q⟩ := R.bind_ok q
  obtain ⟨w1, m2, q2, q⟩ := R.bind_ok q
  obtain ⟨w2, m3, q3, q⟩ := R.bind_ok q
  split at q
  · rename_i i j ei ej
    obtain ⟨r, hr, fin⟩ := slcV_ok (fa := fa) (X := X) q
    refine seE.kfo (ofE (pe_slice hr (pE a) (pP lo) (pP hi)) ?_)
    refine (h1 s σ ρ M H u m1 hs hm q1).thn fun y H1 kf ⟨ρ1, g1, hm1, r1⟩ => ?_
    refine snd_part hf hl (hs.go g1) hm1 q2 ei fun H2 ρ2 g2 hm2 => ?_
    refine snd_part hf hh (hs.go (g1.trans g2)) hm2 q3 ej fun H3 ρ3 g3 hm3 => ?_
    exact fin ρ3 H3 _ _ hm3 ((r1.go g2).go g3) fun z H' po => po.back ((g1.trans g2).trans g3)
  · cases q
end
end Rf

namespace Rf
open PySem PySem.Spec PyProof.Rows L2
section
variable {fa : Nat → Addr} {X : Cx} {T : Tab} {nm : Nms} {k : Nat} {C : Cal}
variable {ρ ρ1 : Wd} {H H1 H2 : Hp} {M M' : Mem}
/-! ### texts -/
theorem numText_eq (i : Int) : S0 (numText i) = ((toString i : String) : Str) := by
  show _ = Str.ofString (toString i)
  rw [Str.ofString_eq_toList]
  rfl
theorem numText_cp (i : Int) : CP (numText i) := by
  intro c hc
  obtain ⟨d, _, e⟩ := List.mem_map.mp hc
  rw [← e]
  have h := d.valid
  unfold UInt32.isValidChar Nat.isValidChar at h
  show d.val.toNat < 0x110000
  omega
theorem numText_len {i : Int} (h : i.natAbs.log2 < 1920) : (numText i).length ≤ LINE := by
  have q := PySem.int_text_length_le (a := i) (k := 1920) (by decide) h
  unfold numText
  rw [List.length_map]
  have e : (toString i).toList.length = (toString i).length := String.length_toList
  rw [e]
  have : LINE = 16777216 := rfl
  omega
theorem ints_of {us : List Val} {vs : List V} {ns : List Int} (r : RVs X.K fa ρ H us vs) (h : intsD us = some ns) : vs = ns.map V.int := by
  induction r generalizing ns with
  | nil => simp [intsD] at h; subst h; rfl
  | @cons x xs v vs a b ih =>
    cases x with
    | r _ => simp [intsD] at h
    | d x =>
      cases x with
      | int i =>
        have h' : (intsD xs).map (i :: ·) = some ns := h
        cases q : intsD xs with
        | none => rw [q] at h'; cases h'
        | some l =>
          rw [q] at h'
          cases h'
          cases a
          rw [ih q]
          rfl
      | _ => simp [intsD] at h
theorem bls_of {us : List Val} {vs : List V} {ns : List Bool} (r : RVs X.K fa ρ H us vs) (h : blsD us = some ns) : vs = ns.map V.bl := by
  induction r generalizing ns with
  | nil => simp [blsD] at h; subst h; rfl
  | @cons x xs v vs a b ih =>
    cases x with
    | r _ => simp [blsD] at h
    | d x =>
      cases x with
      | bl i =>
        have h' : (blsD xs).map (i :: ·) = some ns := h
        cases q : blsD xs with
        | none => rw [q] at h'; cases h'
        | some l =>
          rw [q] at h'
          cases h'
          cases a
          rw [ih q]
          rfl
      | _ => simp [blsD] at h
theorem strs_of {us : List Val} {vs : List V} {ns : List (List Nat)} (r : RVs X.K fa ρ H us vs) (h : strsD us = some ns) : vs = (ns.map S0).map V.str ∧ ∀ s ∈ ns, CP s := by
  induction r generalizing ns with
  | nil => simp [strsD] at h; subst h; exact ⟨rfl, fun _ h => by cases h⟩
  | @cons x xs v vs a b ih =>
    cases x with
    | r _ => simp [strsD] at h
    | d x =>
      cases x with
      | str i =>
        have h' : (strsD xs).map (i :: ·) = some ns := h
        cases q : strsD xs with
        | none => rw [q] at h'; cases h'
        | some l =>
          rw [q] at h'
          cases h'
          cases a with
          | str _ cp =>
            obtain ⟨e1, e2⟩ := ih q
            rw [e1]
            refine ⟨rfl, fun s hs => ?_⟩
            rcases List.mem_cons.mp hs with rfl | hs
            · exact cp
            · exact e2 s hs
      | _ => simp [strsD] at h
theorem join_eq (sep : List Nat) : ∀ ss : List (List Nat), Str.join (S0 sep) (ss.map S0) = S0 (joinL sep ss)
  | [] => rfl
  | [x] => rfl
  | x :: y :: r => by
    have ih := join_eq sep (y :: r)
    show S0 x ++ S0 sep ++ Str.join (S0 sep) ((y :: r).map S0) = S0 (x ++ sep ++ joinL sep (y :: r))
    rw [ih, s0_app, s0_app]
theorem join_cp {sep : List Nat} (hs : CP sep) : ∀ {ss : List (List Nat)}, (∀ s ∈ ss, CP s) → CP (joinL sep ss)
  | [], _ => fun _ h => by cases h
  | [x], h => h x (by simp)
  | x :: y :: r, h => by
    have ih := join_cp hs (ss := y :: r) fun s q => h s (List.mem_cons_of_mem _ q)
    intro c hc
    rcases List.mem_append.mp (show c ∈ x ++ sep ++ joinL sep (y :: r) from hc) with hc | hc
    · rcases List.mem_append.mp hc with hc | hc
      · exact h x List.mem_cons_self c hc
      · exact hs c hc
    · exact ih c hc
theorem join_len (sep : List Nat) : ∀ ss : List (List Nat), (joinL sep ss).length ≤ (ss.map List.length).sum + ss.length * sep.length
  | [] => by simp [joinL]
  | [x] => by simp [joinL]
  | x :: y :: r => by
    have ih := join_len sep (y :: r)
    simp only [joinL, List.length_append, List.map_cons, List.sum_cons, List.length_cons] at ih ⊢
    have e : (r.length + 1 + 1) * sep.length = (r.length + 1) * sep.length + sep.length := Nat.succ_mul _ _
    omega
theorem sum_s0 (ss : List (List Nat)) : ((ss.map S0).map (·.length)).sum = (ss.map List.length).sum := by
  induction ss with
  | nil => rfl
  | cons x r ih => simp only [List.map_cons, List.sum_cons, s0_len] at ih ⊢; rw [ih]
theorem padded_eq (x : List Nat) (n : Nat) : ∀ s, s = Builtin.Str.padded (S0 x) n 0 48 → s = S0 (List.replicate n 48 ++ x) := by
  intro s e
  rw [e]
  unfold Builtin.Str.padded
  apply Str.ext'
  simp [S0]
theorem zfill_eq {s : List Nat} {n : Int} (hn : n ≤ 1000) (hd : ∀ c ∈ s, 48 ≤ c ∧ c ≤ 57) : Txt.zfill (S0 s) n = S0 (padZ s n.toNat) := by
  unfold Txt.zfill padZ
  rw [s0_len]
  by_cases h : n ≤ (s.length : Int)
  · rw [if_pos h]
    have e : n.toNat - s.length = 0 := by omega
    rw [e]
    rfl
  · rw [if_neg h]
    unfold zfilled
    split
    · rename_i q
      exfalso
      have : (43 : Nat) ∈ s := by
        have := List.mem_of_getElem? (show s[0]? = some 43 by simpa [S0] using q)
        exact this
      have := hd 43 this
      omega
    · rename_i q
      exfalso
      have : (45 : Nat) ∈ s := by
        have := List.mem_of_getElem? (show s[0]? = some 45 by simpa [S0] using q)
        exact this
      have := hd 45 this
      omega
    · exact padded_eq _ _ _ rfl

/-! ### the order of texts, sorted -/
theorem ltN_eq : ∀ a b : List Nat, ltN a b = Spec.ltCps a b
  | [], [] => rfl
  | [], _ :: _ => rfl
  | _ :: _, [] => rfl
  | a :: r, b :: t => by
    show (decide (a < b) || (a == b && ltN r t)) = (decide (a < b) || (a == b && Spec.ltCps r t))
    rw [ltN_eq r t]
theorem ltN_irr : ∀ a : List Nat, ltN a a = false
  | [] => rfl
  | a :: r => by simp [ltN, ltN_irr r]
theorem ltN_tri : ∀ a b : List Nat, ltN a b = false → ltN b a = false → a = b
  | [], [], _, _ => rfl
  | [], _ :: _, h, _ => by simp [ltN] at h
  | _ :: _, [], _, h => by simp [ltN] at h
  | a :: r, b :: t, h1, h2 => by
    simp only [ltN, Bool.or_eq_false_iff, decide_eq_false_iff_not, Bool.and_eq_false_iff] at h1 h2
    have e : a = b := by omega
    subst e
    have e1 : ltN r t = false := by simpa using h1.2
    have e2 : ltN t r = false := by simpa using h2.2
    rw [ltN_tri r t e1 e2]
theorem ltN_tr : ∀ a b c : List Nat, ltN a b = true → ltN b c = true → ltN a c = true
  | [], [], _, h, _ => by simp [ltN] at h
  | [], _ :: _, [], _, h => by simp [ltN] at h
  | [], _ :: _, _ :: _, _, _ => rfl
  | _ :: _, [], _, h, _ => by simp [ltN] at h
  | _ :: _, _ :: _, [], _, h => by simp [ltN] at h
  | a :: r, b :: t, c :: u, h1, h2 => by
    simp only [ltN, Bool.or_eq_true, decide_eq_true_eq, Bool.and_eq_true, beq_iff_eq] at h1 h2 ⊢
    rcases h1 with h1 | ⟨e1, h1⟩ <;> rcases h2 with h2 | ⟨e2, h2⟩
    · left; omega
    · left; omega
    · left; omega
    · right; exact ⟨by omega, ltN_tr r t u h1 h2⟩
/-- no text behind is ahead of it -/
abbrev leN (a b : List Nat) : Prop := ltN b a = false
theorem leN_tr {a b c : List Nat} (h1 : leN a b) (h2 : leN b c) : leN a c := by
  show ltN c a = false
  have h1 : ltN b a = false := h1
  have h2 : ltN c b = false := h2
  cases h : ltN c a with
  | false => rfl
  | true =>
    cases h3 : ltN b c with
    | true => rw [show ltN b a = true from ltN_tr b c a h3 h] at h1; cases h1
    | false =>
      have e : b = c := ltN_tri b c h3 h2
      subst e
      rw [h] at h1; cases h1
theorem leN_of_not {a b : List Nat} (h : ltN a b = true) : leN a b := by
  show ltN b a = false
  cases h2 : ltN b a with
  | false => rfl
  | true =>
    have := ltN_tr a b a h h2
    rw [ltN_irr] at this; cases this
theorem insS_perm (x : List Nat) : ∀ l : List (List Nat), (insS x l).Perm (x :: l)
  | [] => List.Perm.refl _
  | y :: ys => by
    unfold insS
    split
    · exact ((insS_perm x ys).cons y).trans (List.Perm.swap x y ys)
    · exact List.Perm.refl _
theorem sortS_perm : ∀ l : List (List Nat), (sortS l).Perm l
  | [] => List.Perm.refl _
  | x :: xs => (insS_perm x (sortS xs)).trans ((sortS_perm xs).cons x)
theorem insS_srt (x : List Nat) : ∀ l : List (List Nat), l.Pairwise leN → (insS x l).Pairwise leN
  | [], _ => by simp [insS]
  | y :: ys, h => by
    obtain ⟨h1, h2⟩ := List.pairwise_cons.mp h
    unfold insS
    split
    · rename_i q
      refine List.pairwise_cons.mpr ⟨fun z hz => ?_, insS_srt x ys h2⟩
      rcases List.mem_cons.mp ((insS_perm x ys).mem_iff.mp hz) with e | hz
      · rw [e]; exact leN_of_not q
      · exact h1 z hz
    · rename_i q
      have q' : leN x y := by simpa using q
      refine List.pairwise_cons.mpr ⟨fun z hz => ?_, h⟩
      rcases List.mem_cons.mp hz with e | hz
      · rw [e]; exact q'
      · exact leN_tr q' (h1 z hz)
theorem sortS_srt : ∀ l : List (List Nat), (sortS l).Pairwise leN
  | [] => List.Pairwise.nil
  | x :: xs => insS_srt x _ (sortS_srt xs)
theorem srt_the {ys l : List (List Nat)} (h : ys.Pairwise leN) (p : ys.Perm l) : ys = sortS l :=
  List.Perm.eq_of_pairwise (le := leN) (fun a b _ _ h1 h2 => ltN_tri a b h2 h1) h (sortS_srt l) (p.trans (sortS_perm l).symm)
theorem rising_pw : ∀ (p : Str) (l : List Str), risingS p l = true → (p :: l).Pairwise fun a b => leN a.cps.toList b.cps.toList
  | p, [], _ => by simp
  | p, x :: r, h => by
    unfold risingS at h
    simp only [Bool.and_eq_true, Bool.not_eq_true'] at h
    have ih := rising_pw x r h.2
    have h0 : leN p.cps.toList x.cps.toList := by
      show ltN _ _ = false
      rw [ltN_eq]; exact h.1
    refine List.pairwise_cons.mpr ⟨fun z hz => ?_, ih⟩
    rcases List.mem_cons.mp hz with e | hz
    · rw [e]; exact h0
    · exact leN_tr h0 ((List.pairwise_cons.mp ih).1 z hz)
theorem sorted_pw {l : List Str} (h : sortedS l = true) : l.Pairwise fun a b => leN a.cps.toList b.cps.toList := by
  cases l with
  | nil => exact List.Pairwise.nil
  | cons p l => exact rising_pw p l h
theorem s0_back (l : List Str) : (l.map fun y => y.cps.toList).map S0 = l := by
  rw [List.map_map]
  exact (List.map_congr_left fun y _ => by show S0 y.cps.toList = y; simp [S0]).trans (List.map_id l)
theorem sorted_the {ys : List Str} {l : List (List Nat)} (p : ys.Perm (l.map S0)) (h : sortedS ys = true) : ys = (sortS l).map S0 := by
  have h1 : (ys.map fun y => y.cps.toList).Pairwise leN := List.pairwise_map.mpr (sorted_pw h)
  have h2 : (ys.map fun y => y.cps.toList).Perm l := by
    have := p.map fun y => y.cps.toList
    rw [List.map_map] at this
    have e : l.map ((fun y : Str => y.cps.toList) ∘ S0) = l := (List.map_congr_left fun y _ => by show (S0 y).cps.toList = y; simp [S0]).trans (List.map_id l)
    rw [e] at this
    exact this
  rw [← srt_the h1 h2, s0_back]
theorem strs_vs {l : List (List Nat)} (h : ∀ s ∈ l, s.length ≤ LINE ∧ CP s) : RVs X.K fa ρ H (l.map fun s => .d (.str s)) ((l.map S0).map V.str) := by
  induction l with
  | nil => exact .nil
  | cons s l ih => exact .cons (.str (h s List.mem_cons_self).1 (h s List.mem_cons_self).2) (ih fun s q => h s (List.mem_cons_of_mem _ q))
theorem strs_of2 {us : List Val} {vs : List V} {ns : List (List Nat)} (r : RVs X.K fa ρ H us vs) (h : strsD us = some ns) : ∀ s ∈ ns, s.length ≤ LINE ∧ CP s := by
  induction r generalizing ns with
  | nil => simp [strsD] at h; subst h; exact fun _ h => by cases h
  | @cons x xs v vs a b ih =>
    cases x with
    | r _ => simp [strsD] at h
    | d x =>
      cases x with
      | str i =>
        have h' : (strsD xs).map (i :: ·) = some ns := h
        cases q : strsD xs with
        | none => rw [q] at h'; cases h'
        | some l =>
          rw [q] at h'
          cases h'
          cases a with
          | str hl cp =>
            intro s hs
            rcases List.mem_cons.mp hs with rfl | hs
            · exact ⟨hl, cp⟩
            · exact ih q s hs
      | _ => simp [strsD] at h
/-! ### repr -/
theorem rQ_eq (s : List Nat) : reprQuote (S0 s) = rQ s := by
  unfold reprQuote rQ
  simp [S0]
theorem fold_rep (f : Nat → List Nat) : ∀ (l : List Nat) (acc : Array Nat), (l.foldl (fun out c => out ++ (f c).toArray) acc).toList = acc.toList ++ l.flatMap f
  | [], acc => by simp
  | c :: r, acc => by
    rw [List.foldl_cons, fold_rep f r]
    simp
theorem rS_eq (s : List Nat) : reprText (S0 s) = S0 (rS s) := by
  unfold reprText rS
  rw [rQ_eq]
  apply Str.ext'
  apply Array.ext'
  rw [Array.toList_push, ← Array.foldl_toList, fold_rep]
  simp [S0]
theorem joinS_eq : ∀ ss : List (List Nat), Str.join ", " (ss.map S0) = S0 (joinL [44, 32] ss) := fun ss => join_eq [44, 32] ss
mutual
theorem rp_eq : ∀ d : D, D.pl d = true → (D.py d).shown = S0 (D.rp d)
  | .non, _ => by simp only [D.py, PyData.shown, D.rp]; decide +kernel
  | .bl true, _ => by simp only [D.py, PyData.shown, D.rp]; decide +kernel
  | .bl false, _ => by simp only [D.py, PyData.shown, D.rp]; decide +kernel
  | .int i, _ => by simp only [D.py, PyData.shown, D.rp]; exact (numText_eq i).symm
  | .str s, _ => by simp only [D.py, PyData.shown, D.rp]; exact rS_eq s
  | .lst xs, h => by
    simp only [D.py, D.rp]
    rw [PyData.shown_list, rps_eq xs (by simpa [D.pl] using h), joinS_eq]
    show S0 [91] ++ S0 _ ++ S0 [93] = _
    rw [s0_app, s0_app]; rfl
  | .tup xs, h => by
    simp only [D.py, D.rp]
    rw [PyData.shown_tuple, rps_eq xs (by simpa [D.pl] using h), joinS_eq]
    have e : (D.pys xs).length = xs.length := by
      have : ∀ l : List D, (D.pys l).length = l.length := fun l => by
        induction l with
        | nil => simp [D.pys]
        | cons a l ih => simp [D.pys, ih]
      exact this xs
    rw [e]
    by_cases h1 : xs.length = 1
    · rw [h1, if_pos rfl]
      show S0 [40] ++ S0 _ ++ S0 [44, 41] = _
      rw [s0_app, s0_app]; rfl
    · rw [if_neg h1, if_neg (by simpa using h1)]
      show S0 [40] ++ S0 _ ++ S0 [41] = _
      rw [s0_app, s0_app]; rfl
  | .dct _, h => by simp [D.pl] at h
  | .set _, h => by simp [D.pl] at h
  | .scr _, h => by simp [D.pl] at h
  | .fn _, h => by simp [D.pl] at h
  | .obj _ _, h => by simp [D.pl] at h
theorem rps_eq : ∀ ds : List D, D.pls ds = true → PyData.shownAll (D.pys ds) = (D.rps ds).map S0
  | [], _ => by simp [D.pys, PyData.shownAll, D.rps]
  | x :: xs, h => by
    simp only [D.pls, Bool.and_eq_true] at h
    simp only [D.pys, PyData.shownAll, D.rps, List.map_cons]
    rw [rp_eq x h.1, rps_eq xs h.2]
end
theorem rch_cp : ∀ c, c < 128 → ((PySem.Builtin.Str.reprChar 34 c).all fun x => decide (x < 128)) = true ∧ ((PySem.Builtin.Str.reprChar 39 c).all fun x => decide (x < 128)) = true := by decide +kernel
theorem rS_cp {s : List Nat} (h : ∀ c ∈ s, c < 128) : CP (rS s) := by
  have hq : rQ s = 34 ∨ rQ s = 39 := by
    unfold rQ; split
    · exact .inl rfl
    · exact .inr rfl
  intro c hc
  unfold rS at hc
  rcases List.mem_cons.mp hc with e | hc
  · rcases hq with q | q <;> rw [e, q] <;> decide
  · rcases List.mem_append.mp hc with hc | hc
    · obtain ⟨x, hx, hc⟩ := List.mem_flatMap.mp hc
      have := rch_cp x (h x hx)
      rcases hq with q | q
      · rw [q] at hc
        have := of_decide_eq_true (List.all_eq_true.mp this.1 c hc)
        omega
      · rw [q] at hc
        have := of_decide_eq_true (List.all_eq_true.mp this.2 c hc)
        omega
    · have e : c = rQ s := by simpa using hc
      rcases hq with q | q <;> rw [e, q] <;> decide
mutual
theorem rp_cp : ∀ d : D, D.sh d = true → CP (D.rp d)
  | .non, _ => by intro c hc; simp only [D.rp, List.mem_cons, List.not_mem_nil, or_false] at hc; omega
  | .bl true, _ => by intro c hc; simp only [D.rp, List.mem_cons, List.not_mem_nil, or_false] at hc; omega
  | .bl false, _ => by intro c hc; simp only [D.rp, List.mem_cons, List.not_mem_nil, or_false] at hc; omega
  | .int i, _ => by simp only [D.rp]; exact numText_cp i
  | .str s, h => by
    simp only [D.rp]
    exact rS_cp fun c hc => of_decide_eq_true (List.all_eq_true.mp (by simpa only [D.sh] using h) c hc)
  | .lst xs, h => by
    have ih := join_cp (sep := [44, 32]) (by intro c hc; simp at hc; omega) (rps_cp xs (by simpa only [D.sh] using h))
    intro c hc
    simp only [D.rp, List.mem_cons, List.mem_append, List.not_mem_nil, or_false] at hc
    rcases hc with e | hc | e
    · omega
    · exact ih c hc
    · omega
  | .tup xs, h => by
    have ih := join_cp (sep := [44, 32]) (by intro c hc; simp at hc; omega) (rps_cp xs (by simpa only [D.sh] using h))
    intro c hc
    simp only [D.rp, List.mem_cons, List.mem_append] at hc
    rcases hc with e | hc | hc
    · omega
    · exact ih c hc
    · split at hc
      · simp at hc; omega
      · simp at hc; omega
  | .dct _, h => by simp [D.sh] at h
  | .set _, h => by simp [D.sh] at h
  | .scr _, h => by simp [D.sh] at h
  | .fn _, h => by simp [D.sh] at h
  | .obj _ _, h => by simp [D.sh] at h
theorem rps_cp : ∀ ds : List D, D.shs ds = true → ∀ s ∈ D.rps ds, CP s
  | [], _ => fun s hs => by simp [D.rps] at hs
  | x :: xs, h => by
    simp only [D.shs, Bool.and_eq_true] at h
    intro s hs
    simp only [D.rps] at hs
    rcases List.mem_cons.mp hs with e | hs
    · rw [e]; exact rp_cp x h.1
    · exact rps_cp xs h.2 s hs
end
mutual
theorem sh_py : ∀ d : D, D.sh d = true → (D.py d).showable = true
  | .non, _ => by simp [D.py, PyData.showable]
  | .bl _, _ => by simp [D.py, PyData.showable]
  | .int i, h => by simpa [D.py, PyData.showable, D.sh] using h
  | .str s, _ => by simp [D.py, PyData.showable]
  | .lst xs, h => by simp only [D.py, PyData.showable]; exact shs_py xs (by simpa only [D.sh] using h)
  | .tup xs, h => by simp only [D.py, PyData.showable]; exact shs_py xs (by simpa only [D.sh] using h)
  | .dct _, h => by simp [D.sh] at h
  | .set _, h => by simp [D.sh] at h
  | .scr _, h => by simp [D.sh] at h
  | .fn _, h => by simp [D.sh] at h
  | .obj _ _, h => by simp [D.sh] at h
theorem shs_py : ∀ ds : List D, D.shs ds = true → PyData.showableAll (D.pys ds) = true
  | [], _ => by simp [D.pys, PyData.showableAll]
  | x :: xs, h => by
    simp only [D.shs, Bool.and_eq_true] at h
    simp only [D.pys, PyData.showableAll, Bool.and_eq_true]
    exact ⟨sh_py x h.1, shs_py xs h.2⟩
end
mutual
theorem nd_py : ∀ d : D, (D.py d).hasDict = false
  | .non => by simp [D.py, PyData.hasDict]
  | .bl _ => by simp [D.py, PyData.hasDict]
  | .int i => by simp [D.py, PyData.hasDict]
  | .str s => by simp [D.py, PyData.hasDict]
  | .lst xs => by simp only [D.py, PyData.hasDict]; exact nds_py xs
  | .tup xs => by simp only [D.py, PyData.hasDict]; exact nds_py xs
  | .dct _ => by simp [D.py, PyData.hasDict]
  | .set _ => by simp [D.py, PyData.hasDict]
  | .scr _ => by simp [D.py, PyData.hasDict]
  | .fn _ => by simp [D.py, PyData.hasDict]
  | .obj _ _ => by simp [D.py, PyData.hasDict]
theorem nds_py : ∀ ds : List D, PyData.hasDictAll (D.pys ds) = false
  | [] => by simp [D.pys, PyData.hasDictAll]
  | x :: xs => by
    simp only [D.pys, PyData.hasDictAll]
    rw [nd_py x, nds_py xs]; rfl
end
/-! ### the least, the greatest -/
theorem fold_min : ∀ (xs : List Int) (x : Int), (xs.foldl (fun a b => if b < a then b else a) x) ∈ x :: xs ∧ ∀ y ∈ x :: xs, (xs.foldl (fun a b => if b < a then b else a) x) ≤ y
  | [], x => ⟨by simp, by simp⟩
  | z :: zs, x => by
    obtain ⟨h1, h2⟩ := fold_min zs (if z < x then z else x)
    rw [List.foldl_cons]
    have h3 := h2 _ List.mem_cons_self
    have h4 : (if z < x then z else x) ≤ x ∧ (if z < x then z else x) ≤ z := by split <;> omega
    refine ⟨?_, fun y hy => ?_⟩
    · rcases List.mem_cons.mp h1 with e | h
      · rw [e]; split <;> simp
      · exact List.mem_cons_of_mem _ (List.mem_cons_of_mem _ h)
    · rcases List.mem_cons.mp hy with e | hy
      · subst e; omega
      · rcases List.mem_cons.mp hy with e | hy
        · subst e; omega
        · exact h2 y (List.mem_cons_of_mem _ hy)
theorem fold_max : ∀ (xs : List Int) (x : Int), (xs.foldl (fun a b => if a < b then b else a) x) ∈ x :: xs ∧ ∀ y ∈ x :: xs, y ≤ (xs.foldl (fun a b => if a < b then b else a) x)
  | [], x => ⟨by simp, by simp⟩
  | z :: zs, x => by
    obtain ⟨h1, h2⟩ := fold_max zs (if x < z then z else x)
    rw [List.foldl_cons]
    have h3 := h2 _ List.mem_cons_self
    have h4 : x ≤ (if x < z then z else x) ∧ z ≤ (if x < z then z else x) := by split <;> omega
    refine ⟨?_, fun y hy => ?_⟩
    · rcases List.mem_cons.mp h1 with e | h
      · rw [e]; split <;> simp
      · exact List.mem_cons_of_mem _ (List.mem_cons_of_mem _ h)
    · rcases List.mem_cons.mp hy with e | hy
      · subst e; omega
      · rcases List.mem_cons.mp hy with e | hy
        · subst e; omega
        · exact h2 y (List.mem_cons_of_mem _ hy)
/-! ### built-in functions -/
def fnOf : Bi → Value
  | .len => .builtin "len"
  | .int => .type "int"
  | .str => .type "str"
  | .abs => .builtin "abs"
  | .tuple => .type "tuple"
  | .list => .type "list"
  | .sorted => .builtin "sorted"
  | .sum => .builtin "sum"
  | .all => .builtin "all"
  | .any => .builtin "any"
  | .min2 => .builtin "min"
  | .max2 => .builtin "max"
  | .min => .builtin "min"
  | .max => .builtin "max"
  | .repr => .builtin "repr"
  | .ord => .builtin "ord"
  | .bool => .type "bool"
  | .dict => .type "dict"
def Cal1 (fa : Nat → Addr) (X : Cx) (f : Value) (as : List Val) (M : Mem) (v : Val) (M' : Mem) : Prop :=
  ∃ r, CallR X f r ∧ ∀ ρ H xs (Q : VK), HR X.K fa ρ M H → RVs X.K fa ρ H as xs → (∀ z H', PoE X.K fa ρ H v M' z H' → Q z H') → r xs H (fun z H' => KF X.K H' → Q z H')
theorem lstOf_r {i : Nat} : lstOf M (.r i) = (match M[i]? with
  | some (.lst vs) => some vs
  | _ => none) := rfl
theorem len_ok {v : Val} {n : Nat} (h : lenV M v = some n) : Cal1 fa X (.builtin "len") [v] M (.d (.int n)) M := by
  refine ⟨_, call_len, fun ρ H xs Q hm rs q => ?_⟩
  cases rs with
  | cons rx rn =>
    cases rn
    rename_i x
    refine ⟨x, n, rfl, ?_, fun _ => q _ _ (PoE.here hm .int)⟩
    cases v with
    | d v =>
      cases rx with
      | str hl _ => exact ⟨by rw [s0_len, ← line_eq]; exact hl, by rw [s0_len]; exact (Option.some.inj h).symm⟩
      | tup hx _ rs => exact .inr ⟨_, hx, by rw [← rs.length]; exact (Option.some.inj h).symm⟩
      | lst hx _ rs => exact .inl ⟨_, .inl (.inl hx), by rw [← rs.length]; exact (Option.some.inj h).symm⟩
      | scr hx _ => exact .inl ⟨_, hx, by rw [List.length_map]; exact (Option.some.inj h).symm⟩
      | _ => cases h
    | r i =>
      have h' : (match M[i]? with
        | some (.lst vs) => some vs.length
        | _ => none) = some n := h
      split at h'
      · rename_i us q
        obtain ⟨a, vs, _, rfl, h1, r1⟩ := hm.lst q rx
        exact .inl ⟨vs, .inl (.inl h1), by rw [← r1.length]; exact (Option.some.inj h').symm⟩
      · cases h'
theorem one {as : List Val} {P : List V → Prop} {v : Val} (h : ∀ x, RV X.K fa ρ H v x → P [x]) {xs : List V} (r : RVs X.K fa ρ H [v] xs) : P xs := by
  cases r with
  | cons a b => cases b; exact h _ a
theorem biV_ok {z : Bool} {b : Bi} {as : List Val} {v : Val} (c : Cok fa X T nm k C) (h : biV z b as M = .ok v M') : Cal1 fa X (fnOf b) as M v M' := by
  unfold biV at h
  split at h
  · -- len
    obtain ⟨n, m, h1, h2⟩ := R.bind_ok h
    obtain ⟨h3, rfl⟩ := R.opt_ok h1
    cases h2
    exact len_ok h3
  · cases h
    refine ⟨_, call_int1, fun ρ H xs Q hm rs q => ?_⟩
    cases rs with | cons rx rn => cases rn; cases rx; exact .inl ⟨_, rfl, fun _ => q _ _ (PoE.here hm .int)⟩
  · cases h
    refine ⟨_, call_int1, fun ρ H xs Q hm rs q => ?_⟩
    cases rs with | cons rx rn => cases rn; cases rx; exact .inr ⟨_, rfl, fun _ => q _ _ (PoE.here hm .int)⟩
  · split at h
    · rename_i sx hz
      cases h
      refine ⟨_, call_int_str, fun ρ H xs Q hm rs q => ?_⟩
      cases rs with
      | cons rx rn =>
        cases rn; cases rx
        refine ⟨_, _, rfl, intText_digits (x := S0 sx) (fun c hc => ?_) ?_ ?_, ?_, fun _ => ?_⟩
        · rw [s0_list] at hc
          exact hz.2.2 c hc
        · rw [s0_list]; exact hz.1
        · rw [s0_len]; omega
        · rw [s0_len]; exact hz.2.1
        · rw [s0_list]
          exact q _ _ (PoE.here hm .int)
    · cases h
  · split at h
    · rename_i hz
      cases h
      refine ⟨_, call_str_int, fun ρ H xs Q hm rs q => ?_⟩
      cases rs with
      | cons rx rn =>
        cases rn; cases rx
        refine ⟨_, rfl, hz, fun _ => ?_⟩
        rw [← numText_eq]
        exact q _ _ (PoE.here hm (.str (numText_len hz) (numText_cp _)))
    · cases h
  · cases h
    refine ⟨_, call_abs, fun ρ H xs Q hm rs q => ?_⟩
    cases rs with | cons rx rn => cases rn; cases rx; exact ⟨_, rfl, fun _ => q _ _ (PoE.here hm .int)⟩
  · cases h
    refine ⟨_, call_tuple_of, fun ρ H xs Q hm rs q => ?_⟩
    cases rs with
    | cons rx rn =>
      cases rn
      cases rx with
      | tup hx nx r => exact ⟨_, _, rfl, .inr ⟨hx, fun _ => q _ _ (PoE.here hm (.tup hx nx r))⟩⟩
  · split at h
    · rename_i us qu
      split at h
      · rename_i ds qd
        cases h
        refine ⟨_, call_tuple_of, fun ρ H xs Q hm rs q => ?_⟩
        cases rs with
        | cons rx rn =>
          cases rn
          obtain ⟨p, vs, rfl, h1, r1⟩ := hm.lstOf qu rx
          exact ⟨_, _, rfl, .inl ⟨.inl (.inl h1), fun l hn kf => q _ _ (mk_tup hm (r1.ds qd) hn kf)⟩⟩
      · cases h
    · cases h
  · refine ⟨_, call_list_of, fun ρ H xs Q hm rs q => ?_⟩
    cases rs with
    | cons rx rn =>
      cases rn
      cases rx with
      | tup hx nx r => exact ⟨_, _, rfl, .inr hx, fun l hn kf => q _ _ (mk_list hm r.vs h hn kf)⟩
  · refine ⟨_, call_list_of, fun ρ H xs Q hm rs q => ?_⟩
    cases rs with
    | cons rx rn =>
      cases rn
      cases rx with
      | scr hx nx => exact ⟨_, _, rfl, .inl hx, fun l hn kf => q _ _ (mk_list hm (ints_vs _) h hn kf)⟩
  · split at h
    · rename_i us qu
      refine ⟨_, call_list_of, fun ρ H xs Q hm rs q => ?_⟩
      cases rs with
      | cons rx rn =>
        cases rn
        obtain ⟨p, vs, rfl, h1, r1⟩ := hm.lstOf qu rx
        exact ⟨_, _, rfl, .inl (.inl (.inl h1)), fun l hn kf => q _ _ (mk_list hm r1 h hn kf)⟩
    · cases h
  · obtain ⟨n, m, h1, h2⟩ := R.bind_ok h
    obtain ⟨h3, rfl⟩ := R.opt_ok h1
    cases h2
    rename_i w
    cases qu : lstOf M w with
    | none => rw [qu] at h3; cases h3
    | some us =>
      rw [qu] at h3
      refine ⟨_, cr_sum c.calm, fun ρ H xs Q hm rs q => ?_⟩
      cases rs with
      | cons rx rn =>
        cases rn
        obtain ⟨p, vs, rfl, h1, r1⟩ := hm.lstOf qu rx
        rw [ints_of r1 h3] at h1
        exact ⟨p, n, rfl, .inl (.inl h1), fun _ => q _ _ (PoE.here hm .int)⟩
  · obtain ⟨n, m, h1, h2⟩ := R.bind_ok h
    obtain ⟨h3, rfl⟩ := R.opt_ok h1
    cases h2
    rename_i w
    cases qu : lstOf M w with
    | none => rw [qu] at h3; cases h3
    | some us =>
      rw [qu] at h3
      refine ⟨_, cr_all c.calm, fun ρ H xs Q hm rs q => ?_⟩
      cases rs with
      | cons rx rn =>
        cases rn
        obtain ⟨p, vs, rfl, h1, r1⟩ := hm.lstOf qu rx
        rw [bls_of r1 h3] at h1
        exact ⟨p, n, rfl, .inl (.inl h1), fun _ => q _ _ (PoE.here hm .bl)⟩
  · obtain ⟨n, m, h1, h2⟩ := R.bind_ok h
    obtain ⟨h3, rfl⟩ := R.opt_ok h1
    cases h2
    rename_i w
    cases qu : lstOf M w with
    | none => rw [qu] at h3; cases h3
    | some us =>
      rw [qu] at h3
      refine ⟨_, cr_any c.calm, fun ρ H xs Q hm rs q => ?_⟩
      cases rs with
      | cons rx rn =>
        cases rn
        obtain ⟨p, vs, rfl, h1, r1⟩ := hm.lstOf qu rx
        rw [bls_of r1 h3] at h1
        exact ⟨p, n, rfl, .inl (.inl h1), fun _ => q _ _ (PoE.here hm .bl)⟩
  · cases h
    refine ⟨_, call_min2 c.calm, fun ρ H xs Q hm rs q => ?_⟩
    cases rs with | cons rx rn => cases rn with | cons ry rn => cases rn; cases rx; cases ry; exact ⟨_, _, rfl, fun _ => q _ _ (PoE.here hm .int)⟩
  · cases h
    refine ⟨_, call_max2 c.calm, fun ρ H xs Q hm rs q => ?_⟩
    cases rs with | cons rx rn => cases rn with | cons ry rn => cases rn; cases rx; cases ry; exact ⟨_, _, rfl, fun _ => q _ _ (PoE.here hm .int)⟩
  · cases h
    refine ⟨_, call_ord, fun ρ H xs Q hm rs q => ?_⟩
    cases rs with
    | cons rx rn =>
      cases rn; cases rx
      exact ⟨_, rfl, by simp [S0, Str.length], fun _ => q _ _ (PoE.here hm .int)⟩
  · -- repr
    split at h
    · rename_i x hz
      cases h
      refine ⟨_, cr_repr c.rm.g (by have := units_of c.rm c.k1; omega), fun ρ H xs Q hm rs q => ?_⟩
      cases rs with
      | cons rx rn =>
        cases rn
        refine ⟨_, D.py x, rfl, dp_of hz.1.1 rx, sh_py x hz.1.2, nd_py x, by rw [dep_of]; exact hz.2.1, ?_, fun _ => ?_⟩
        · rw [rp_eq x hz.1.1, s0_len, ← line_eq]; exact hz.2.2
        · rw [rp_eq x hz.1.1]
          exact q _ _ (PoE.here hm (.str hz.2.2 (rp_cp x hz.1.2)))
    · cases h
  · -- sorted
    obtain ⟨n, m, h1, h2⟩ := R.bind_ok h
    obtain ⟨h3, rfl⟩ := R.opt_ok h1
    rename_i w
    cases qu : lstOf M w with
    | none => rw [qu] at h3; cases h3
    | some us =>
      rw [qu] at h3
      split at h2
      · rename_i h64
        refine ⟨_, cr_sortedS, fun ρ H xs Q hm rs q => ?_⟩
        cases rs with
        | cons rx rn =>
          cases rn
          obtain ⟨p, vs, rfl, h1, r1⟩ := hm.lstOf qu rx
          obtain ⟨e1, e2⟩ := strs_of r1 h3
          have e3 := strs_of2 r1 h3
          rw [e1] at h1
          refine ⟨p, n.map S0, rfl, .inl (.inl h1), by rw [List.length_map]; exact h64, fun ys p hp hs hn kf => ?_⟩
          have ey := sorted_the hp hs
          subst ey
          exact q _ _ (mk_list hm (strs_vs fun s hs => e3 s ((sortS_perm n).mem_iff.mp hs)) h2 hn kf)
      · cases h2
  · -- min
    obtain ⟨n, m, h1, h2⟩ := R.bind_ok h
    obtain ⟨h3, rfl⟩ := R.opt_ok h1
    obtain ⟨i, m, h4, h2⟩ := R.bind_ok h2
    obtain ⟨h5, rfl⟩ := R.opt_ok h4
    cases h2
    rename_i w
    cases qu : lstOf M w with
    | none => rw [qu] at h3; cases h3
    | some us =>
      rw [qu] at h3
      refine ⟨_, cr_min c.calm, fun ρ H xs Q hm rs q => ?_⟩
      cases rs with
      | cons rx rn =>
        cases rn
        obtain ⟨p, vs, rfl, h1, r1⟩ := hm.lstOf qu rx
        rw [ints_of r1 h3] at h1
        cases n with
        | nil => cases h5
        | cons y ys =>
          obtain ⟨g1, g2⟩ := fold_min ys y
          have h6 : (ys.foldl (fun a b => if b < a then b else a) y) = i := Option.some.inj h5
          rw [h6] at g1 g2
          refine ⟨p, y :: ys, rfl, .inl (.inl h1), by simp, fun j j1 j2 _ => ?_⟩
          have e : j = i := by have a1 := j2 i g1; have a2 := g2 j j1; omega
          rw [e]
          exact q _ _ (PoE.here hm .int)
  · -- max
    obtain ⟨n, m, h1, h2⟩ := R.bind_ok h
    obtain ⟨h3, rfl⟩ := R.opt_ok h1
    obtain ⟨i, m, h4, h2⟩ := R.bind_ok h2
    obtain ⟨h5, rfl⟩ := R.opt_ok h4
    cases h2
    rename_i w
    cases qu : lstOf M w with
    | none => rw [qu] at h3; cases h3
    | some us =>
      rw [qu] at h3
      refine ⟨_, cr_max c.calm, fun ρ H xs Q hm rs q => ?_⟩
      cases rs with
      | cons rx rn =>
        cases rn
        obtain ⟨p, vs, rfl, h1, r1⟩ := hm.lstOf qu rx
        rw [ints_of r1 h3] at h1
        cases n with
        | nil => cases h5
        | cons y ys =>
          obtain ⟨g1, g2⟩ := fold_max ys y
          have h6 : (ys.foldl (fun a b => if a < b then b else a) y) = i := Option.some.inj h5
          rw [h6] at g1 g2
          refine ⟨p, y :: ys, rfl, .inl (.inl h1), by simp, fun j j1 j2 _ => ?_⟩
          have e : j = i := by have a1 := j2 i g1; have a2 := g2 j j1; omega
          rw [e]
          exact q _ _ (PoE.here hm .int)
  · cases h
end
end Rf

namespace Rf
open PySem PySem.Spec PyProof.Rows L2
section
variable {fa : Nat → Addr} {X : Cx} {T : Tab} {nm : Nms} {k : Nat} {C : Cal}
variable {ρ ρ1 : Wd} {H H1 H2 : Hp} {M M' : Mem}
/-! ### calls of built-in functions, of methods, of own defs -/
theorem look_mem {α : Type} {x : Str} {b : α} : ∀ {l : List (Str × α)}, l.lookup x = some b → (x, b) ∈ l
  | [], h => by cases h
  | (y, c) :: r, h => by
    rw [List.lookup_cons] at h
    split at h
    · rename_i e
      cases h
      rw [eq_of_beq e]
      exact List.mem_cons_self
    · exact List.mem_cons_of_mem _ (look_mem h)
theorem boot1_all : (bi1T.all fun p => decide (bootBuiltins p.1 = some (fnOf p.2))) = true := by decide +kernel
theorem boot2_all : (bi2T.all fun p => decide (bootBuiltins p.1 = some (fnOf p.2))) = true := by decide +kernel
theorem boot1 {x : Str} {b : Bi} (h : bi1 x = some b) : bootBuiltins x = some (fnOf b) := of_decide_eq_true (List.all_eq_true.mp boot1_all (x, b) (look_mem h))
theorem boot2 {x : Str} {b : Bi} (h : bi2 x = some b) : bootBuiltins x = some (fnOf b) := of_decide_eq_true (List.all_eq_true.mp boot2_all (x, b) (look_mem h))
theorem snd_bi {x : Str} {p pos : Pos} {e : Expr} {es : List Expr} {z : Bool} {b : Bi} {f : Expr → Option Ex} {xs : Exs} (c : Cok fa X T nm k C) (hx : isFr T nm x = true) (hv : bootBuiltins x = some (fnOf b)) (hc : cL f (e :: es) = some xs) (h : SndA fa X (e :: es) (evEs C xs)) :
    SndE fa X (.Call (.Name x p) (e :: es) [] pos) (evE C (.bi z b xs)) := by
  intro s σ ρ M H v M' hs hm q
  obtain ⟨as, m1, q1, q⟩ := R.bind_ok q
  obtain ⟨g1, g2, g3, g4⟩ := fr_of c hx
  obtain ⟨r, hr, fin⟩ := biV_ok c q
  have hok := cL_ok hc
  have st := ok_star (hok e List.mem_cons_self) es X.env
  have an : (backTo pos (starEach es X.env)).any (·.1) = false := any_ok fun y hy => hok y (List.mem_cons_of_mem _ hy)
  have go : ∀ t, tCB r (seA X (e :: es)) σ H t → PE X (.Call (.Name x p) (e :: es) [] pos) (tCB r (seA X (e :: es))) → seE X (.Call (.Name x p) (e :: es) [] pos) σ H t := fun t a b => ofE b a
  refine seE.kfo (go _ ?_ ?_)
  · refine (h s σ ρ M H as m1 hs hm q1).thn fun ys H1 kf ⟨ρ1, g1, hm1, r1⟩ => ?_
    exact fin ρ1 H1 ys _ hm1 r1 fun z H' po => po.back g1
  · cases b with
    | len => exact pe_callB hr g1 g3 hv (pA _) g4 g2 st an
    | int => exact pe_callTy hr g1 g3 hv (pA _) g4 g2 st an
    | str => exact pe_callTy hr g1 g3 hv (pA _) g4 g2 st an
    | abs => exact pe_callB hr g1 g3 hv (pA _) g4 g2 st an
    | tuple => exact pe_callTy hr g1 g3 hv (pA _) g4 g2 st an
    | list => exact pe_callTy hr g1 g3 hv (pA _) g4 g2 st an
    | sorted => exact pe_callB hr g1 g3 hv (pA _) g4 g2 st an
    | sum => exact pe_callB hr g1 g3 hv (pA _) g4 g2 st an
    | all => exact pe_callB hr g1 g3 hv (pA _) g4 g2 st an
    | any => exact pe_callB hr g1 g3 hv (pA _) g4 g2 st an
    | min2 => exact pe_callB hr g1 g3 hv (pA _) g4 g2 st an
    | max2 => exact pe_callB hr g1 g3 hv (pA _) g4 g2 st an
    | min => exact pe_callB hr g1 g3 hv (pA _) g4 g2 st an
    | max => exact pe_callB hr g1 g3 hv (pA _) g4 g2 st an
    | repr => exact pe_callB hr g1 g3 hv (pA _) g4 g2 st an
    | ord => exact pe_callB hr g1 g3 hv (pA _) g4 g2 st an
    | bool => exact pe_callTy hr g1 g3 hv (pA _) g4 g2 st an
    | dict => exact pe_callTy hr g1 g3 hv (pA _) g4 g2 st an
/-- a def, called -/
theorem snd_call {x : Str} {p pos : Pos} {es : List Expr} {g np : Nat} {f : Expr → Option Ex} {xs : Exs} (c : Cok fa X T nm k C) (hx : isGl T nm x = true) (hg : T.fid.lookup x = some (g, np)) (hn : es.length = np) (hc : cL f es = some xs) (h : SndA fa X es (evEs C xs)) :
    SndE fa X (.Call (.Name x p) es [] pos) (evE C (.call g xs)) := by
  intro s σ ρ M H v M' hs hm q
  obtain ⟨as, m1, q1, q⟩ := R.bind_ok q
  obtain ⟨g1, g2⟩ := gl_of c hx
  obtain ⟨f1, f2, f3⟩ := c.fn x g np hg
  have hok := cL_ok hc
  have hl : as.length = np := (len_cL hc q1).trans hn
  have core : ∀ {pins : List (Addr × Obj)} {s' : Shared} {us : List Value} {vs : List V} {H1 : Hp} {ρ1 : Wd}, Inv X pins σ H1 s' → Vals vs us → Go ρ H ρ1 H1 → HR X.K fa ρ1 m1 H1 → RVs X.K fa ρ1 H1 as vs →
      wpAny (model X.prog X.w) X.A (PySem.call (.ref (fa g)) us) (EP X pins σ (PoE X.K fa ρ H v M')) X.xe s' := by
    intro pins s' us vs H1 ρ1 I rv gg hm1 r1
    refine wpAny_call (codeAny_mono (f3 X.A X.stack s' H1 us vs as ρ1 m1 v M' c.rm I.env0 rv r1 hm1 hl q) fun r s2 hq => ?_)
    cases r with
    | error e => exact hq.elim
    | ok fl =>
      cases fl with
      | ret u =>
        obtain ⟨w, H', i1, i2, pins', I', po⟩ := (show EP X pins σ (PoE X.K fa ρ1 H1 v M') u s2 from I.after hq) |> fun ⟨w, H', I', r, po⟩ => (⟨w, H', r, po, pins, I', po⟩ : ∃ w H', RelV w u ∧ PoE X.K fa ρ1 H1 v M' w H' ∧ ∃ pins' : List (Addr × Obj), Inv X pins σ H' s2 ∧ PoE X.K fa ρ1 H1 v M' w H')
        exact ⟨w, H', I', i1, po.back gg⟩
      | next => exact hq.elim
      | brk => exact hq.elim
      | cont => exact hq.elim
  intro pins s0 I
  refine wpAny_Call_Name_kw (ld_glob I g1 f1 ?_ g2)
  cases es with
  | nil =>
    cases hc
    cases q1
    exact PySem.W.callWith_K0 I.kIn f2 (core I .nil Go.refl hm .nil)
  | cons e es =>
    have st := ok_star (hok e List.mem_cons_self) es X.env
    have an : (backTo pos (starEach es X.env)).any (·.1) = false := any_ok fun y hy => hok y (List.mem_cons_of_mem _ hy)
    refine PySem.W.callWith_K (h₀ := X.base) I.ok.mod.kin f2 (L2.thn ((h s σ ρ M H as m1 hs hm q1) pos pins s0 I) fun us s1 ⟨vs, H1, I1, rv, ρ1, gg, hm1, r1⟩ => ⟨I1.kIn, ?_⟩) st an
    exact core I1 rv gg hm1 r1
/-! methods -/
def mtName : Mt → Str
  | .join => "join"
  | .zfill => "zfill"
  | .index => "index"
  | .append => "append"
  | .extend => "extend"
  | .pop => "pop"
  | .popAt => "pop"
  | .get => "get"
  | .values => "values"
  | .split => "split"
  | .upper => "upper"
structure MtF (fa : Nat → Addr) (X : Cx) (name : Str) (o : Val) (as : List Val) (M : Mem) (v : Val) (M' : Mem) (Ty : String) (id : String) (r : V → List V → Hp → VK → Prop) : Prop where
  pa : PlainAttrs Ty
  sl : Slot Ty name id
  ty : typeOf (.builtin id) = pure (.type "method_descriptor")
  mt : MtR X id r
  tv : ∀ ρ M0 H x, HR X.K fa ρ M0 H → RV X.K fa ρ H o x → tyV X.K Ty x H
  rd : ∀ ρ H x xs (Q : VK), HR X.K fa ρ M H → RV X.K fa ρ H o x → RVs X.K fa ρ H as xs → (∀ z H', PoE X.K fa ρ H v M' z H' → Q z H') → r x xs H (fun z H' => KF X.K H' → Q z H')
theorem tv_str {s : List Nat} : ∀ ρ M0 H x, HR X.K fa ρ M0 H → RV X.K fa ρ H (.d (.str s)) x → tyV X.K "str" x H := by
  intro ρ M0 H x hm r
  cases r
  rfl
theorem tv_ref {i : Nat} : ∀ ρ M0 H x, HR X.K fa ρ M0 H → RV X.K fa ρ H (.r i) x → tyV X.K "list" x H := by
  intro ρ M0 H x hm r
  obtain ⟨a, e, rfl⟩ := r
  have hi : i < M0.length := by rw [← hm.len]; exact (List.getElem?_eq_some_iff.mp e).1
  obtain ⟨o, eo⟩ : ∃ o, M0[i]? = some o := ⟨_, List.getElem?_eq_getElem hi⟩
  have q := hm.at_ i a o e eo
  cases o with
  | lst us => obtain ⟨vs, h1, _⟩ := q; exact .inl ⟨rfl, vs, .inl (.inl h1)⟩
  | dct _ => exact q.elim
  | ins _ _ => exact q.elim
theorem set_mem {i : Nat} {us us' : List Val} (hm : HR X.K fa ρ M H) {x : V} (qi : M[i]? = some (.lst us)) (rx : RV X.K fa ρ H (.r i) x) {vs vs' : List V} {a : Addr} (e : ρ.l[i]? = some a) (h1 : H a = some (.lst vs)) (kf : KF X.K (upd H a (.lst vs')))
    (r : RVs X.K fa ρ H us' vs') {v : Val} {y : V} (rv : RV X.K fa ρ H v y) : PoE X.K fa ρ H v (M.set i (.lst us')) y (upd H a (.lst vs')) :=
  let ⟨h2, g⟩ := hm.write (us := us) (vs := vs) e h1 r
  ⟨ρ, g, h2, rv.go g⟩
/-! cutting a text at a sign -/
theorem split_free0 {c : Nat} : ∀ {p : List Nat}, c ∉ p → splitC c p = [p]
  | [], _ => rfl
  | x :: r, h => by
    have h1 : x ≠ c := fun e => h (by rw [e]; exact List.mem_cons_self)
    have h2 : c ∉ r := fun m => h (List.mem_cons_of_mem _ m)
    show (if x = c then _ else _) = _
    rw [if_neg h1, split_free0 h2]
theorem split_step {c : Nat} {t : List Nat} : ∀ {p : List Nat}, c ∉ p → splitC c (p ++ c :: t) = p :: splitC c t
  | [], _ => by
    show (if c = c then _ else _) = _
    rw [if_pos rfl]
  | x :: r, h => by
    have h1 : x ≠ c := fun e => h (by rw [e]; exact List.mem_cons_self)
    have h2 : c ∉ r := fun m => h (List.mem_cons_of_mem _ m)
    show (if x = c then _ else _) = _
    rw [if_neg h1]
    have e : splitC c (r.append (c :: t)) = r :: splitC c t := split_step h2
    rw [e]
theorem split_join {c : Nat} : ∀ {ps : List (List Nat)}, ps ≠ [] → (∀ p ∈ ps, c ∉ p) → splitC c (joinL [c] ps) = ps
  | [], h, _ => absurd rfl h
  | [p], _, h => split_free0 (h p (by simp))
  | p :: q :: r, _, h => by
    show splitC c (p ++ [c] ++ joinL [c] (q :: r)) = _
    rw [List.append_assoc, List.singleton_append, split_step (h p (by simp)), split_join (by simp) fun x hx => h x (List.mem_cons_of_mem _ hx)]
theorem split_ne (x y : Str) : Txt.split x y ≠ [] := by
  unfold Txt.split
  split
  · simp
  · split
    · simp
    · intro e
      have e1 := length_partsBetween x (Builtin.Str.occurrences x y 0 x.length (x.length + 1)) y.length
      rw [e] at e1
      simp at e1
theorem split_eq (s : List Nat) (c : Nat) : Txt.split (S0 s) (S0 [c]) = (splitC c s).map S0 := by
  have h1 : Str.join (S0 [c]) (Txt.split (S0 s) (S0 [c])) = S0 s := StrLaws.join_split _ _
  have h2 : ∀ p ∈ Txt.split (S0 s) (S0 [c]), c ∉ p.cps.toList := StrLaws.split_free (S0 s) c
  have h3 := split_ne (S0 s) (S0 [c])
  generalize Txt.split (S0 s) (S0 [c]) = l at h1 h2 h3 ⊢
  rw [← s0_back l, join_eq] at h1
  have h4 := s0_inj h1
  rw [← h4, split_join (by simpa using h3) (fun p hp => by
    obtain ⟨y, hy, e⟩ := List.mem_map.mp hp
    rw [← e]; exact h2 y hy), s0_back]
theorem split_mem {c : Nat} : ∀ {s p : List Nat}, p ∈ splitC c s → p.length ≤ s.length ∧ ∀ x ∈ p, x ∈ s
  | [], p, h => by
    have e : p = [] := by simpa [splitC] using h
    rw [e]; exact ⟨Nat.le_refl _, fun _ h => h⟩
  | x :: r, p, h => by
    have h' : p ∈ (if x = c then [] :: splitC c r else match splitC c r with
      | [] => [[x]]
      | y :: ys => (x :: y) :: ys) := h
    split at h'
    · rcases List.mem_cons.mp h' with e | h'
      · rw [e]; exact ⟨Nat.zero_le _, fun _ h => by cases h⟩
      · obtain ⟨a, b⟩ := split_mem h'
        exact ⟨Nat.le_succ_of_le a, fun z hz => List.mem_cons_of_mem _ (b z hz)⟩
    · split at h'
      · have e : p = [x] := by simpa using h'
        rw [e]; exact ⟨by simp, fun z hz => by simp at hz; rw [hz]; exact List.mem_cons_self⟩
      · rename_i y ys q
        rcases List.mem_cons.mp h' with e | h'
        · obtain ⟨a, b⟩ := split_mem (c := c) (s := r) (p := y) (by rw [q]; exact List.mem_cons_self)
          rw [e]
          refine ⟨by simpa using a, fun z hz => ?_⟩
          rcases List.mem_cons.mp hz with e2 | hz
          · rw [e2]; exact List.mem_cons_self
          · exact List.mem_cons_of_mem _ (b z hz)
        · obtain ⟨a, b⟩ := split_mem (c := c) (s := r) (p := p) (by rw [q]; exact List.mem_cons_of_mem _ h')
          exact ⟨Nat.le_succ_of_le a, fun z hz => List.mem_cons_of_mem _ (b z hz)⟩
theorem datas_strs : ∀ l : List (List Nat), datas (l.map fun s => .d (.str s)) = some (l.map .str)
  | [] => rfl
  | s :: l => by
    show (match datas (l.map fun s => Val.d (.str s)) with
      | some xs => some (D.str s :: xs)
      | none => none) = _
    rw [datas_strs l]; rfl
theorem up_eq : ∀ c, PyProof.Rows.up1 c = upC c := fun c => rfl
theorem upper_eq {s : List Nat} (h : ∀ c ∈ s, c < 128) : Txt.upper (S0 s) = S0 (s.map upC) := by
  rw [PyProof.Rows.upper_ascii (by rw [s0_list]; exact h)]
  apply Str.ext'
  simp [S0, up_eq]
theorem upC_lt {c : Nat} (h : c < 128) : upC c < 0x110000 := by
  unfold upC; split <;> omega
theorem mtV_ok {mt : Mt} {o : Val} {as : List Val} {v : Val} (h : mtV mt o as M = .ok v M') : ∃ Ty id r, MtF fa X (mtName mt) o as M v M' Ty id r := by
  unfold mtV at h
  split at h
  · -- join
    rename_i sep w
    obtain ⟨ss, m, h1, h2⟩ := R.bind_ok h
    obtain ⟨h3, rfl⟩ := R.opt_ok h1
    split at h2
    · rename_i hz
      cases h2
      refine ⟨_, _, _, PySem.F.plainAttrs_str, PySem.F.slot_str_join, PySem.F.type_str_join, mt_join, tv_str, fun ρ H x xs Q hm rx rs q => ?_⟩
      cases qu : seqOf M w with
      | none => rw [qu] at h3; cases h3
      | some us =>
        rw [qu] at h3
        cases rs with
        | cons ry rn =>
          cases rn
          cases rx with
          | str _ cs =>
            have fin : ∀ {p : Addr} {vs : List V}, (SqL X.K H p vs ∨ SqT X.K H p vs) → RVs X.K fa ρ H us vs → ∃ a p', ∃ ys : List Str, V.str (S0 sep) = .str a ∧ [V.ref p] = [.ref p'] ∧ (SqL X.K H p' (ys.map V.str) ∨ SqT X.K H p' (ys.map V.str)) ∧ (ys.map (·.length)).sum + ys.length * a.length ≤ 16777216 ∧ (KF X.K H → Q (.str (Txt.join a ys)) H) := by
              intro p vs hp r1
              obtain ⟨e1, e2⟩ := strs_of r1 h3
              rw [e1] at hp
              refine ⟨_, p, ss.map S0, rfl, rfl, hp, ?_, fun _ => ?_⟩
              · rw [sum_s0, List.length_map, s0_len]; exact hz
              · have e : Txt.join (S0 sep) (ss.map S0) = S0 (joinL sep ss) := by
                  show Builtin.Str.glued (S0 sep) (ss.map S0) = _
                  rw [StrLaws.glued_eq_join, join_eq]
                rw [e]
                exact q _ _ (PoE.here hm (.str (Nat.le_trans (join_len sep ss) hz) (join_cp cs e2)))
            cases w with
            | r i =>
              obtain ⟨p, vs, rfl, h1, r1⟩ := hm.lstOf (x := .r i) qu ry
              exact fin (.inl (.inl (.inl h1))) r1
            | d w =>
              cases w with
              | tup ds =>
                cases qu
                cases ry with
                | tup hx nx r => exact fin (.inr hx) r.vs
              | lst ds =>
                obtain ⟨p, vs, rfl, h1, r1⟩ := hm.lstOf (x := .d (.lst ds)) qu ry
                exact fin (.inl (.inl (.inl h1))) r1
              | _ => cases qu
    · cases h2
  · -- zfill
    split at h
    · rename_i s n hz
      cases h
      refine ⟨_, _, _, PySem.F.plainAttrs_str, PySem.F.slot_str_zfill, PySem.F.type_str_zfill, mt_zfill, tv_str, fun ρ H x xs Q hm rx rs q => ?_⟩
      cases rs with
      | cons ry rn =>
        cases rn; cases ry
        cases rx with
        | str _ cs =>
          refine ⟨_, n, rfl, rfl, ?_, fun _ => ?_⟩
          · have hz1 := hz.1
            unfold PadOk
            rw [Bool.and_eq_true]
            refine ⟨?_, ?_⟩
            · unfold fitsSsize
              simp only [Bool.and_eq_true, Bool.not_eq_true', Bool.or_eq_false_iff, decide_eq_true_eq, decide_eq_false_iff_not]
              omega
            · have : Builtin.Str.tooLong n.toNat = false := by
                unfold Builtin.Str.tooLong
                rw [decide_eq_false_iff_not, sizeLine_eq]
                omega
              rw [this]; rfl
          · rw [zfill_eq hz.1.2 hz.2.2]
            refine q _ _ (PoE.here hm (.str ?_ fun c hc => ?_))
            · unfold padZ
              rw [List.length_append, List.length_replicate]
              have : LINE = 16777216 := rfl
              omega
            · unfold padZ at hc
              rcases List.mem_append.mp hc with hc | hc
              · have := (List.mem_replicate.mp hc).2
                omega
              · have := hz.2.2 c hc
                omega
    · cases h
  · -- index
    rename_i s x
    obtain ⟨n, m, h1, h2⟩ := R.bind_ok h
    obtain ⟨h3, rfl⟩ := R.opt_ok h1
    cases h2
    refine ⟨_, _, _, PySem.F.plainAttrs_str, PySem.F.slot_str_index, PySem.F.type_str_index, mt_sindex, tv_str, fun ρ H y xs Q hm rx rs q => ?_⟩
    cases rs with
    | cons ry rn =>
      cases rn; cases ry; cases rx
      unfold firstAt at h3
      cases qo : Builtin.Str.occurrences (S0 s) (S0 x) 0 s.length 1 with
      | nil =>
        have h3' : (Builtin.Str.occurrences (S0 s) (S0 x) 0 s.length 1).head? = some n := h3
        rw [qo] at h3'; cases h3'
      | cons i rest =>
        have h3' : (Builtin.Str.occurrences (S0 s) (S0 x) 0 s.length 1).head? = some n := h3
        rw [qo] at h3'
        cases h3'
        exact ⟨_, _, n, rest, rfl, rfl, by rw [s0_len]; exact qo, fun _ => q _ _ (PoE.here hm .int)⟩
  · -- append
    rename_i i w
    split at h
    · rename_i us qi
      split at h
      · rename_i hz
        cases h
        refine ⟨_, _, _, PySem.F.plainAttrs_list, PySem.F.slot_list_append, PySem.F.type_list_append, mt_append, tv_ref, fun ρ H x xs Q hm rx rs q => ?_⟩
        cases rs with
        | cons ry rn =>
          cases rn
          obtain ⟨a, vs, e, rfl, h1, r1⟩ := hm.lst qi rx
          refine ⟨a, vs, _, rfl, rfl, h1, ?_, fun kf => q _ _ (set_mem hm qi rx e h1 kf (r1.append (.cons ry .nil)) .non)⟩
          rw [← r1.length, ← line_eq]
          exact hz
      · cases h
    · cases h
  · -- pop
    rename_i i
    split at h
    · rename_i us qi
      obtain ⟨w, m, h1, h2⟩ := R.bind_ok h
      obtain ⟨h3, rfl⟩ := R.opt_ok h1
      cases h2
      refine ⟨_, _, _, PySem.F.plainAttrs_list, PySem.F.slot_list_pop, PySem.F.type_list_pop, mt_pop, tv_ref, fun ρ H x xs Q hm rx rs q => ?_⟩
      cases rs
      obtain ⟨a, vs, e, rfl, h1, r1⟩ := hm.lst qi rx
      rw [List.getLast?_eq_getElem?] at h3
      obtain ⟨y, e1, e2⟩ := r1.get h3
      have tk : RVs X.K fa ρ H us.dropLast vs.dropLast := by
        rw [List.dropLast_eq_take, List.dropLast_eq_take, ← r1.length]
        exact r1.take _
      rw [r1.length] at e1
      exact ⟨a, vs, y, rfl, rfl, h1, e1, fun kf => q _ _ (set_mem hm qi rx e h1 kf tk e2)⟩
    · cases h
  · -- pop(k)
    rename_i i n
    split at h
    · rename_i us qi
      split at h
      · rename_i hn
        obtain ⟨w, m, h1, h2⟩ := R.bind_ok h
        obtain ⟨h3, rfl⟩ := R.opt_ok h1
        cases h2
        refine ⟨_, _, _, PySem.F.plainAttrs_list, PySem.F.slot_list_pop, PySem.F.type_list_pop, mt_popAt, tv_ref, fun ρ H x xs Q hm rx rs q => ?_⟩
        cases rs with
        | cons ry rn =>
          cases rn; cases ry
          obtain ⟨a, vs, e, rfl, hh, r1⟩ := hm.lst qi rx
          cases qj : ixOf us.length n with
          | none => rw [qj] at h3; cases h3
          | some j =>
            rw [qj] at h3
            have h4 : (us[j]?).map (fun v => (j, v)) = some w := h3
            cases qv : us[j]? with
            | none => rw [qv] at h4; cases h4
            | some u =>
              rw [qv] at h4
              cases h4
              obtain ⟨y, e1, e2⟩ := r1.get qv
              have s1 : seqIndex? n vs.length = some j := by
                rw [← r1.length]
                exact (L2.ixN_seq (show L2.ixN us.length n = some j from qj)).1
              have er : ∀ {us : List Val} {vs : List V} (j : Nat), RVs X.K fa ρ H us vs → RVs X.K fa ρ H (us.eraseIdx j) (vs.eraseIdx j) := by
                intro us vs j r
                rw [List.eraseIdx_eq_take_drop_succ, List.eraseIdx_eq_take_drop_succ]
                exact (r.take _).append (r.drop _)
              exact ⟨a, vs, n, j, y, rfl, rfl, hh, by omega, by omega, s1, e1, fun kf => q _ _ (set_mem hm qi rx e hh kf (er j r1) e2)⟩
      · cases h
    · cases h
  · -- upper
    rename_i s
    split at h
    · rename_i hz
      cases h
      refine ⟨_, _, _, PySem.F.plainAttrs_str, PySem.F.slot_str_upper, PySem.F.type_str_upper, mt_upper, tv_str, fun ρ H x xs Q hm rx rs q => ?_⟩
      cases rs
      cases rx with
      | str hl cs =>
        refine ⟨_, rfl, rfl, by rw [s0_len]; omega, fun _ => ?_⟩
        rw [upper_eq hz.2]
        refine q _ _ (PoE.here hm (.str (by rw [List.length_map]; exact hl) fun c hc => ?_))
        obtain ⟨d, hd, e⟩ := List.mem_map.mp hc
        rw [← e]; exact upC_lt (hz.2 d hd)
    · cases h
  · -- split
    rename_i s c
    split at h
    · rename_i hz
      cases h
      refine ⟨_, _, _, PySem.F.plainAttrs_str, PySem.F.slot_str_split, PySem.F.type_str_split, mt_split, tv_str, fun ρ H x xs Q hm rx rs q => ?_⟩
      cases rs with
      | cons ry rn =>
        cases rn; cases ry
        cases rx with
        | str hl cs =>
          refine ⟨_, _, rfl, rfl, by simp [S0, Str.length], by rw [s0_len, ← line_eq]; exact hz, fun p hn kf => ?_⟩
          rw [split_eq] at kf ⊢
          refine q _ _ (mk_list (z := true) hm (strs_vs fun t ht => ?_) ?_ hn kf)
          · obtain ⟨a, b⟩ := split_mem ht
            exact ⟨Nat.le_trans a hl, fun z hz => cs z (b z hz)⟩
          · show (match datas _ with
              | some ds => R.ok (Val.d (.lst ds)) M
              | none => .no) = _
            rw [datas_strs]
    · cases h
  · -- extend
    rename_i i w
    split at h
    · rename_i us qi
      split at h
      · rename_i ys qy
        split at h
        · rename_i hz
          cases h
          refine ⟨_, _, _, PySem.F.plainAttrs_list, PySem.F.slot_list_extend, PySem.F.type_list_extend, mt_extend, tv_ref, fun ρ H x xs Q hm rx rs q => ?_⟩
          cases rs with
          | cons ry rn =>
            cases rn
            obtain ⟨a, vs, e, rfl, h1, r1⟩ := hm.lst qi rx
            obtain ⟨b, ws, rfl, h2, r2⟩ := hm.lstOf qy ry
            refine ⟨a, b, vs, ws, rfl, rfl, h1, h2, ?_, fun kf => q _ _ (set_mem hm qi rx e h1 kf (r1.append r2) .non)⟩
            rw [← r1.length, ← r2.length, ← line_eq]
            exact hz
        · cases h
      · cases h
    · cases h
  · cases h
end
end Rf

namespace Rf
open PySem PySem.Spec PyProof.Rows L2
section
variable {fa : Nat → Addr} {X : Cx} {T : Tab} {nm : Nms} {k : Nat} {C : Cal}
variable {ρ ρ1 : Wd} {H H1 H2 : Hp} {M M' : Mem}
theorem mt0_name {x : Str} {m : Mt} (h : mt0 x = some m) : x = mtName m := by
  have := look_mem h
  simp only [mt0T, List.mem_cons, List.not_mem_nil, or_false, Prod.mk.injEq] at this
  rcases this with ⟨rfl, rfl⟩ | ⟨rfl, rfl⟩ <;> rfl
theorem mt1_name {x : Str} {m : Mt} (h : mt1 x = some m) : x = mtName m := by
  have := look_mem h
  simp only [mt1T, List.mem_cons, List.not_mem_nil, or_false, Prod.mk.injEq] at this
  rcases this with ⟨rfl, rfl⟩ | ⟨rfl, rfl⟩ | ⟨rfl, rfl⟩ | ⟨rfl, rfl⟩ | ⟨rfl, rfl⟩ | ⟨rfl, rfl⟩ | ⟨rfl, rfl⟩ <;> rfl
/-- is o asked as it stands (no super())? -/
def notC0 : Expr → Bool
  | .Call (.Name _ _) [] [] _ => false
  | _ => true
theorem base_ok {o : Expr} (h : notC0 o = true) (a : Str) (env : Env) : attributeBase o a env (eval o env) = eval o env := by
  unfold attributeBase
  split
  · cases h
  · rfl
theorem snd_mth0 {o : Expr} {a : Str} {ap p : Pos} {mt : Mt} {x : Ex} (hb : notC0 o = true) (hl : (ap.endLine == p.line) = true) (hn : a = mtName mt) (h1 : SndE fa X o (evE C x)) : SndE fa X (.Call (.Attribute o a ap) [] [] p) (evE C (.mth mt x .nil)) := by
  intro s σ ρ M H v M' hs hm q
  obtain ⟨u, m1, q1, q⟩ := R.bind_ok q
  obtain ⟨as, m2, q2, q⟩ := R.bind_ok q
  cases q2
  obtain ⟨Ty, id, r, f⟩ := mtV_ok (fa := fa) (X := X) q
  subst hn
  refine seE.kfo (ofE (pe_bm0 f.pa f.sl f.ty f.mt (pE o) (base_ok hb _ _) hl) ?_)
  refine (h1 s σ ρ M H u m1 hs hm q1).thn fun y H1 kf ⟨ρ1, g1, hm1, r1⟩ => ⟨f.tv ρ1 m1 H1 y hm1 r1, ?_⟩
  exact f.rd ρ1 H1 y [] _ hm1 r1 .nil fun z H' po => po.back g1
theorem go_mem {C : Cal} : True := trivial
theorem snd_mth1 {o e : Expr} {a : Str} {ap p : Pos} {mt : Mt} {x y : Ex} {f : Expr → Option Ex} (hb : notC0 o = true) (hl : (ap.endLine == p.line) = true) (hn : a = mtName mt) (hk : okE e = true) (h1 : SndE fa X o (evE C x)) (h2 : SndE fa X e (evE C y)) :
    SndE fa X (.Call (.Attribute o a ap) [e] [] p) (evE C (.mth mt x (.cons y .nil))) := by
  intro s σ ρ M H v M' hs hm q
  obtain ⟨u, m1, q1, q⟩ := R.bind_ok q
  obtain ⟨as, m2, q2, q⟩ := R.bind_ok q
  obtain ⟨w, m3, q3, q2⟩ := R.bind_ok q2
  cases q2
  obtain ⟨Ty, id, r, f⟩ := mtV_ok (fa := fa) (X := X) q
  subst hn
  have st := ok_star hk [] X.env
  have few : ((backTo p (starEach [e] X.env)).all (fun x => !x.1) && (backToKw p (keywordEach [] X.env)).all (fun x => x.1.isSome) && decide (([e] : List Expr).length + ([] : List Keyword).length + (if ([] : List Keyword).isEmpty then 0 else 1) < 30)) = true := by
    rw [st]
    rfl
  refine seE.kfo (ofE (pe_bm f.pa f.sl f.ty f.mt (pE o) (pA [e]) (base_ok hb _ _) few hl st rfl) ?_)
  refine (h1 s σ ρ M H u m1 hs hm q1).thn fun y H1 kf ⟨ρ1, g1, hm1, r1⟩ => ⟨?_, ?_⟩
  · exact f.tv ρ1 m1 H1 y hm1 r1
  · refine (snd_cons hk h2 snd_nil s σ ρ1 m1 H1 [w] m2 (hs.go g1) hm1 (by show (evE C _ s m1).bind _ = _; rw [q3]; rfl)).thn fun ys H2 kf ⟨ρ2, g2, hm2, r2⟩ => ?_
    exact f.rd ρ2 H2 y ys _ hm2 (r1.go g2) r2 fun z H' po => po.back (g1.trans g2)
/-! ### isinstance -/
def tyStr : Ty → String
  | .int => "int"
  | .str => "str"
  | .bool => "bool"
  | .tuple => "tuple"
  | .list => "list"
  | .dict => "dict"
  | .cls _ => "object"
def kdStr : Kd → String
  | .non => "NoneType"
  | .bool => "bool"
  | .int => "int"
  | .str => "str"
  | .tuple => "tuple"
  | .list => "list"
  | .dict => "dict"
def isB : Ty → Bool
  | .cls _ => false
  | _ => true
theorem kit_all : ([Kd.non, .bool, .int, .str, .tuple, .list, .dict].all fun k => [Ty.int, .str, .bool, .tuple, .list, .dict].all fun t => decide (L2.kitB (kdStr k) (tyStr t) = some (tyB t k))) = true := by decide +kernel
theorem kit1 (K : PySem.W.Frag) (k : Kd) (t : Ty) (h : isB t = true) : PySem.W.kitOne K (.type (kdStr k)) (.type (tyStr t)) = some (tyB t k) := by
  refine L2.kit_ty ?_
  have h1 : k ∈ [Kd.non, .bool, .int, .str, .tuple, .list, .dict] := by cases k <;> simp
  have h2 : t ∈ [Ty.int, .str, .bool, .tuple, .list, .dict] := by cases t <;> first | (simp; done) | cases h
  exact of_decide_eq_true (List.all_eq_true.mp (List.all_eq_true.mp kit_all k h1) t h2)
theorem kits (K : PySem.W.Frag) (k : Kd) : ∀ ts : List Ty, ts.all isB = true → PySem.W.kitAny K (.type (kdStr k)) (ts.map fun t => .type (tyStr t)) = some (ts.any fun t => tyB t k)
  | [], _ => rfl
  | t :: r, h => by
    simp only [List.all_cons, Bool.and_eq_true] at h
    rw [List.map_cons, List.any_cons]
    refine L2.kitAny_cons (b := tyB t k) (kit1 K k t h.1) (fun e => ?_) (fun e => ?_)
    · rw [kits K k r h.2, e]; rfl
    · rw [e]; rfl
theorem tyx_of (hm : HR X.K fa ρ M H) {v : Val} {x : V} {k : Kd} (h : kdOf M v = some k) (r : RV X.K fa ρ H v x) : TyX X.K H x (.type (kdStr k)) := by
  cases v with
  | d v =>
    cases r with
    | non => cases h; exact .base .non
    | bl => cases h; exact .base (.bl _)
    | int => cases h; exact .base (.int _)
    | str => cases h; exact .base (.str _)
    | tup hx _ _ =>
      cases h
      rcases hx with (hx | ⟨o, hx⟩) | ⟨o, its, n, hk, hc, _⟩
      · exact .base (.tup hx)
      · exact .fTuple hx
      · exact .kTuple hk hc
    | lst hx _ _ => cases h; exact .base (.lst hx)
    | scr hx _ =>
      cases h
      rcases hx with (hx | ⟨o, hx⟩) | ⟨o, its, n, hk, hc, _⟩
      · exact .base (.lst hx)
      · exact .base (.frz hx)
      · exact .kList hk hc
    | fn => cases h
    | dct _ _ _ => cases h
  | r i =>
    have h' : (match M[i]? with
      | some (.lst _) => some Kd.list
      | _ => none) = some k := h
    split at h'
    · rename_i us q
      cases h'
      obtain ⟨a, vs, _, rfl, h1, r1⟩ := hm.lst q r
      exact .base (.lst h1)
    · cases h'
theorem ty_all : (tyT.all fun p => decide (bootBuiltins p.1 = some (.type (tyStr p.2))) && isB p.2) = true := by decide +kernel
theorem ty_of {x : Str} {t : Ty} (h : tyOf x = some t) : bootBuiltins x = some (.type (tyStr t)) ∧ isB t = true := by
  have := List.all_eq_true.mp ty_all (x, t) (look_mem h)
  rw [Bool.and_eq_true] at this
  exact ⟨of_decide_eq_true this.1, this.2⟩
theorem pa_tys (c : Cok fa X T nm k C) : ∀ {es : List Expr} {ts : List Ty}, cTys T nm es = some ts → ts.all isB = true ∧ PA X es (fun _ H Q => Q (ts.map fun t => .ty (tyStr t)) H)
  | [], ts, h => by
    cases h
    exact ⟨rfl, pa_nil⟩
  | e :: r, ts, h => by
    unfold cTys at h
    split at h
    · cases h; rename_i e; cases e
    · rename_i x p r2 e
      cases e
      split at h
      · rename_i t tr h1 h2 h3
        cases h
        obtain ⟨i1, i2⟩ := pa_tys c h3
        obtain ⟨j1, j2⟩ := ty_of h2
        obtain ⟨g1, g2, g3, g4⟩ := fr_of c h1
        refine ⟨by simp [j2, i1], ?_⟩
        exact pa_cons (pe_bltn (v := .ty (tyStr t)) g1 g3 j1 rfl g4 g2) i2
      · cases h
    · cases h
theorem boot_isi : bootBuiltins "isinstance" = some (.builtin "isinstance") := by decide +kernel
theorem isi_core {C : Cal} {x : Ex} {ts : List Ty} {s : Slots} {M M' : Mem} {v : Val} (q : evE C (.isi x ts) s M = .ok v M') : ∃ a k, evE C x s M = .ok a M' ∧ kdOf M' a = some k ∧ v = .d (.bl (ts.any fun t => tyB t k)) := by
  obtain ⟨u, m1, q1, q⟩ := R.bind_ok q
  obtain ⟨k, m2, q2, q⟩ := R.bind_ok q
  obtain ⟨q3, rfl⟩ := R.opt_ok q2
  cases q
  exact ⟨u, k, q1, q3, rfl⟩
theorem snd_isi1 {a : Expr} {y : Str} {p py pos : Pos} {x : Ex} {ts : List Ty} (c : Cok fa X T nm k C) (hx : isFr T nm "isinstance" = true) (ha : okE a = true) (ht : cTys T nm [.Name y py] = some ts) (h1 : SndE fa X a (evE C x)) :
    SndE fa X (.Call (.Name "isinstance" p) [a, .Name y py] [] pos) (evE C (.isi x ts)) := by
  intro s σ ρ M H v M' hs hm q
  obtain ⟨u, kd, q1, q2, rfl⟩ := isi_core q
  obtain ⟨g1, g2, g3, g4⟩ := fr_of c hx
  obtain ⟨i1, i2⟩ := pa_tys c ht
  have ht' : (match isFr T nm y, tyOf y, (some [] : Option (List Ty)) with
    | true, some t, some ts => some (t :: ts)
    | _, _, _ => none) = some ts := ht
  split at ht'
  · rename_i t tr h1' h2 h3
    cases h3
    cases ht'
    refine ofE (pe_callB call_isi g1 g3 boot_isi (pa_cons (pE a) i2 (ok_star ha _ _)) g4 g2 (ok_star ha _ _) rfl) ?_
    refine (h1 s σ ρ M H u _ hs hm q1).thn fun z H1 kf ⟨ρ1, g1, hm1, r1⟩ => ?_
    refine ⟨z, _, _, _, tyB t kd, rfl, .ty _, tyx_of hm1 q2 r1, kit1 _ _ _ (by simpa using i1), ρ1, g1, hm1, ?_⟩
    rw [List.any_cons, List.any_nil, Bool.or_false]
    exact .bl
  · cases ht'
theorem snd_isiT {a : Expr} {es : List Expr} {j : Nat} {p py pos : Pos} {x : Ex} {ts : List Ty} (c : Cok fa X T nm k C) (hx : isFr T nm "isinstance" = true) (ha : okE a = true) (hl : es.length ≤ 1000) (ht : cTys T nm es = some ts) (h1 : SndE fa X a (evE C x)) :
    SndE fa X (.Call (.Name "isinstance" p) [a, .Tuple es j py] [] pos) (evE C (.isi x ts)) := by
  intro s σ ρ M H v M' hs hm q
  obtain ⟨u, kd, q1, q2, rfl⟩ := isi_core q
  obtain ⟨g1, g2, g3, g4⟩ := fr_of c hx
  obtain ⟨i1, i2⟩ := pa_tys c ht
  have lt : ts.length ≤ sizeLine := by
    have : ∀ {es : List Expr} {ts : List Ty}, cTys T nm es = some ts → ts.length = es.length := by
      intro es
      induction es with
      | nil => intro ts h; cases h; rfl
      | cons e r ih =>
        intro ts h
        unfold cTys at h
        split at h
        · cases h; rename_i e; cases e
        · rename_i e; cases e
          split at h
          · cases h
            rw [List.length_cons, List.length_cons, ih (by assumption)]
          · cases h
        · cases h
    rw [this ht]
    exact thou hl
  refine seE.kfo (ofE (pe_callB call_isiT g1 g3 boot_isi (pa_cons (pE a) (pa_cons (pe_tup i2) pa_nil) (ok_star ha _ _)) g4 g2 (ok_star ha _ _) rfl) ?_)
  refine (h1 s σ ρ M H u _ hs hm q1).thn fun z H1 kf ⟨ρ1, g1, hm1, r1⟩ => ?_
  refine ⟨by rw [List.length_map]; exact lt, fun tp hn => ?_⟩
  have n1 : Go ρ1 H1 ρ1 (upd H1 tp (.tup (ts.map fun t => V.ty (tyStr t)))) := go_new hn
  have pr : Paired ClsV (ts.map fun t => V.ty (tyStr t)) (ts.map fun t => Value.type (tyStr t)) := by
    clear i1 i2 lt ht q n1 hn
    induction ts with
    | nil => exact .nil
    | cons t r ih => exact .cons (.ty _) ih
  have tx : TyX X.K (upd H1 tp (.tup (ts.map fun t => V.ty (tyStr t)))) z (.type (kdStr kd)) := by
    have base := tyx_of hm1 q2 r1
    have nr : ∀ c, Value.type (kdStr kd) ≠ .ref c := fun c z => by cases z
    generalize Value.type (kdStr kd) = tt at base nr
    have keep : ∀ {b : Addr} {o : HO}, H1 b = some o → upd H1 tp (.tup (ts.map fun t => V.ty (tyStr t))) b = some o := fun {b o} e => by
      rw [upd_ne (fun z => by rw [z, hn] at e; cases e)]; exact e
    cases base with
    | base h =>
      refine .base ?_
      cases h with
      | non => exact .non
      | bl => exact .bl _
      | int => exact .int _
      | str => exact .str _
      | flt => exact .flt _
      | lst e => exact .lst (keep e)
      | frz e => exact .frz (keep e)
      | tup e => exact .tup (keep e)
      | dK e => exact .dK (keep e)
      | dT e => exact .dT (keep e)
      | ins e => exact absurd rfl (nr _)
    | byt b => exact .byt b
    | set e => exact .set (keep e)
    | kList e c => exact .kList e c
    | kTuple e c => exact .kTuple e c
    | kDict e c => exact .kDict e c
    | fTuple e => exact .fTuple (keep e)
    | fDict e => exact .fDict (keep e)
  exact ⟨z, tp, _, _, _, _, rfl, upd_same, pr, tx, kits _ _ _ i1, fun kf => ⟨ρ1, g1.trans n1, hm1.new hn, .bl⟩⟩
end
end Rf

namespace Rf
open PySem PySem.Spec PyProof.Rows L2
section
variable {fa : Nat → Addr} {X : Cx} {T : Tab} {nm : Nms} {k : Nat} {C : Cal}
variable {ρ ρ1 : Wd} {H H1 H2 : Hp} {M M' : Mem}
/-! ### the reversed copy -/
theorem snd_rev {e : Expr} {j : Nat} {p1 p2 p3 pos : Pos} {z : Bool} {x : Ex} (h : SndE fa X e (evE C x)) :
    SndE fa X (.Subscript e (.Slice none none (some (.UnaryOp .USub (.Constant (.int 1) j p1) p2)) p3) pos) (evE C (.rev z x)) := by
  intro s σ ρ M H v M' hs hm q
  obtain ⟨u, m1, q1, q⟩ := R.bind_ok q
  unfold revV at q
  split at q
  · rename_i xs
    cases q
    refine seE.kfo (ofE (pe_revA (pE e)) ((h s σ ρ M H _ _ hs hm q1).thn fun y H1 kf ⟨ρ1, g1, hm1, r1⟩ => ?_))
    cases r1 with
    | tup hx nx rs => exact ⟨_, _, rfl, .inr ⟨hx, fun p hn kf => (mk_tup hm1 rs.rev hn kf).back g1⟩⟩
  · split at q
    · rename_i us qu
      refine seE.kfo (ofE (pe_revA (pE e)) ((h s σ ρ M H u m1 hs hm q1).thn fun y H1 kf ⟨ρ1, g1, hm1, r1⟩ => ?_))
      obtain ⟨a, vs, rfl, h1, r2⟩ := hm1.lstOf qu r1
      exact ⟨a, vs, rfl, .inl ⟨.inl (.inl h1), fun p hn kf => (mk_list hm1 r2.rev q hn kf).back g1⟩⟩
    · cases q

/-! ### targets -/
theorem ixIn_at {x : Str} : ∀ {N : List Str} {i : Nat}, ixIn x N = some i → N[i]? = some x
  | [], i, h => by cases h
  | y :: r, i, h => by
    unfold ixIn at h
    by_cases e : x = y
    · rw [if_pos e] at h
      cases h
      rw [e]; rfl
    · rw [if_neg e] at h
      cases q : ixIn x r with
      | none => rw [q] at h; cases h
      | some j =>
        rw [q] at h
        cases h
        have := ixIn_at (N := r) q
        simpa using this
theorem slotS_ok (c : Cok fa X T nm k C) {x : Str} {i : Nat} (h : slotS T nm x = some i) : X.N[i]? = some x ∧ Loc X.env.scope x ∧ (X.fn x = true ∨ X.env.scope.names.lookup x = some .local) := by
  unfold slotS at h
  rw [c.N]
  split at h
  · rename_i e
    exact ⟨ixIn_at h, .inl (c.na _ _ e (by decide)), .inr (c.na _ _ e (by decide))⟩
  · rename_i e
    exact ⟨ixIn_at h, .inr (c.na _ _ e (by decide)), .inl (c.fc _ e)⟩
  · cases h
theorem SR.set {s : Slots} {σ : L2.St} (h : SR X.K fa ρ H s σ) (i : Nat) {x : Val} {v : V} (r : RV X.K fa ρ H x v) : SR X.K fa ρ H (s.set i (some x)) (σ.set i (some v)) := by
  refine ⟨by rw [List.length_set, List.length_set]; exact h.len, fun j y e => ?_⟩
  by_cases hj : i = j
  · subst hj
    by_cases hi : i < s.length
    · rw [List.getElem?_set_self hi] at e
      cases e
      exact ⟨v, List.getElem?_set_self (by rw [← h.len]; exact hi), r⟩
    · rw [List.getElem?_eq_none (by rw [List.length_set]; omega)] at e
      cases e
  · rw [List.getElem?_set_ne hj] at e
    rw [List.getElem?_set_ne hj]
    exact h.at_ j y e
theorem SR.set0 {s : Slots} {σ : L2.St} (h : SR X.K fa ρ H s σ) (i : Nat) : SR X.K fa ρ H (s.set i none) (σ.set i none) := by
  refine ⟨by rw [List.length_set, List.length_set]; exact h.len, fun j y e => ?_⟩
  by_cases hj : i = j
  · subst hj
    by_cases hi : i < s.length
    · rw [List.getElem?_set_self hi] at e
      cases e
    · rw [List.getElem?_eq_none (by rw [List.length_set]; omega)] at e
      cases e
  · rw [List.getElem?_set_ne hj] at e
    rw [List.getElem?_set_ne hj]
    exact h.at_ j y e
theorem wipe_sr {s : Slots} {σ : L2.St} (h : SR X.K fa ρ H s σ) : ∀ vs : List Nat, SR X.K fa ρ H (wipeS s vs) (L2.wipe σ vs)
  | [] => h
  | v :: vs => (wipe_sr h vs).set0 v
/-- what a walk hands out, in the heap -/
def WV (K : PySem.W.Frag) (fa : Nat → Addr) (ρ : Wd) (H : Hp) : Wv → V → Prop
  | .v x, v => RV K fa ρ H x v
  | .t xs, v => ∃ T vs, v = .ref T ∧ H T = some (.tup vs) ∧ RVs K fa ρ H xs vs
mutual
/-- the slots that a target stores to -/
def tgIx : Tg → List Nat
  | .nm i => [i]
  | .tup ts => tgIxs ts
def tgIxs : Tgs → List Nat
  | .nil => []
  | .cons t ts => tgIx t ++ tgIxs ts
end
/-- behind a store: the heap as it was -/
def TgQ (fa : Nat → Addr) (X : Cx) (ρ : Wd) (H : Hp) (s' : Slots) (own : List Nat) (σ : L2.St) (σ' : L2.St) (H' : Hp) : Prop := H' = H ∧ SR X.K fa ρ H s' σ' ∧ ∀ vs : List Nat, (∀ i ∈ own, i ∈ vs) → L2.wipe σ' vs = L2.wipe σ vs
theorem wipe_set {σ : L2.St} {i : Nat} {v : Option V} : ∀ {vs : List Nat}, i ∈ vs → L2.wipe (σ.set i v) vs = L2.wipe σ vs
  | [], h => by cases h
  | j :: vs, h => by
    show (L2.wipe (σ.set i v) vs).set j none = (L2.wipe σ vs).set j none
    have gen : ∀ (vs : List Nat), L2.wipe (σ.set i v) vs = L2.wipe σ vs ∨ L2.wipe (σ.set i v) vs = (L2.wipe σ vs).set i v := by
      intro vs
      induction vs with
      | nil => exact .inr rfl
      | cons w ws ih =>
        show (L2.wipe (σ.set i v) ws).set w none = (L2.wipe σ ws).set w none ∨ (L2.wipe (σ.set i v) ws).set w none = ((L2.wipe σ ws).set w none).set i v
        rcases ih with e | e
        · exact .inl (by rw [e])
        · rw [e]
          by_cases z : i = w
          · subst z
            exact .inl (by rw [List.set_set])
          · exact .inr (by rw [List.set_comm _ _ z])
    by_cases z : i ∈ vs
    · rw [wipe_set z]
    · have e : i = j := (List.mem_cons.mp h).resolve_right z
      subst e
      rcases gen vs with e | e
      · rw [e]
      · rw [e, List.set_set]
theorem cTs_star (env : Env) : ∀ {es : List Expr} {ts : Tgs}, cTs T nm es = some ts → (∀ e ∈ es, ∃ x p, e = .Name x p)
  | [], _, _ => fun e h => by cases h
  | e :: r, _, h => by
    unfold cTs at h
    split at h
    · rename_i a b h1 h2
      intro x hx
      rcases List.mem_cons.mp hx with rfl | hx
      · cases x with
        | Name y p => exact ⟨y, p, rfl⟩
        | _ => cases h1
      · exact cTs_star env h2 x hx
    · cases h
theorem names_flat (env : Env) : ∀ {es : List Expr}, (∀ e ∈ es, ∃ x p, e = .Name x p) → assignEach es env = es.map fun e => (false, assign e env)
  | [], _ => rfl
  | e :: r, h => by
    obtain ⟨x, p, rfl⟩ := h e List.mem_cons_self
    have ih := names_flat env (es := r) fun e he => h e (List.mem_cons_of_mem _ he)
    show (false, assign (.Name x p) env) :: assignEach r env = _
    rw [ih]
    rfl
def seGs (X : Cx) (es : List Expr) : TGs := fun vs σ H Q => ∀ pins s us, Inv X pins σ H s → Vals vs us → wpAny (model X.prog X.w) X.A (assignInOrder ((assignEach es X.env).map (·.2)) us) (fun _ s' => ∃ σ' H', Inv X pins σ' H' s' ∧ Q σ' H') X.xe s
theorem pGs (es : List Expr) : PGs X es (seGs X es) := ⟨fun pins s _ _ _ us _ I r h => h pins s us I r⟩
theorem ofGs {es : List Expr} {t : TGs} (h : PGs X es t) {v : List V} {σ : L2.St} {H : Hp} {Q : L2.St → Hp → Prop} (q : t v σ H Q) : seGs X es v σ H Q := fun pins s u I r => h.run pins s σ H v u Q I r q
theorem seGs.thn {e : List Expr} {v : List V} {σ : L2.St} {H : Hp} {Q Q' : L2.St → Hp → Prop} (h : seGs X e v σ H Q) (q : ∀ σ' H', Q σ' H' → Q' σ' H') : seGs X e v σ H Q' := fun pins s u I r =>
  L2.thn (h pins s u I r) fun _ _ ⟨σ', H', I', z⟩ => ⟨σ', H', I', q σ' H' z⟩
theorem snd_T1 (c : Cok fa X T nm k C) {e : Expr} {t : Tg} (h : cT T nm e = some t) {ρ : Wd} {M : Mem} {H : Hp} {s s' : Slots} {σ : L2.St} {v : Val} {x : V} (hs : SR X.K fa ρ H s σ) (r : RV X.K fa ρ H v x) (q : asgT M t v s = some s') :
    seG X e x σ H (TgQ fa X ρ H s' (tgIx t) σ) := by
  cases e with
  | Name y p =>
    have h' : (slotS T nm y).map Tg.nm = some t := h
    cases hy : slotS T nm y with
    | none => rw [hy] at h'; cases h'
    | some i =>
      rw [hy] at h'
      cases h'
      obtain ⟨a1, a2, a3⟩ := slotS_ok c hy
      cases q
      exact ofG (pg_name c.nd a1 a2 a3) ⟨rfl, hs.set i r, fun vs hv => wipe_set (hv i (by simp [tgIx]))⟩
  | _ => cases h
theorem snd_Ts (c : Cok fa X T nm k C) : ∀ {es : List Expr} {ts : Tgs}, cTs T nm es = some ts → ∀ {ρ : Wd} {M : Mem} {H : Hp} {s s' : Slots} {σ : L2.St} {v : List Val} {x : List V}, SR X.K fa ρ H s σ → RVs X.K fa ρ H v x → asgTs M ts v s = some s' →
    seGs X es x σ H (TgQ fa X ρ H s' (tgIxs ts) σ)
  | [], ts, h, ρ, M, H, s, s', σ, v, x, hs, r, q => by
    cases h
    cases r with
    | nil =>
      cases q
      exact ofGs pgs_nil ⟨rfl, rfl, hs, fun _ _ => rfl⟩
    | cons _ _ => cases q
  | e :: es, ts, h, ρ, M, H, s, s', σ, v, x, hs, r, q => by
    unfold cTs at h
    split at h
    · rename_i a b h1 h2
      cases h
      cases r with
      | nil => cases q
      | @cons v1 vr x1 xr r1 rr =>
        have q' : (match asgT M a v1 s with
          | some s' => asgTs M b vr s'
          | none => none) = some s' := q
        split at q'
        · rename_i s1 e1
          have st : (assignEach (e :: es) X.env).map (·.2) = assign e X.env :: (assignEach es X.env).map (·.2) := by
            cases e with
            | Name y p => rfl
            | _ => cases h1
          refine ofGs (pgs_cons (pG e) (pGs es) st) ⟨x1, xr, rfl, ?_⟩
          refine (snd_T1 c h1 hs r1 e1).thn fun σ1 H1 ⟨e2, hs1, w1⟩ => ?_
          subst e2
          refine (snd_Ts c h2 hs1 rr q').thn fun σ2 H2 ⟨e3, hs2, w2⟩ => ?_
          subst e3
          refine ⟨rfl, hs2, fun vs hv => ?_⟩
          rw [w2 vs fun i hi => hv i (by simp only [tgIxs, List.mem_append]; exact .inr hi), w1 vs fun i hi => hv i (by simp only [tgIxs, List.mem_append]; exact .inl hi)]
        · cases q'
    · cases h
theorem len_Ts : ∀ {M : Mem} {es : List Expr} {ts : Tgs} {v : List Val} {s s' : Slots}, cTs T nm es = some ts → asgTs M ts v s = some s' → v.length = es.length
  | _, [], _, v, _, _, h, q => by
    cases h
    cases v with
    | nil => rfl
    | cons _ _ => cases q
  | M, e :: es, _, v, s, s', h, q => by
    unfold cTs at h
    split at h
    · rename_i a b h1 h2
      cases h
      cases v with
      | nil => cases q
      | cons v1 vr =>
        have q' : (match asgT M a v1 s with
          | some s' => asgTs M b vr s'
          | none => none) = some s' := q
        split at q'
        · rw [List.length_cons, List.length_cons, len_Ts h2 q']
        · cases q'
    · cases h
/-- a target -/
theorem snd_tg (c : Cok fa X T nm k C) {e : Expr} {t : Tg} (h : cTg T nm e = some t) {ρ : Wd} {M : Mem} {H : Hp} {s s' : Slots} {σ : L2.St} {w : Wv} {x : V} (hs : SR X.K fa ρ H s σ) (hm : HR X.K fa ρ M H) (r : WV X.K fa ρ H w x) (q : asgW M t w s = some s') :
    seG X e x σ H (TgQ fa X ρ H s' (tgIx t) σ) := by
  cases e with
  | Name y p =>
    cases w with
    | v v => exact snd_T1 c (e := .Name y p) h hs r q
    | t xs =>
      have h' : (slotS T nm y).map Tg.nm = some t := h
      cases hy : slotS T nm y with
      | none => rw [hy] at h'; cases h'
      | some i => rw [hy] at h'; cases h'; cases q
  | Tuple es j p =>
    have h' : (cTs T nm es).map Tg.tup = some t := h
    cases hy : cTs T nm es with
    | none => rw [hy] at h'; cases h'
    | some ts =>
      rw [hy] at h'
      cases h'
      have nf := names_flat X.env (cTs_star X.env hy)
      have hn : (assignEach es X.env).length = es.length := by rw [nf, List.length_map]
      have hst : (assignEach es X.env).findIdx? (·.1) = none := by
        rw [nf, List.findIdx?_eq_none_iff]
        intro x hx
        obtain ⟨e, _, rfl⟩ := List.mem_map.mp hx
        rfl
      have tup : ∀ {us : List Val} {vs : List V} {a : Addr}, RVs X.K fa ρ H us vs → asgTs M ts us s = some s' → SqT X.K H a vs → seG X (.Tuple es j p) (.ref a) σ H (TgQ fa X ρ H s' (tgIx (.tup ts)) σ) := by
        intro us vs a r2 e2 ht
        refine ofG (pg_tup c.calm (pGs es) hn hst) ⟨a, vs, rfl, ht, ?_, (snd_Ts c hy hs r2 e2)⟩
        rw [← r2.length, len_Ts hy e2]
      have lst : ∀ {us : List Val} {vs : List V} {a : Addr}, RVs X.K fa ρ H us vs → asgTs M ts us s = some s' → SqL X.K H a vs → seG X (.Tuple es j p) (.ref a) σ H (TgQ fa X ρ H s' (tgIx (.tup ts)) σ) := by
        intro us vs a r2 e2 ht
        refine ofG (pg_unl c.calm (pGs es) hn hst) ⟨a, vs, rfl, ht, ?_, (snd_Ts c hy hs r2 e2)⟩
        rw [← r2.length, len_Ts hy e2]
      cases w with
      | t xs =>
        obtain ⟨a, vs, rfl, ha, rs⟩ := r
        exact tup rs q (.inl (.inl ha))
      | v v =>
        have q' : (match tgItems M v with
          | some vs => asgTs M ts vs s
          | none => none) = some s' := q
        split at q'
        · rename_i us qu
          unfold tgItems at qu
          split at qu
          · cases qu
            cases r with
            | tup hx nx rs => exact tup rs.vs q' hx
          · obtain ⟨a, vs, rfl, h1, r2⟩ := hm.lstOf qu r
            exact lst r2 q' (.inl (.inl h1))
        · cases q'
  | _ => cases h

/-! ### walks -/
def Wlk (K : PySem.W.Frag) (fa : Nat → Addr) (ρ0 : Wd) (H0 : Hp) (wk : Wk) (J : L2.It) : Prop := ∀ ρ M H, Kp ρ0 H0 ρ H → Pl ρ0 ρ → HR K fa ρ M H →
  (∀ i r w, wk.rs[i]? = some r → r M = some w → J.go i H ∧ ∀ x H', J.yld i H x H' → Go ρ H ρ H' ∧ HR K fa ρ M H' ∧ WV K fa ρ H' w x) ∧ (wk.fin M = true → J.stop wk.rs.length H)
theorem Wlk.go {K : PySem.W.Frag} {ρ0 ρ1 : Wd} {H0 H1 : Hp} {wk : Wk} {J : L2.It} (h : Wlk K fa ρ0 H0 wk J) (g : Kp ρ0 H0 ρ1 H1) (p : Pl ρ0 ρ1) : Wlk K fa ρ1 H1 wk J := fun ρ M H g2 p2 hm =>
  h ρ M H ⟨fun a o e n => let z := g.rd a o e n; g2.rd a o z.1 z.2⟩ (fun i a e => p2 i a (p i a e)) hm
theorem wkL_at {vs : List Val} {i : Nat} {r : Mem → Option Wv} {w : Wv} (h : (wkL vs).rs[i]? = some r) (q : r M = some w) : ∃ v, vs[i]? = some v ∧ w = .v v := by
  have h' : (vs.map fun v (_ : Mem) => some (Wv.v v))[i]? = some r := h
  rw [List.getElem?_map] at h'
  cases e : vs[i]? with
  | none => rw [e] at h'; cases h'
  | some v => rw [e] at h'; cases h'; cases q; exact ⟨v, rfl, rfl⟩
theorem wkL_len (vs : List Val) : (wkL vs).rs.length = vs.length := List.length_map _
theorem wlk_list {K : PySem.W.Frag} {ρ0 : Wd} {H0 : Hp} {ds : List D} {a : Addr} (r : RD K fa ρ0 H0 (.lst ds) (.ref a)) : Wlk K fa ρ0 H0 (wkL (ds.map .d)) (Itl K a) := by
  intro ρ M H g p hm
  cases r.kp g with
  | lst h1 n rs =>
    rename_i vs
    refine ⟨fun i r w e q => ?_, fun _ => ⟨vs, .inl (.inl h1), by rw [wkL_len, List.length_map, rs.length]; exact Nat.le_refl _⟩⟩
    obtain ⟨v, e1, rfl⟩ := wkL_at e q
    obtain ⟨x, e2, r2⟩ := rs.vs.get e1
    refine ⟨⟨vs, x, .inl (.inl h1), e2⟩, fun y H' ⟨e3, hy⟩ => ?_⟩
    subst e3
    have := hy vs (.inl (.inl h1))
    rw [e2] at this
    cases this
    exact ⟨Go.refl, hm, r2⟩
theorem wlk_scr {K : PySem.W.Frag} {ρ0 : Wd} {H0 : Hp} {ns : List Int} {a : Addr} (r : RD K fa ρ0 H0 (.scr ns) (.ref a)) : Wlk K fa ρ0 H0 (wkL (ns.map fun n => .d (.int n))) (Itl K a) := by
  intro ρ M H g p hm
  cases r.kp g with
  | scr h1 n =>
    refine ⟨fun i r w e q => ?_, fun _ => ⟨_, h1, by rw [wkL_len, List.length_map, List.length_map]; exact Nat.le_refl _⟩⟩
    obtain ⟨v, e1, rfl⟩ := wkL_at e q
    rw [List.getElem?_map] at e1
    cases e2 : ns[i]? with
    | none => rw [e2] at e1; cases e1
    | some n =>
      rw [e2] at e1
      cases e1
      have e3 : (ns.map V.int)[i]? = some (.int n) := by rw [List.getElem?_map, e2]; rfl
      refine ⟨⟨_, _, h1, e3⟩, fun y H' ⟨e4, hy⟩ => ?_⟩
      subst e4
      have := hy _ h1
      rw [e3] at this
      cases this
      exact ⟨Go.refl, hm, .int⟩
theorem wlk_tup {K : PySem.W.Frag} {ρ0 : Wd} {H0 : Hp} {ds : List D} {a : Addr} (r : RD K fa ρ0 H0 (.tup ds) (.ref a)) : Wlk K fa ρ0 H0 (wkL (ds.map .d)) (Itt K a) := by
  intro ρ M H g p hm
  cases r.kp g with
  | tup h1 n rs =>
    rename_i vs
    refine ⟨fun i r w e q => ?_, fun _ => ⟨vs, h1, by rw [wkL_len, List.length_map, rs.length]; exact Nat.le_refl _⟩⟩
    obtain ⟨v, e1, rfl⟩ := wkL_at e q
    obtain ⟨x, e2, r2⟩ := rs.vs.get e1
    refine ⟨⟨vs, x, h1, e2⟩, fun y H' ⟨e3, hy⟩ => ?_⟩
    subst e3
    have := hy vs h1
    rw [e2] at this
    cases this
    exact ⟨Go.refl, hm, r2⟩
theorem wlk_str {K : PySem.W.Frag} {ρ0 : Wd} {H0 : Hp} {s : List Nat} (hl : s.length ≤ LINE) (hc : CP s) : Wlk K fa ρ0 H0 (wkL (s.map fun c => .d (.str [c]))) (Its (S0 s)) := by
  intro ρ M H g p hm
  refine ⟨fun i r w e q => ?_, fun _ => by rw [wkL_len, List.length_map]; show (S0 s).cps.size ≤ s.length; simp⟩
  obtain ⟨v, e1, rfl⟩ := wkL_at e q
  rw [List.getElem?_map] at e1
  cases e2 : s[i]? with
  | none => rw [e2] at e1; cases e1
  | some c =>
    rw [e2] at e1
    cases e1
    refine ⟨?_, fun y H' ⟨e3, c', e4, e5⟩ => ?_⟩
    · show i < (S0 s).cps.size
      have := (List.getElem?_eq_some_iff.mp e2).1
      simpa using this
    · subst e3 e5
      have e6 : s.toArray[i]? = some c' := e4
      rw [List.getElem?_toArray, e2] at e6
      cases e6
      exact ⟨Go.refl, hm, .str (s := [c]) (by show 1 ≤ LINE; decide) fun d hd => by
        have : d = c := by simpa using hd
        rw [this]; exact hc c (List.mem_of_getElem? e2)⟩
theorem wlk_range {K : PySem.W.Frag} {ρ0 : Wd} {H0 : Hp} (lo : Int) (n : Nat) : Wlk K fa ρ0 H0 (wkL ((List.range n).map fun (k : Nat) => .d (.int (lo + (k : Int))))) (Itr lo n) := by
  intro ρ M H g p hm
  refine ⟨fun i r w e q => ?_, fun _ => by rw [wkL_len, List.length_map, List.length_range]; exact Nat.le_refl _⟩
  obtain ⟨v, e1, rfl⟩ := wkL_at e q
  rw [List.getElem?_map] at e1
  cases e2 : (List.range n)[i]? with
  | none => rw [e2] at e1; cases e1
  | some j =>
    rw [e2] at e1
    cases e1
    obtain ⟨h1, h2⟩ := List.getElem?_eq_some_iff.mp e2
    rw [List.getElem_range] at h2
    subst h2
    have hin : i < n := by simpa using h1
    refine ⟨hin, fun y H' ⟨e3, e4⟩ => ?_⟩
    subst e3 e4
    exact ⟨Go.refl, hm, .int⟩
/-- a place, as it stands at each turn -/
theorem lstR_ok (hm : HR X.K fa ρ M H) {i n : Nat} {a : Addr} {us : List Val} (e : ρ.l[i]? = some a) (h : lstR i n M = some us) : us.length = n ∧ ∃ vs, H a = some (.lst vs) ∧ RVs X.K fa ρ H us vs := by
  unfold lstR at h
  split at h
  · rename_i w q
    split at h
    · rename_i hl
      cases h
      obtain ⟨vs, x, y⟩ := hm.at_ i a _ e q
      exact ⟨hl, vs, x, y⟩
    · cases h
  · cases h
theorem wlk_place {ρ0 : Wd} {H0 : Hp} {i n : Nat} {a : Addr} (e : ρ0.l[i]? = some a) : Wlk X.K fa ρ0 H0 (wkR i n) (Itl X.K a) := by
  intro ρ M H g p hm
  have ea := p i a e
  refine ⟨fun k r w ek q => ?_, fun hf => ?_⟩
  · have ek' : ((List.range n).map fun k m => (lstR i n m).bind fun us => (us[k]?).map Wv.v)[k]? = some r := ek
    rw [List.getElem?_map] at ek'
    cases e2 : (List.range n)[k]? with
    | none => rw [e2] at ek'; cases ek'
    | some j =>
      rw [e2] at ek'
      cases ek'
      obtain ⟨h1, h2⟩ := List.getElem?_eq_some_iff.mp e2
      rw [List.getElem_range] at h2
      subst h2
      have q' : ((lstR i n M).bind fun us => (us[k]?).map Wv.v) = some w := q
      cases el : lstR i n M with
      | none => rw [el] at q'; cases q'
      | some us =>
        rw [el] at q'
        have q'' : (us[k]?).map Wv.v = some w := q'
        obtain ⟨_, vs, hv, rs⟩ := lstR_ok hm ea el
        cases eu : us[k]? with
        | none => rw [eu] at q''; cases q''
        | some u =>
          rw [eu] at q''
          cases q''
          obtain ⟨x, e3, r3⟩ := rs.get eu
          refine ⟨⟨vs, x, .inl (.inl hv), e3⟩, fun y H' ⟨e4, hy⟩ => ?_⟩
          subst e4
          have := hy vs (.inl (.inl hv))
          rw [e3] at this
          cases this
          exact ⟨Go.refl, hm, r3⟩
  · have hf' : (lstR i n M).isSome = true := hf
    cases el : lstR i n M with
    | none => rw [el] at hf'; cases hf'
    | some us =>
      obtain ⟨hl, vs, hv, rs⟩ := lstR_ok hm ea el
      refine ⟨vs, .inl (.inl hv), ?_⟩
      rw [← rs.length, hl]
      show n ≤ (List.map _ (List.range n)).length
      rw [List.length_map, List.length_range]
      exact Nat.le_refl _
theorem wlk_placeE {ρ0 : Wd} {H0 : Hp} {i n : Nat} {a : Addr} (e : ρ0.l[i]? = some a) : Wlk X.K fa ρ0 H0 (wkE i n) (Ite X.K a) := by
  intro ρ M H g p hm
  have ea := p i a e
  refine ⟨fun k r w ek q => ?_, fun hf => ?_⟩
  · have ek' : ((List.range n).map fun k m => (lstR i n m).bind fun us => (us[k]?).map fun x => Wv.t [.d (.int (k : Nat)), x])[k]? = some r := ek
    rw [List.getElem?_map] at ek'
    cases e2 : (List.range n)[k]? with
    | none => rw [e2] at ek'; cases ek'
    | some j =>
      rw [e2] at ek'
      cases ek'
      obtain ⟨h1, h2⟩ := List.getElem?_eq_some_iff.mp e2
      rw [List.getElem_range] at h2
      subst h2
      have q' : ((lstR i n M).bind fun us => (us[k]?).map fun x => Wv.t [.d (.int (k : Nat)), x]) = some w := q
      cases el : lstR i n M with
      | none => rw [el] at q'; cases q'
      | some us =>
        rw [el] at q'
        have q'' : (us[k]?).map (fun x => Wv.t [.d (.int (k : Nat)), x]) = some w := q'
        obtain ⟨_, vs, hv, rs⟩ := lstR_ok hm ea el
        cases eu : us[k]? with
        | none => rw [eu] at q''; cases q''
        | some u =>
          rw [eu] at q''
          cases q''
          obtain ⟨x, e3, r3⟩ := rs.get eu
          refine ⟨⟨vs, x, .inl (.inl hv), e3⟩, fun y H' ⟨tp, y', e4, hn, e5, hy⟩ => ?_⟩
          subst e4 e5
          have := hy vs (.inl (.inl hv))
          rw [e3] at this
          cases this
          have gn : Go ρ H ρ (upd H tp (.tup [.int (k : Nat), x])) := go_new hn
          exact ⟨gn, hm.new hn, tp, _, rfl, upd_same, .cons .int (.cons (r3.go gn) .nil)⟩
  · have hf' : (lstR i n M).isSome = true := hf
    cases el : lstR i n M with
    | none => rw [el] at hf'; cases hf'
    | some us =>
      obtain ⟨hl, vs, hv, rs⟩ := lstR_ok hm ea el
      refine ⟨vs, .inl (.inl hv), ?_⟩
      rw [← rs.length, hl]
      show n ≤ (List.map _ (List.range n)).length
      rw [List.length_map, List.length_range]
      exact Nat.le_refl _
theorem wkT_at {vs : List (List Val)} {i : Nat} {r : Mem → Option Wv} {w : Wv} (h : (wkT vs).rs[i]? = some r) (q : r M = some w) : ∃ v, vs[i]? = some v ∧ w = .t v := by
  have h' : (vs.map fun v (_ : Mem) => some (Wv.t v))[i]? = some r := h
  rw [List.getElem?_map] at h'
  cases e : vs[i]? with
  | none => rw [e] at h'; cases h'
  | some v => rw [e] at h'; cases h'; cases q; exact ⟨v, rfl, rfl⟩
theorem enum_at : ∀ {us : List Val} {k i : Nat} {v : List Val}, (enumV k us)[i]? = some v → ∃ u, us[i]? = some u ∧ v = [.d (.int ((k + i : Nat) : Int)), u]
  | [], _, _, _, h => by cases h
  | u :: us, k, 0, v, h => by cases h; exact ⟨u, rfl, rfl⟩
  | u :: us, k, i + 1, v, h => by
    obtain ⟨w, e1, e2⟩ := enum_at (us := us) (k := k + 1) (i := i) h
    refine ⟨w, e1, ?_⟩
    rw [e2, Nat.add_assoc, Nat.add_comm 1 i]
theorem enum_len : ∀ {us : List Val} {k : Nat}, (enumV k us).length = us.length
  | [], _ => rfl
  | _ :: us, k => by rw [enumV, List.length_cons, List.length_cons, enum_len]
theorem wlk_enumD {K : PySem.W.Frag} {ρ0 : Wd} {H0 : Hp} {ds : List D} {a : Addr} (r : RD K fa ρ0 H0 (.lst ds) (.ref a)) : Wlk K fa ρ0 H0 (wkT (enumV 0 (ds.map .d))) (Ite K a) := by
  intro ρ M H g p hm
  cases r.kp g with
  | lst h1 n rs =>
    rename_i vs
    refine ⟨fun i r w e q => ?_, fun _ => ⟨vs, .inl (.inl h1), ?_⟩⟩
    · obtain ⟨v, e1, rfl⟩ := wkT_at e q
      obtain ⟨u, e2, rfl⟩ := enum_at e1
      obtain ⟨x, e3, r2⟩ := rs.vs.get e2
      refine ⟨⟨vs, x, .inl (.inl h1), e3⟩, fun y H' ⟨tp, y', e4, hn, e5, hy⟩ => ?_⟩
      subst e4 e5
      have := hy vs (.inl (.inl h1))
      rw [e3] at this
      cases this
      have gn : Go ρ H ρ (upd H tp (.tup [.int (i : Nat), x])) := go_new hn
      refine ⟨gn, hm.new hn, tp, _, rfl, upd_same, ?_⟩
      rw [Nat.zero_add]
      exact .cons .int (.cons (r2.go gn) .nil)
    · have e : (wkT (enumV 0 (ds.map Val.d))).rs.length = ds.length := by
        show (List.map _ _).length = _
        rw [List.length_map, enum_len, List.length_map]
      rw [e, rs.length]
      exact Nat.le_refl _
theorem zip_at : ∀ {us ws : List Val} {i : Nat} {v : List Val}, (zipV us ws)[i]? = some v → ∃ u w, us[i]? = some u ∧ ws[i]? = some w ∧ v = [u, w]
  | [], _, _, _, h => by unfold zipV at h; simp at h
  | _ :: _, [], _, _, h => by unfold zipV at h; simp at h
  | u :: us, w :: ws, 0, v, h => by cases h; exact ⟨u, w, rfl, rfl, rfl⟩
  | u :: us, w :: ws, i + 1, v, h => by
    obtain ⟨a, b, e1, e2, e3⟩ := zip_at (us := us) (ws := ws) (i := i) h
    exact ⟨a, b, e1, e2, e3⟩
theorem zip_len : ∀ {us ws : List Val}, us.length ≤ (zipV us ws).length ∨ ws.length ≤ (zipV us ws).length
  | [], _ => .inl (Nat.zero_le _)
  | _ :: _, [] => .inr (Nat.zero_le _)
  | _ :: us, _ :: ws => by
    rcases zip_len (us := us) (ws := ws) with h | h
    · exact .inl (by rw [zipV, List.length_cons, List.length_cons]; omega)
    · exact .inr (by rw [zipV, List.length_cons, List.length_cons]; omega)
theorem wlk_zipL {K : PySem.W.Frag} {ρ0 : Wd} {H0 : Hp} {ds es : List D} {a b : Addr} (r : RD K fa ρ0 H0 (.lst ds) (.ref a)) (r' : RD K fa ρ0 H0 (.lst es) (.ref b)) : Wlk K fa ρ0 H0 (wkT (zipV (ds.map .d) (es.map .d))) (Itz K a b) := by
  intro ρ M H g p hm
  cases r.kp g with
  | lst h1 n rs =>
    rename_i vs
    cases r'.kp g with
    | lst h2 n' rs' =>
      rename_i ws
      refine ⟨fun i r w e q => ?_, fun _ => ⟨vs, ws, .inl (.inl h1), .inl (.inl h2), ?_⟩⟩
      · obtain ⟨v, e1, rfl⟩ := wkT_at e q
        obtain ⟨u, w, e2, e2', rfl⟩ := zip_at e1
        obtain ⟨x, e3, r2⟩ := rs.vs.get e2
        obtain ⟨x', e3', r2'⟩ := rs'.vs.get e2'
        refine ⟨⟨vs, ws, x, x', .inl (.inl h1), .inl (.inl h2), e3, e3'⟩, fun y H' ⟨tp, y', z', e4, hn, e5, hy, hy'⟩ => ?_⟩
        subst e4 e5
        have := hy vs (.inl (.inl h1))
        rw [e3] at this
        cases this
        have := hy' ws (.inl (.inl h2))
        rw [e3'] at this
        cases this
        have gn : Go ρ H ρ (upd H tp (.tup [x, x'])) := go_new hn
        exact ⟨gn, hm.new hn, tp, _, rfl, upd_same, .cons (r2.go gn) (.cons (r2'.go gn) .nil)⟩
      · have e : (wkT (zipV (ds.map Val.d) (es.map Val.d))).rs.length = (zipV (ds.map Val.d) (es.map Val.d)).length := by
          show (List.map _ _).length = _
          rw [List.length_map]
        rw [e, ← rs.vs.length, ← rs'.vs.length]
        exact zip_len
theorem wlk_zipT {K : PySem.W.Frag} {ρ0 : Wd} {H0 : Hp} {ds es : List D} {a b : Addr} (r : RD K fa ρ0 H0 (.tup ds) (.ref a)) (r' : RD K fa ρ0 H0 (.tup es) (.ref b)) : Wlk K fa ρ0 H0 (wkT (zipV (ds.map .d) (es.map .d))) (RZ.ItzT K a b) := by
  intro ρ M H g p hm
  cases r.kp g with
  | tup h1 n rs =>
    rename_i vs
    cases r'.kp g with
    | tup h2 n' rs' =>
      rename_i ws
      refine ⟨fun i r w e q => ?_, fun _ => ⟨vs, ws, h1, h2, ?_⟩⟩
      · obtain ⟨v, e1, rfl⟩ := wkT_at e q
        obtain ⟨u, w, e2, e2', rfl⟩ := zip_at e1
        obtain ⟨x, e3, r2⟩ := rs.vs.get e2
        obtain ⟨x', e3', r2'⟩ := rs'.vs.get e2'
        refine ⟨⟨vs, ws, x, x', h1, h2, e3, e3'⟩, fun y H' ⟨tp, y', z', e4, hn, e5, hy, hy'⟩ => ?_⟩
        subst e4 e5
        have := hy vs h1
        rw [e3] at this
        cases this
        have := hy' ws h2
        rw [e3'] at this
        cases this
        have gn : Go ρ H ρ (upd H tp (.tup [x, x'])) := go_new hn
        exact ⟨gn, hm.new hn, tp, _, rfl, upd_same, .cons (r2.go gn) (.cons (r2'.go gn) .nil)⟩
      · have e : (wkT (zipV (ds.map Val.d) (es.map Val.d))).rs.length = (zipV (ds.map Val.d) (es.map Val.d)).length := by
          show (List.map _ _).length = _
          rw [List.length_map]
        rw [e, ← rs.vs.length, ← rs'.vs.length]
        exact zip_len
end
end Rf

namespace Rf
open PySem PySem.Spec PyProof.Rows L2
section
variable {fa : Nat → Addr} {X : Cx} {T : Tab} {nm : Nms} {k : Nat} {C : Cal}
variable {ρ ρ1 : Wd} {H H1 H2 : Hp} {M M' : Mem}
/-! ### what is walked -/
def SndI (fa : Nat → Addr) (X : Cx) (tg pe : Expr) (ev : Slots → Mem → R Wk) : Prop :=
  ∀ s σ ρ M H wk M', SR X.K fa ρ H s σ → HR X.K fa ρ M H → ev s M = .ok wk M' → seI X tg pe σ H (fun J H' => ∃ ρ', Go ρ H ρ' H' ∧ HR X.K fa ρ' M' H' ∧ Wlk X.K fa ρ' H' wk J)
theorem snd_itE {tg e : Expr} {x : Ex} (h : SndE fa X e (evE C x)) : SndI fa X tg e (evIt C (.ex x)) := by
  intro s σ ρ M H wk M' hs hm q
  obtain ⟨u, m1, q1, q⟩ := R.bind_ok q
  have run := h s σ ρ M H u m1 hs hm q1
  cases u with
  | r i =>
    have q' : (match m1[i]? with
      | some (.lst us) => R.ok (wkR i us.length) m1
      | _ => .no) = .ok wk M' := q
    split at q'
    · rename_i us qi
      cases q'
      refine ofI (pi_list (pE e)) (run.thn fun y H1 kf ⟨ρ1, g1, hm1, r1⟩ => ?_)
      obtain ⟨a, vs, e1, rfl, h1, r2⟩ := hm1.lst qi r1
      exact ⟨a, rfl, ⟨vs, .inl (.inl h1)⟩, ρ1, g1, hm1, wlk_place e1⟩
    · cases q'
  | d u =>
    have q' : ((R.opt (items m1 (.d u)) m1).bind fun vs m => .ok (wkL vs) m) = .ok wk M' := q
    obtain ⟨vs, m2, q2, q3⟩ := R.bind_ok q'
    obtain ⟨q4, rfl⟩ := R.opt_ok q2
    cases q3
    cases u with
    | str s =>
      cases q4
      refine ofI (pi_str (pE e)) (run.thn fun y H1 kf ⟨ρ1, g1, hm1, r1⟩ => ?_)
      cases r1 with
      | str hl hc => exact ⟨_, rfl, ρ1, g1, hm1, wlk_str hl hc⟩
    | tup xs =>
      cases q4
      refine ofI (pi_tup (pE e)) (run.thn fun y H1 kf ⟨ρ1, g1, hm1, r1⟩ => ?_)
      have r0 : RD X.K fa ρ1 H1 (.tup xs) y := r1
      cases r1 with
      | tup hx n rs => exact ⟨_, rfl, ⟨_, hx⟩, ρ1, g1, hm1, wlk_tup r0⟩
    | scr ns =>
      cases q4
      refine ofI (pi_list (pE e)) (run.thn fun y H1 kf ⟨ρ1, g1, hm1, r1⟩ => ?_)
      have r0 : RD X.K fa ρ1 H1 (.scr ns) y := r1
      cases r1 with
      | scr hx n => exact ⟨_, rfl, ⟨_, hx⟩, ρ1, g1, hm1, wlk_scr r0⟩
    | lst xs =>
      cases q4
      refine ofI (pi_list (pE e)) (run.thn fun y H1 kf ⟨ρ1, g1, hm1, r1⟩ => ?_)
      have r0 : RD X.K fa ρ1 H1 (.lst xs) y := r1
      cases r1 with
      | lst hx n rs => exact ⟨_, rfl, ⟨_, .inl (.inl hx)⟩, ρ1, g1, hm1, wlk_list r0⟩
    | _ => cases q4
theorem rng_core {C : Cal} {x y : Ex} {s : Slots} {M M' : Mem} {wk : Wk} (q : evIt C (.rng x y) s M = .ok wk M') :
    ∃ i j m1, evE C x s M = .ok (.d (.int i)) m1 ∧ evE C y s m1 = .ok (.d (.int j)) M' ∧ (-(2 ^ 40) ≤ i ∧ i < 2 ^ 40 ∧ -(2 ^ 40) ≤ j ∧ j < 2 ^ 40 ∧ j - i ≤ LINE) ∧ wk = wkL ((List.range (j - i).toNat).map fun (k : Nat) => .d (.int (i + (k : Int)))) := by
  obtain ⟨u, m1, q1, q⟩ := R.bind_ok q
  obtain ⟨w, m2, q2, q⟩ := R.bind_ok q
  unfold rngW at q
  split at q
  · split at q
    · rename_i h
      cases q
      exact ⟨_, _, m1, q1, q2, h, rfl⟩
    · cases q
  · cases q
theorem snd_rng1 {tg b : Expr} {p pos : Pos} {y : Ex} (c : Cok fa X T nm k C) (hx : isFr T nm "range" = true) (hb : okE b = true) (h2 : SndE fa X b (evE C y)) : SndI fa X tg (.Call (.Name "range" p) [b] [] pos) (evIt C (.rng (.con (.int 0)) y)) := by
  intro s σ ρ M H wk M' hs hm q
  obtain ⟨i, j, m1, q1, q2, hh, rfl⟩ := rng_core q
  cases q1
  obtain ⟨g1, g2, g3, g4⟩ := fr_of c hx
  refine ofI (pi_range1 g1 g3 (pA [b]) (ok_star hb _ _)) ?_
  refine (snd_cons hb h2 snd_nil s σ ρ M H [.d (.int j)] M' hs hm (by show (evE C _ s M).bind _ = _; rw [q2]; rfl)).thn fun ys H2 kf2 ⟨ρ2, g2, hm2, r2⟩ => ?_
  cases r2 with
  | cons ry rn =>
    cases rn
    cases ry
    refine ⟨j, rfl, by omega, by omega, ρ2, g2, hm2, ?_⟩
    have := wlk_range (K := X.K) (fa := fa) (ρ0 := ρ2) (H0 := H2) 0 j.toNat
    rw [show (j - 0).toNat = j.toNat by rw [Int.sub_zero]]
    exact this
theorem snd_rng2 {tg a b : Expr} {p pos : Pos} {x y : Ex} (c : Cok fa X T nm k C) (hx : isFr T nm "range" = true) (ha : okE a = true) (hb : okE b = true) (h1 : SndE fa X a (evE C x)) (h2 : SndE fa X b (evE C y)) : SndI fa X tg (.Call (.Name "range" p) [a, b] [] pos) (evIt C (.rng x y)) := by
  intro s σ ρ M H wk M' hs hm q
  obtain ⟨i, j, m1, q1, q2, hh, rfl⟩ := rng_core q
  obtain ⟨g1, g2, g3, g4⟩ := fr_of c hx
  refine ofI (pi_range2 g1 g3 (pA [a, b]) (by rw [ok_star ha, ok_star hb]; rfl) (ok_star hb _ _)) ?_
  refine (snd_cons ha h1 (snd_cons hb h2 snd_nil) s σ ρ M H [.d (.int i), .d (.int j)] M' hs hm (by show (evE C _ s M).bind _ = _; rw [q1]; show ((evE C _ s m1).bind _).bind _ = _; rw [q2]; rfl)).thn fun ys H2 kf2 ⟨ρ2, g2, hm2, r2⟩ => ?_
  cases r2 with
  | cons rx rn =>
    cases rn with
    | cons ry rn =>
      cases rn
      cases rx
      cases ry
      exact ⟨i, j, rfl, by omega, ρ2, g2, hm2, wlk_range i _⟩
theorem wlk_rangeC {K : PySem.W.Frag} {ρ0 : Wd} {H0 : Hp} (lo c : Int) (n : Nat) : Wlk K fa ρ0 H0 (wkL ((List.range n).map fun (k : Nat) => .d (.int (lo + (k : Int) * c)))) (Itc lo c n) := by
  intro ρ M H g p hm
  refine ⟨fun i r w e q => ?_, fun _ => by rw [wkL_len, List.length_map, List.length_range]; exact Nat.le_refl _⟩
  obtain ⟨v, e1, rfl⟩ := wkL_at e q
  rw [List.getElem?_map] at e1
  cases e2 : (List.range n)[i]? with
  | none => rw [e2] at e1; cases e1
  | some j =>
    rw [e2] at e1
    cases e1
    obtain ⟨h1, h2⟩ := List.getElem?_eq_some_iff.mp e2
    rw [List.getElem_range] at h2
    subst h2
    have hin : i < n := by simpa using h1
    refine ⟨hin, fun y H' ⟨e3, e4⟩ => ?_⟩
    subst e3 e4
    exact ⟨Go.refl, hm, .int⟩
theorem rgN_eq {i j c : Int} (h0 : 0 < c.natAbs) : Builtin.Range.rangeSize i j c = (rgN i j c : Int) := by
  unfold Builtin.Range.rangeSize rgN
  have d1 : ∀ a b : Int, 0 ≤ a → 0 < b → 0 ≤ a / b := fun a b h1 h2 => Int.ediv_nonneg h1 (Int.le_of_lt h2)
  by_cases hc : c > 0
  · rw [if_pos hc]
    by_cases h : i < j
    · rw [if_pos h]
      have := d1 (j - i - 1) c (by omega) hc
      omega
    · rw [if_neg h]; rfl
  · rw [if_neg hc]
    by_cases h : i > j
    · rw [if_pos h]
      have := d1 (i - j - 1) (-c) (by omega) (by omega)
      omega
    · rw [if_neg h]; rfl
theorem rg_small {i j c : Int} (hh : -(2 ^ 40) ≤ i ∧ i < 2 ^ 40 ∧ -(2 ^ 40) ≤ j ∧ j < 2 ^ 40 ∧ 0 < c.natAbs ∧ c.natAbs < 2 ^ 30) : Builtin.Range.small i j c = true := by
  obtain ⟨h1, h2, h3, h4, h5, h6⟩ := hh
  have hs := rgN_eq (i := i) (j := j) h5
  have hb : (rgN i j c : Int) ≤ 2 ^ 41 := by
    rw [← hs]
    unfold Builtin.Range.rangeSize
    have dv : ∀ a b : Int, 0 ≤ a → 0 < b → a / b ≤ a := fun a b h1 h2 => Int.ediv_le_self b h1
    by_cases hc : c > 0
    · rw [if_pos hc]
      by_cases h : i < j
      · rw [if_pos h]
        have := dv (j - i - 1) c (by omega) hc
        omega
      · rw [if_neg h]; omega
    · rw [if_neg hc]
      by_cases h : i > j
      · rw [if_pos h]
        have := dv (i - j - 1) (-c) (by omega) (by omega)
        omega
      · rw [if_neg h]; omega
  unfold Builtin.Range.small
  rw [hs]
  by_cases hc : c > 0
  · rw [if_pos hc]
    simp only [Builtin.Range.rangeFitsLong, Bool.and_eq_true, Bool.or_eq_true, decide_eq_true_eq, beq_iff_eq]
    omega
  · rw [if_neg hc]
    simp only [Builtin.Range.rangeFitsLong, Bool.and_eq_true, Bool.or_eq_true, decide_eq_true_eq, beq_iff_eq]
    omega
theorem rng3_core {C : Cal} {x y z : Ex} {s : Slots} {M M' : Mem} {wk : Wk} (q : evIt C (.rng3 x y z) s M = .ok wk M') :
    ∃ i j c m1 m2, evE C x s M = .ok (.d (.int i)) m1 ∧ evE C y s m1 = .ok (.d (.int j)) m2 ∧ evE C z s m2 = .ok (.d (.int c)) M' ∧ (-(2 ^ 40) ≤ i ∧ i < 2 ^ 40 ∧ -(2 ^ 40) ≤ j ∧ j < 2 ^ 40 ∧ 0 < c.natAbs ∧ c.natAbs < 2 ^ 30) ∧ wk = wkL ((List.range (rgN i j c)).map fun (k : Nat) => .d (.int (i + (k : Int) * c))) := by
  obtain ⟨u, m1, q1, q⟩ := R.bind_ok q
  obtain ⟨w, m2, q2, q⟩ := R.bind_ok q
  obtain ⟨t, m3, q3, q⟩ := R.bind_ok q
  unfold rng3W at q
  split at q
  · split at q
    · rename_i h
      cases q
      exact ⟨_, _, _, m1, m2, q1, q2, q3, h, rfl⟩
    · cases q
  · cases q
theorem snd_rng3 {tg a b d : Expr} {p pos : Pos} {x y z : Ex} (c : Cok fa X T nm k C) (hx : isFr T nm "range" = true) (ha : okE a = true) (hb : okE b = true) (hd : okE d = true) (h1 : SndE fa X a (evE C x)) (h2 : SndE fa X b (evE C y)) (h3 : SndE fa X d (evE C z)) : SndI fa X tg (.Call (.Name "range" p) [a, b, d] [] pos) (evIt C (.rng3 x y z)) := by
  intro s σ ρ M H wk M' hs hm q
  obtain ⟨i, j, st, m1, m2, q1, q2, q3, hh, rfl⟩ := rng3_core q
  obtain ⟨g1, g2, g3, g4⟩ := fr_of c hx
  refine ofI (pi_range3 g1 g3 (pA [a, b, d]) (ok_star ha _ _) (by rw [ok_star hb, ok_star hd]; rfl)) ?_
  refine (snd_cons ha h1 (snd_cons hb h2 (snd_cons hd h3 snd_nil)) s σ ρ M H [.d (.int i), .d (.int j), .d (.int st)] M' hs hm (by show (evE C _ s M).bind _ = _; rw [q1]; show ((evE C _ s m1).bind _).bind _ = _; rw [q2]; show (((evE C _ s m2).bind _).bind _).bind _ = _; rw [q3]; rfl)).thn fun ys H2 kf2 ⟨ρ2, g2, hm2, r2⟩ => ?_
  cases r2 with
  | cons rx rn =>
    cases rn with
    | cons ry rn =>
      cases rn with
      | cons rz rn =>
        cases rn
        cases rx
        cases ry
        cases rz
        exact ⟨i, j, st, rgN i j st, rfl, ⟨by omega, by omega, rg_small hh, rgN_eq hh.2.2.2.2.1⟩, ρ2, g2, hm2, wlk_rangeC i st _⟩
theorem isTup_of {tg : Expr} (h : isTupE tg = true) : ∃ es j p, tg = .Tuple es j p := by
  cases tg with
  | Tuple es j p => exact ⟨es, j, p, rfl⟩
  | _ => cases h
theorem snd_enum {tg a : Expr} {p pos : Pos} {x : Ex} (c : Cok fa X T nm k C) (hx : isFr T nm "enumerate" = true) (ht : isTupE tg = true) (ha : okE a = true) (h1 : SndE fa X a (evE C x)) : SndI fa X tg (.Call (.Name "enumerate" p) [a] [] pos) (evIt C (.enum x)) := by
  intro s σ ρ M H wk M' hs hm q
  obtain ⟨es, j, tp, rfl⟩ := isTup_of ht
  obtain ⟨u, m1, q1, q⟩ := R.bind_ok q
  obtain ⟨g1, g2, g3, g4⟩ := fr_of c hx
  refine ofI (pi_enum g1 g3 (pA [a]) (ok_star ha _ _)) ?_
  refine (snd_cons ha h1 snd_nil s σ ρ M H [u] m1 hs hm (by show (evE C _ s M).bind _ = _; rw [q1]; rfl)).thn fun ys H2 kf2 ⟨ρ2, g2, hm2, r2⟩ => ?_
  cases r2 with
  | cons rx rn =>
    cases rn
    cases u with
    | r i =>
      have q' : (match m1[i]? with
        | some (.lst us) => R.ok (wkE i us.length) m1
        | _ => .no) = .ok wk M' := q
      split at q'
      · rename_i us qi
        cases q'
        obtain ⟨a, vs, e1, rfl, h1, r2⟩ := hm2.lst qi rx
        exact ⟨a, vs, rfl, .inl (.inl h1), ρ2, g2, hm2, wlk_placeE e1⟩
      · cases q'
    | d u =>
      have q' : ((R.opt (lstOf m1 (.d u)) m1).bind fun vs m => .ok (wkT (enumV 0 vs)) m) = .ok wk M' := q
      obtain ⟨vs, m2, q2, q3⟩ := R.bind_ok q'
      obtain ⟨q4, rfl⟩ := R.opt_ok q2
      cases q3
      cases u with
      | lst xs =>
        cases q4
        rename_i x' _ _
        have r0 : RD X.K fa ρ2 H2 (.lst xs) x' := rx
        cases rx with
        | lst hx n rs => exact ⟨_, _, rfl, .inl (.inl hx), ρ2, g2, hm2, wlk_enumD r0⟩
      | _ => cases q4
def iZip_ (X : Cx) (fa : Nat → Addr) (ρ : Wd) (H : Hp) (wk : Wk) (M' : Mem) (H1 : Hp) (x y : V) : Prop :=
  ∃ a b xs ys, [x, y] = [V.ref a, .ref b] ∧ ((SqL X.K H1 a xs ∧ SqL X.K H1 b ys ∧ ∃ ρ', Go ρ H ρ' H1 ∧ HR X.K fa ρ' M' H1 ∧ Wlk X.K fa ρ' H1 wk (Itz X.K a b)) ∨ (SqT X.K H1 a xs ∧ SqT X.K H1 b ys ∧ ∃ ρ', Go ρ H ρ' H1 ∧ HR X.K fa ρ' M' H1 ∧ Wlk X.K fa ρ' H1 wk (RZ.ItzT X.K a b)))
theorem snd_zip {tg a b : Expr} {p pos : Pos} {x y : Ex} (c : Cok fa X T nm k C) (hx : isFr T nm "zip" = true) (ht : isTupE tg = true) (ha : okE a = true) (hb : okE b = true) (h1 : SndE fa X a (evE C x)) (h2 : SndE fa X b (evE C y)) : SndI fa X tg (.Call (.Name "zip" p) [a, b] [] pos) (evIt C (.zip x y)) := by
  intro s σ ρ M H wk M' hs hm q
  obtain ⟨es, j, tp, rfl⟩ := isTup_of ht
  obtain ⟨u, m1, q1, q⟩ := R.bind_ok q
  obtain ⟨w, m2, q2, q⟩ := R.bind_ok q
  obtain ⟨g1, g2, g3, g4⟩ := fr_of c hx
  refine ofI (RZ.pi_zipA g1 g3 (pA [a, b]) (ok_star ha _ _) (by rw [ok_star hb]; rfl)) ?_
  refine (snd_cons ha h1 (snd_cons hb h2 snd_nil) s σ ρ M H [u, w] m2 hs hm (by show (evE C _ s M).bind _ = _; rw [q1]; show ((evE C _ s m1).bind _).bind _ = _; rw [q2]; rfl)).thn fun ys H2 kf2 ⟨ρ2, g2, hm2, r2⟩ => ?_
  cases r2 with
  | cons rx rn =>
    cases rn with
    | cons ry rn =>
      cases rn
      have zl : ∀ {xs ys : List D} {x' y' : V}, RD X.K fa ρ2 H2 (.lst xs) x' → RD X.K fa ρ2 H2 (.lst ys) y' → wk = wkT (zipV (xs.map .d) (ys.map .d)) → M' = m2 → iZip_ X fa ρ H wk M' H2 x' y' := by
        intro xs ys x' y' r0 r1 e1 e2
        subst e1 e2
        cases id r0 with
        | lst hx n rs =>
          cases id r1 with
          | lst hy n' rs' => exact ⟨_, _, _, _, rfl, .inl ⟨.inl (.inl hx), .inl (.inl hy), ρ2, g2, hm2, wlk_zipL r0 r1⟩⟩
      have zt : ∀ {xs ys : List D} {x' y' : V}, RD X.K fa ρ2 H2 (.tup xs) x' → RD X.K fa ρ2 H2 (.tup ys) y' → wk = wkT (zipV (xs.map .d) (ys.map .d)) → M' = m2 → iZip_ X fa ρ H wk M' H2 x' y' := by
        intro xs ys x' y' r0 r1 e1 e2
        subst e1 e2
        cases id r0 with
        | tup hx n rs =>
          cases id r1 with
          | tup hy n' rs' => exact ⟨_, _, _, _, rfl, .inr ⟨hx, hy, ρ2, g2, hm2, wlk_zipT r0 r1⟩⟩
      unfold zipW at q
      split at q
      · cases q; exact zl rx ry rfl rfl
      · cases q; exact zt rx ry rfl rfl
      · cases q
/-- what is compiled as a walk -/
theorem snd_cIt {f : Expr → Option Ex} {tg e : Expr} {it : It} (c : Cok fa X T nm k C) (ih : ∀ e x, f e = some x → okE e = true → SndE fa X e (evE C x)) (h : cIt f T nm tg e = some it) : SndI fa X tg e (evIt C it) ∧ okE e = true := by
  have plain : (cE f e).map It.ex = some it → SndI fa X tg e (evIt C it) ∧ okE e = true := by
    intro h
    cases q : cE f e with
    | none => rw [q] at h; cases h
    | some x =>
      rw [q] at h
      cases h
      obtain ⟨k1, k2⟩ := cE_ok q
      exact ⟨snd_itE (ih e x k2 k1), k1⟩
  unfold cIt at h
  split at h
  · split at h
    · rename_i hr
      simp only [Bool.and_eq_true, decide_eq_true_eq] at hr
      obtain ⟨hr, rfl⟩ := hr
      split at h
      · split at h
        · rename_i b q
          cases h
          obtain ⟨k1, k2⟩ := cE_ok q
          exact ⟨snd_rng1 c hr k1 (ih _ _ k2 k1), rfl⟩
        · cases h
      · split at h
        · rename_i q1 q2
          cases h
          obtain ⟨k1, k2⟩ := cE_ok q1
          obtain ⟨k3, k4⟩ := cE_ok q2
          exact ⟨snd_rng2 c hr k1 k3 (ih _ _ k2 k1) (ih _ _ k4 k3), rfl⟩
        · cases h
      · split at h
        · rename_i q1 q2 q3
          cases h
          obtain ⟨k1, k2⟩ := cE_ok q1
          obtain ⟨k3, k4⟩ := cE_ok q2
          obtain ⟨k5, k6⟩ := cE_ok q3
          exact ⟨snd_rng3 c hr k1 k3 k5 (ih _ _ k2 k1) (ih _ _ k4 k3) (ih _ _ k6 k5), rfl⟩
        · cases h
      · cases h
    · split at h
      · rename_i hr
        simp only [Bool.and_eq_true, decide_eq_true_eq] at hr
        obtain ⟨⟨hr, rfl⟩, ht⟩ := hr
        split at h
        · rename_i a
          cases q : cE f a with
          | none => rw [q] at h; cases h
          | some x =>
            rw [q] at h
            cases h
            obtain ⟨k1, k2⟩ := cE_ok q
            exact ⟨snd_enum c hr ht k1 (ih _ _ k2 k1), rfl⟩
        · cases h
      · split at h
        · rename_i hr
          simp only [Bool.and_eq_true, decide_eq_true_eq] at hr
          obtain ⟨⟨hr, rfl⟩, ht⟩ := hr
          split at h
          · split at h
            · rename_i q1 q2
              cases h
              obtain ⟨k1, k2⟩ := cE_ok q1
              obtain ⟨k3, k4⟩ := cE_ok q2
              exact ⟨snd_zip c hr ht k1 k3 (ih _ _ k2 k1) (ih _ _ k4 k3), rfl⟩
            · cases h
          · cases h
        · exact plain h
  · exact plain h
end
end Rf

namespace Rf
open PySem PySem.Spec PyProof.Rows L2
section
variable {fa : Nat → Addr} {X : Cx} {T : Tab} {nm : Nms} {k : Nat} {C : Cal}
variable {ρ ρ1 : Wd} {H H1 H2 : Hp} {M M' : Mem}
theorem seI.thn {tg e : Expr} {σ : L2.St} {H : Hp} {Q Q' : L2.It → Hp → Prop} (h : seI X tg e σ H Q) (q : ∀ v H', KF X.K H' → Q v H' → Q' v H') : seI X tg e σ H Q' := fun pins s I =>
  L2.thn (h pins s I) fun _ _ z => L2.thn z fun _ _ ⟨it, fp, tn, J, H', e, I', a, b, d, r⟩ => ⟨it, fp, tn, J, H', e, I', a, b, d, q _ _ (kf_of I') r⟩
theorem seT.thn' {e : Expr} {σ : L2.St} {H : Hp} {Q Q' : Bool → Hp → Prop} (h : seT X e σ H Q) (q : ∀ v H', Q v H' → Q' v H') : seT X e σ H Q' := h.thn fun v H' _ z => q v H' z

/-! ### a comprehension's block -/
theorem lk_free {sc : Scope} {x : Str} : ∀ {names : List (Str × NameKind)}, names.lookup x = some .free →
    (names.map fun (n, k) => if (k == NameKind.free && sc.kind == .function && sc.names.lookup n == some .cell) then (n, NameKind.cell) else (n, k)).lookup x = some .free ∨
    (names.map fun (n, k) => if (k == NameKind.free && sc.kind == .function && sc.names.lookup n == some .cell) then (n, NameKind.cell) else (n, k)).lookup x = some .cell
  | [], h => by simp at h
  | (n, k₀) :: r, h => by
    have ih := @lk_free sc x r
    show List.lookup x ((if (k₀ == NameKind.free && sc.kind == .function && sc.names.lookup n == some .cell) = true then (n, NameKind.cell) else (n, k₀)) :: (r.map _)) = some .free ∨
      List.lookup x ((if (k₀ == NameKind.free && sc.kind == .function && sc.names.lookup n == some .cell) = true then (n, NameKind.cell) else (n, k₀)) :: (r.map _)) = some .cell
    by_cases hc : (k₀ == NameKind.free && sc.kind == .function && sc.names.lookup n == some .cell) = true
    · rw [if_pos hc]
      cases hx : x == n with
      | true => exact .inr (by simp only [List.lookup_cons, hx])
      | false =>
        simp only [List.lookup_cons, hx] at h ⊢
        exact ih h
    · rw [if_neg hc]
      cases hx : x == n with
      | true =>
        simp only [List.lookup_cons, hx] at h ⊢
        exact .inl h
      | false =>
        simp only [List.lookup_cons, hx] at h ⊢
        exact ih h
abbrev Bk (X : Cx) (sc : Scope) (s : Shared) (H : Hp) (cl : List (Str × Addr)) (C0 : Addr) (fp : List Addr) : Cx := X.blk s H sc (compEnvC sc cl C0 X.env) fp
theorem Cok.blk (c : Cok fa X T nm k C) {sc : Scope} (s : Shared) (H : Hp) (C0 : Addr) (cl : List (Str × Addr)) (fp : List Addr) : Cok fa (Bk X sc s H cl C0 fp) T sc.names k C := by
  refine ⟨c.calm, c.nd, c.N, c.rm, c.k1, fun x kd h n => ?_, fun x h => ?_, c.fn, c.gl, c.fr, fun x h => ?_⟩
  · exact lookup_relS_keep n h
  · exact lk_free h
  · show (sc.names.lookup x == some .cell) = true
    rw [h]; rfl
theorem ixIn_none {x : Str} : ∀ {N : List Str}, ixIn x N = none → x ∉ N
  | [], _ => by simp
  | y :: r, h => by
    unfold ixIn at h
    by_cases e : x = y
    · rw [if_pos e] at h; cases h
    · rw [if_neg e] at h
      have h' := ixIn_none (Option.map_eq_none_iff.mp h)
      simp [e, h']
theorem own_ok : ∀ {names : Nms} {own : List (Str × Nat)}, ownOf T names = some own → (∀ p ∈ own, ixIn p.1 T.N = some p.2) ∧ (∀ y ∈ names, y.2 = .local ∨ y.2 = .cell → (∃ i, (y.1, i) ∈ own) ∨ ixIn y.1 T.N = none)
  | [], own, h => by cases h; exact ⟨fun _ h => (by cases h), fun _ h => (by cases h)⟩
  | (x, kd) :: r, own, h => by
    have stp : (match ixIn x T.N with
      | some i => (ownOf T r).map fun l => (x, i) :: l
      | none => ownOf T r) = some own → (∀ p ∈ own, ixIn p.1 T.N = some p.2) ∧ (∀ y ∈ (x, kd) :: r, y.2 = .local ∨ y.2 = .cell → (∃ i, (y.1, i) ∈ own) ∨ ixIn y.1 T.N = none) := by
      intro h
      split at h
      · rename_i i h1
        obtain ⟨l, h2, rfl⟩ := Option.map_eq_some_iff.mp h
        obtain ⟨a, b⟩ := own_ok h2
        refine ⟨fun p hp => ?_, fun y hy hk => ?_⟩
        · rcases List.mem_cons.mp hp with rfl | hp
          · exact h1
          · exact a p hp
        · rcases List.mem_cons.mp hy with rfl | hy
          · exact .inl ⟨i, List.mem_cons_self⟩
          · rcases b y hy hk with ⟨j, hj⟩ | hj
            · exact .inl ⟨j, List.mem_cons_of_mem _ hj⟩
            · exact .inr hj
      · rename_i h1
        obtain ⟨a, b⟩ := own_ok h
        refine ⟨a, fun y hy hk => ?_⟩
        rcases List.mem_cons.mp hy with rfl | hy
        · exact .inr h1
        · exact b y hy hk
    have skip : ownOf T r = some own → (kd ≠ .local ∧ kd ≠ .cell) → (∀ p ∈ own, ixIn p.1 T.N = some p.2) ∧ (∀ y ∈ (x, kd) :: r, y.2 = .local ∨ y.2 = .cell → (∃ i, (y.1, i) ∈ own) ∨ ixIn y.1 T.N = none) := by
      intro h n
      obtain ⟨a, b⟩ := own_ok h
      refine ⟨a, fun y hy hk => ?_⟩
      rcases List.mem_cons.mp hy with rfl | hy
      · rcases hk with hk | hk
        · exact absurd hk n.1
        · exact absurd hk n.2
      · exact b y hy hk
    cases kd with
    | «local» => exact stp h
    | cell => exact stp h
    | _ => exact skip h ⟨by decide, by decide⟩
theorem blk_ok (c : Cok fa X T nm k C) {sc : Scope} {own : List (Str × Nat)} (ho : ownOf T sc.names = some own) (hb : blkB T nm sc = true) : BlkOk X.N X.env.scope sc own := by
  obtain ⟨a, b⟩ := own_ok ho
  unfold blkB at hb
  simp only [Bool.and_eq_true, decide_eq_true_eq, List.all_eq_true] at hb
  obtain ⟨⟨hk, hu⟩, hf⟩ := hb
  refine ⟨hk, hu, fun p hp => by rw [c.N]; exact ixIn_at (a p hp), fun y hy e => ?_, fun y hy e => ?_⟩
  · have := hf y hy
    rw [e] at this
    simp only at this
    split at this
    · rename_i q; exact .inl (c.na _ _ q (by decide))
    · rename_i q
      rcases c.nf _ q with z | z
      · exact .inr z
      · exact .inl z
    · cases this
  · rcases b y hy e with ⟨i, hi⟩ | hi
    · exact .inl (List.mem_map.mpr ⟨_, hi, rfl⟩)
    · rw [c.N]
      exact .inr (ixIn_none hi)
theorem tgs_own {sc : Scope} {own : List (Str × Nat)} (ho : ownOf T sc.names = some own) : ∀ {x : Str} {i : Nat}, slotS T sc.names x = some i → i ∈ own.map (·.2) := by
  intro x i h
  obtain ⟨a, b⟩ := own_ok ho
  have fin : ∀ kd, sc.names.lookup x = some kd → (kd = .local ∨ kd = .cell) → ixIn x T.N = some i → i ∈ own.map (·.2) := by
    intro kd e hk hi
    obtain ⟨j, hj⟩ : ∃ j, (x, j) ∈ own := (b (x, kd) (PySem.mem_of_lookup e) hk).resolve_right (by rw [hi]; exact fun z => nomatch z)
    have := a _ hj
    have e2 : ixIn x T.N = some j := this
    rw [hi] at e2
    cases e2
    exact List.mem_map.mpr ⟨_, hj, rfl⟩
  unfold slotS at h
  split at h
  · rename_i e; exact fin _ e (.inl rfl) h
  · rename_i e; exact fin _ e (.inr rfl) h
  · cases h
theorem tg_own {sc : Scope} {own : List (Str × Nat)} (ho : ownOf T sc.names = some own) {e : Expr} {t : Tg} (h : cTg T sc.names e = some t) : ∀ i ∈ tgIx t, i ∈ own.map (·.2) := by
  have one : ∀ {e : Expr} {t : Tg}, cT T sc.names e = some t → ∀ i ∈ tgIx t, i ∈ own.map (·.2) := by
    intro e t h
    cases e with
    | Name x p =>
      have h' : (slotS T sc.names x).map Tg.nm = some t := h
      cases q : slotS T sc.names x with
      | none => rw [q] at h'; cases h'
      | some i =>
        rw [q] at h'
        cases h'
        intro j hj
        have : j = i := by simpa [tgIx] using hj
        rw [this]
        exact tgs_own ho q
    | _ => cases h
  have many : ∀ {es : List Expr} {ts : Tgs}, cTs T sc.names es = some ts → ∀ i ∈ tgIxs ts, i ∈ own.map (·.2) := by
    intro es
    induction es with
    | nil => intro ts h; cases h; intro i hi; simp [tgIxs] at hi
    | cons e r ih =>
      intro ts h
      unfold cTs at h
      split at h
      · rename_i a b h1 h2
        cases h
        intro i hi
        simp only [tgIxs, List.mem_append] at hi
        rcases hi with hi | hi
        · exact one h1 i hi
        · exact ih h2 i hi
      · cases h
  cases e with
  | Name x p => exact one (e := .Name x p) h
  | Tuple es j p =>
    have h' : (cTs T sc.names es).map Tg.tup = some t := h
    cases q : cTs T sc.names es with
    | none => rw [q] at h'; cases h'
    | some ts =>
      rw [q] at h'
      cases h'
      intro i hi
      exact many q i (by simpa [tgIx] using hi)
  | _ => cases h

/-! ### readings for all blocks -/
def gB (X : Cx) (sc : Scope) (tg : Expr) : TG := fun v σ H Q => ∀ s0 H0 C0 cl fp, seG (Bk X sc s0 H0 cl C0 fp) tg v σ H Q
def eB (X : Cx) (sc : Scope) (e : Expr) : TE := fun σ H Q => ∀ s0 H0 C0 cl fp, seE (Bk X sc s0 H0 cl C0 fp) e σ H Q
def tB (X : Cx) (sc : Scope) : List Expr → TT
  | [] => tYes
  | [c] => fun σ H Q => ∀ s0 H0 C0 cl fp, seT (Bk X sc s0 H0 cl C0 fp) c σ H Q
  | _ => fun _ _ _ => False
theorem gB_ok {sc : Scope} {tg : Expr} (s0 : Shared) (H0 : Hp) (C0 : Addr) (cl : List (Str × Addr)) (fp : List Addr) : PG (Bk X sc s0 H0 cl C0 fp) tg (gB X sc tg) := ⟨fun pins s _ _ _ u _ I r h => h s0 H0 C0 cl fp pins s u I r⟩
theorem eB_ok {sc : Scope} {e : Expr} (s0 : Shared) (H0 : Hp) (C0 : Addr) (cl : List (Str × Addr)) (fp : List Addr) : PE (Bk X sc s0 H0 cl C0 fp) e (eB X sc e) := ⟨fun pins s _ _ _ I h => h s0 H0 C0 cl fp pins s I⟩
theorem tB_ok {sc : Scope} {ifs : List Expr} (s0 : Shared) (H0 : Hp) (C0 : Addr) (cl : List (Str × Addr)) (fp : List Addr) : PTs (Bk X sc s0 H0 cl C0 fp) ifs (tB X sc ifs) := by
  match ifs with
  | [] => exact pts_nil
  | [c] => exact pts_one ⟨fun pins s _ _ _ I h => h s0 H0 C0 cl fp pins s I⟩
  | _ :: _ :: _ => exact ⟨fun _ _ _ _ _ _ h => h.elim⟩

/-- a turn -/
def fB (C : Cal) (s : Slots) (own : List Nat) (tg : Tg) (c e : Ex) (v : Wv) (m : Mem) : R (Option Val) := match asgW m tg v (wipeS s own) with
  | some s' => (evE C c s' m).bind fun k m => match truth m k with
    | some true => (evE C e s' m).bind fun y m => .ok (some y) m
    | some false => .ok none m
    | none => .no
  | none => .no
theorem fB_ok {C : Cal} {s : Slots} {own : List Nat} {tg : Tg} {c e : Ex} {v : Wv} {m m' : Mem} {o : Option Val} (h : fB C s own tg c e v m = .ok o m') :
    ∃ s' t m1, asgW m tg v (wipeS s own) = some s' ∧ evE C c s' m = .ok t m1 ∧ ((truth m1 t = some true ∧ ∃ y, evE C e s' m1 = .ok y m' ∧ o = some y) ∨ (truth m1 t = some false ∧ o = none ∧ m' = m1)) := by
  unfold fB at h
  split at h
  · rename_i s' q
    obtain ⟨t, m1, q1, h⟩ := R.bind_ok h
    refine ⟨s', t, m1, q, q1, ?_⟩
    split at h
    · rename_i q2
      obtain ⟨y, m2, q3, h⟩ := R.bind_ok h
      cases h
      exact .inl ⟨q2, y, q3, rfl⟩
    · rename_i q2
      cases h
      exact .inr ⟨q2, rfl, rfl⟩
    · cases h
  · cases h
theorem compL_cons {f : Wv → Mem → R (Option Val)} {fin : Mem → Bool} {r : Mem → Option Wv} {rs : List (Mem → Option Wv)} {acc res : List Val} {m m' : Mem} (h : compL f fin (r :: rs) acc m = .ok res m') :
    ∃ w o m1, r m = some w ∧ f w m = .ok o m1 ∧ ((∃ y, o = some y ∧ acc.length < LINE ∧ compL f fin rs (acc ++ [y]) m1 = .ok res m') ∨ (o = none ∧ compL f fin rs acc m1 = .ok res m')) := by
  unfold compL at h
  split at h
  · cases h
  · rename_i w q
    obtain ⟨o, m1, q1, h⟩ := R.bind_ok h
    refine ⟨w, o, m1, q, q1, ?_⟩
    cases o with
    | none => exact .inr ⟨rfl, h⟩
    | some y =>
      have h' : (if acc.length < LINE then compL f fin rs (acc ++ [y]) m1 else .no) = .ok res m' := h
      split at h'
      · rename_i hl; exact .inl ⟨y, rfl, hl, h'⟩
      · cases h'
theorem compL_nil {f : Wv → Mem → R (Option Val)} {fin : Mem → Bool} {acc res : List Val} {m m' : Mem} (h : compL f fin [] acc m = .ok res m') : fin m = true ∧ res = acc ∧ m' = m := by
  unfold compL at h
  split at h
  · cases h; exact ⟨by assumption, rfl, rfl⟩
  · cases h
theorem drop_cons {α : Type} {l : List α} {i : Nat} (h : i < l.length) : ∃ x, l[i]? = some x ∧ l.drop i = x :: l.drop (i + 1) := ⟨l[i], List.getElem?_eq_getElem h, List.drop_eq_getElem_cons h⟩
theorem drop_end {α : Type} {l : List α} {i : Nat} (h : ¬ i < l.length) : l.drop i = [] := List.drop_of_length_le (by omega)

theorem tB_thn {sc : Scope} {ifs : List Expr} {σ : L2.St} {H : Hp} {Q Q' : Bool → Hp → Prop} (h : tB X sc ifs σ H Q) (q : ∀ b H', Q b H' → Q' b H') : tB X sc ifs σ H Q' := by
  match ifs with
  | [] => exact q _ _ h
  | [c] => exact fun s0 H0 C0 cl fp => seT.thn (h s0 H0 C0 cl fp) fun b H' _ z => q b H' z
  | _ :: _ :: _ => exact h.elim
theorem go_step {ρ' : Wd} {D : Addr} {o : HO} (g : Go ρ H ρ' H1) (hD : H D = none) : Go ρ H ρ' (upd H1 D o) := by
  refine ⟨g.gr, g.zz, fun b x e n => ?_, fun b e => ?_⟩
  · rw [upd_ne (fun z => by rw [z, hD] at e; cases e)]
    exact g.fr b x e n
  · by_cases z : b = D
    · rw [z, upd_same]; simp
    · rw [upd_ne z]; exact g.dm b e
theorem go_take {l zs : List Addr} {D : Addr} (g : Go ρ H ⟨l, zs⟩ H1) (hD : H D = none) : Go ρ H ⟨l ++ [D], zs⟩ H1 := by
  obtain ⟨⟨n, e, h⟩, z, f, d⟩ := g
  refine ⟨⟨n ++ [D], ?_, fun a ha => ?_⟩, z, f, d⟩
  · show l ++ [D] = ρ.l ++ (n ++ [D])
    have e' : l = ρ.l ++ n := e
    rw [e', List.append_assoc]
  · rcases List.mem_append.mp ha with ha | ha
    · exact h a ha
    · have e : a = D := by simpa using ha
      rw [e]; exact hD

/-- what stays between the turns -/
def LcW (K : PySem.W.Frag) (fa : Nat → Addr) (f : Wv → Mem → R (Option Val)) (wk : Wk) (ρ1 : Wd) (H1 : Hp) (D : Addr) (acc : List Val) (m2 : Mem) (i n : Nat) (H : Hp) : Prop :=
  ∃ l M ac vs, Go ρ1 H1 ⟨l, ρ1.z⟩ H ∧ D ∉ l ∧ H D = some (.lst vs) ∧ HR K fa ⟨l, D :: ρ1.z⟩ M H ∧ RVs K fa ⟨l, D :: ρ1.z⟩ H ac vs ∧ i ≤ wk.rs.length ∧ n = wk.rs.length - i ∧ compL f wk.fin (wk.rs.drop i) ac M = .ok acc m2
theorem lc_core {tg it elt : Expr} {ifs : List Expr} {sc : Scope} {own : List Nat} {t : Tg} {xi : It} {xc xe : Ex} {z : Bool} (hi : SndI fa X tg it (evIt C xi))
    (hg : ∀ s0 H0 C0 cl fp {ρ : Wd} {M : Mem} {H : Hp} {s s' : Slots} {σ : L2.St} {w : Wv} {x : V}, SR X.K fa ρ H s σ → HR X.K fa ρ M H → WV X.K fa ρ H w x → asgW M t w s = some s' → seG (Bk X sc s0 H0 cl C0 fp) tg x σ H (TgQ fa X ρ H s' own σ))
    (hc : ∀ s σ ρ M H v M' b, SR X.K fa ρ H s σ → HR X.K fa ρ M H → evE C xc s M = .ok v M' → truth M' v = some b → tB X sc ifs σ H (PoT X.K fa ρ H b M'))
    (he : ∀ s0 H0 C0 cl fp, SndE fa (Bk X sc s0 H0 cl C0 fp) elt (evE C xe))
    {s : Slots} {σ : L2.St} {ρ : Wd} {M : Mem} {H : Hp} {v : Val} {M' : Mem} (hs : SR X.K fa ρ H s σ) (hm : HR X.K fa ρ M H) (q : evE C (.cmpr z own t xi xc xe) s M = .ok v M') {Q : VK} (fin : ∀ x H', PoE X.K fa ρ H v M' x H' → Q x H') :
    tLc (seI X tg it) (gB X sc tg) (tB X sc ifs) (eB X sc elt) own σ H Q := by
  obtain ⟨wk, m1, q1, q⟩ := R.bind_ok q
  obtain ⟨acc, m2, q2, q⟩ := R.bind_ok q
  have q2 : compL (fB C s own t xc xe) wk.fin wk.rs [] m1 = .ok acc m2 := q2
  refine (hi s σ ρ M H wk m1 hs hm q1).thn fun J H1 kf ⟨ρ1, g1, hm1, wl⟩ => fun D hD => ?_
  have hs1 := hs.go g1
  refine ⟨LcW X.K fa (fB C s own t xc xe) wk ρ1 H1 D acc m2, ⟨wk.rs.length, ρ1.l, m1, [], [], go_new hD, (hm1.out hD).1, upd_same, hm1.hide hD, .nil, Nat.zero_le _, rfl, q2⟩, ?_⟩
  rintro i n H2 ⟨l, M2, ac, vs, g2, hDl, hDv, hm2, rs2, hi2, rfl, q3⟩
  -- from the walk's start to here, D hidden
  have k0 : Kp ρ1 H1 ⟨l, D :: ρ1.z⟩ H2 := ⟨fun p o e w => by
    have h := g2.kp.rd p o e w
    have ne : p ≠ D := fun z => by rw [z, hD] at e; cases e
    exact ⟨h.1, h.2.1, fun m => (List.mem_cons.mp m).elim ne w.2⟩⟩
  have p0 : Pl ρ1 ⟨l, D :: ρ1.z⟩ := fun i a e => g2.pl i a e
  have wl2 := wl ⟨l, D :: ρ1.z⟩ M2 H2 k0 p0 hm2
  have hs2 : SR X.K fa ⟨l, D :: ρ1.z⟩ H2 s σ := hs1.kp k0 p0
  by_cases hlt : i < wk.rs.length
  · obtain ⟨r, er, ed⟩ := drop_cons hlt
    rw [ed] at q3
    obtain ⟨w, o, m3, q4, q5, q6⟩ := compL_cons q3
    obtain ⟨go, yl⟩ := wl2.1 i r w er q4
    refine .inr ⟨go, fun H' => ∃ m', m' < wk.rs.length - i ∧ LcW X.K fa (fB C s own t xc xe) wk ρ1 H1 D acc m2 (i + 1) m' H', fun H' h => h, fun x H3 y3 => ?_⟩
    obtain ⟨g3, hm3, wv3⟩ := yl x H3 y3
    obtain ⟨s', tv, m4, q7, q8, q9⟩ := fB_ok q5
    intro s0 H0 C0 cl fp
    refine (hg s0 H0 C0 cl fp (wipe_sr (hs2.go g3) own) hm3 wv3 q7).thn fun σ4 H4 ⟨e4, hs4, w4⟩ => ?_
    subst e4
    have D3 : H4 D = some (.lst vs) := g3.fr _ _ hDv hDl
    refine ⟨?_, ?_⟩
    · rw [w4 own fun _ h => h]
      have idem : ∀ vs : List Nat, (∀ i ∈ vs, ∀ x, (L2.wipe σ vs)[i]? = some (some x) → False) := fun vs i hi x e => (L2.wipe_some e).2 hi
      have : ∀ (τ : L2.St) (ws : List Nat), (∀ i ∈ ws, τ[i]? = some none ∨ τ[i]? = none) → L2.wipe τ ws = τ := by
        intro τ ws
        induction ws with
        | nil => intro _; rfl
        | cons a as ih =>
          intro h
          show (L2.wipe τ as).set a none = τ
          rw [ih fun i hi => h i (List.mem_cons_of_mem _ hi)]
          rcases h a List.mem_cons_self with e | e
          · obtain ⟨h1, h2⟩ := List.getElem?_eq_some_iff.mp e
            rw [← h2]
            exact List.set_getElem_self h1
          · exact List.set_eq_of_length_le (List.getElem?_eq_none_iff.mp e)
      refine this _ own fun i hi => ?_
      cases e : (L2.wipe σ own)[i]? with
      | none => exact .inr rfl
      | some o =>
        cases o with
        | none => exact .inl rfl
        | some x => exact (idem own i hi x e).elim
    -- the test
    have hmz := hm3
    have run : ∀ b, truth m4 tv = some b → (∀ b' H5, PoT X.K fa ⟨l, D :: ρ1.z⟩ H4 b m4 b' H5 → if b' = true then eB X sc elt σ4 H5 (fun y H4 => ∃ av, H4 D = some (.lst av) ∧ av.length < sizeLine ∧ (fun H' => ∃ m', m' < wk.rs.length - i ∧ LcW X.K fa (fB C s own t xc xe) wk ρ1 H1 D acc m2 (i + 1) m' H') (upd H4 D (.lst (av ++ [y])))) else (fun H' => ∃ m', m' < wk.rs.length - i ∧ LcW X.K fa (fB C s own t xc xe) wk ρ1 H1 D acc m2 (i + 1) m' H') H5) → _ := fun b hb fin => tB_thn (hc s' σ4 _ _ H4 tv m4 b hs4 hm3 q8 hb) fin
    rcases q9 with ⟨tr, y, q10, rfl⟩ | ⟨tr, rfl, rfl⟩
    · refine run true tr fun b' H5 ⟨ρ5, g5, hm5, eb⟩ => ?_
      subst eb
      rw [if_pos rfl]
      obtain ⟨l5, z5⟩ := ρ5
      have ez : z5 = D :: ρ1.z := g5.zz
      subst ez
      have D5n : D ∉ l5 := g5.nl hDl (by rw [D3]; simp)
      have D5 : H5 D = some (.lst vs) := g5.fr _ _ D3 hDl
      intro s0 H0 C0 cl fp
      refine (he s0 H0 C0 cl fp s' σ4 _ m4 H5 y m3 (hs4.go g5) hm5 q10).thn fun yv H6 _ ⟨ρ6, g6, hm6, r6⟩ => ?_
      obtain ⟨l6, z6⟩ := ρ6
      have ez : z6 = D :: ρ1.z := g6.zz
      subst ez
      have D6n : D ∉ l6 := g6.nl D5n (by rw [D5]; simp)
      have D6 : H6 D = some (.lst vs) := g6.fr _ _ D5 D5n
      rcases q6 with ⟨y', ey, hl6, q11⟩ | ⟨ey, _⟩
      · cases ey
        refine ⟨vs, D6, by rw [← rs2.length, ← line_eq]; exact hl6, wk.rs.length - (i + 1), by omega, l6, m3, ac ++ [y], vs ++ [yv], ?_, D6n, upd_same, ?_, ?_, hlt, rfl, q11⟩
        · exact go_step (g2.trans ((g3.trans (g5.trans g6)).drop)) hD
        · exact hm6.step List.mem_cons_self D6n
        · exact ((((rs2.go g3).go g5).go g6).append (.cons r6 .nil)).kp (kp_step List.mem_cons_self) fun i a e => e
      · cases ey
    · refine run false tr fun b' H5 ⟨ρ5, g5, hm5, eb⟩ => ?_
      subst eb
      rw [if_neg Bool.false_ne_true]
      obtain ⟨l5, z5⟩ := ρ5
      have ez : z5 = D :: ρ1.z := g5.zz
      subst ez
      have D5n : D ∉ l5 := g5.nl hDl (by rw [D3]; simp)
      have D5 : H5 D = some (.lst vs) := g5.fr _ _ D3 hDl
      rcases q6 with ⟨y', ey, _⟩ | ⟨_, q11⟩
      · cases ey
      · exact ⟨wk.rs.length - (i + 1), by omega, l5, m3, ac, vs, g2.trans ((g3.trans g5).drop), D5n, D5, hm5, (rs2.go g3).go g5, hlt, rfl, q11⟩
  · rw [drop_end hlt] at q3
    obtain ⟨hf, ea, em⟩ := compL_nil q3
    have hie : i = wk.rs.length := by omega
    subst hie
    subst ea em
    refine .inl ⟨wl2.2 hf, ?_⟩
    cases z with
    | true =>
      have e' : (match datas acc with
        | some ds => R.ok (Val.d (.lst ds)) m2
        | none => .no) = .ok v M' := q
      split at e'
      · rename_i ds qd
        cases e'
        exact fin _ _ ⟨⟨l, ρ1.z⟩, g1.trans g2, hm2.shown, .lst hDv ⟨hDl, (hm1.out hD).2⟩ ((RVs.ds rs2 qd).kp kp_show)⟩
      · cases e'
    | false =>
      cases q
      refine fin _ _ ⟨⟨l ++ [D], ρ1.z⟩, g1.trans (go_take g2 hD), hm2.adopt kp_take rfl (fun _ _ => rfl) hDv hDl (fun a m => hm2.zr a (List.mem_cons_of_mem _ m)) (rs2.kp kp_take fun i a e => ?_), D, ?_, rfl⟩
      · show (l ++ [D])[i]? = some a
        rw [List.getElem?_append_left (by exact (List.getElem?_eq_some_iff.mp e).1)]
        exact e
      · show (l ++ [D])[m2.length]? = some D
        rw [← hm2.len, List.getElem?_append_right (Nat.le_refl _), Nat.sub_self]
        rfl
theorem snd_lc {tg it elt : Expr} {ifs : List Expr} {sc : Scope} {own : List (Str × Nat)} {t : Tg} {xi : It} {xc xe : Ex} {z : Bool} {pos : Pos} (c : Cok fa X T nm k C) (hi : SndI fa X tg it (evIt C xi)) (hk : okE it = true) (ok : BlkOk X.N X.env.scope sc own)
    (hg : ∀ s0 H0 C0 cl fp {ρ : Wd} {M : Mem} {H : Hp} {s s' : Slots} {σ : L2.St} {w : Wv} {x : V}, SR X.K fa ρ H s σ → HR X.K fa ρ M H → WV X.K fa ρ H w x → asgW M t w s = some s' → seG (Bk X sc s0 H0 cl C0 fp) tg x σ H (TgQ fa X ρ H s' (own.map (·.2)) σ))
    (hc : ∀ s σ ρ M H v M' b, SR X.K fa ρ H s σ → HR X.K fa ρ M H → evE C xc s M = .ok v M' → truth M' v = some b → tB X sc ifs σ H (PoT X.K fa ρ H b M'))
    (he : ∀ s0 H0 C0 cl fp, SndE fa (Bk X sc s0 H0 cl C0 fp) elt (evE C xe)) :
    SndE fa X (.ListComp elt [⟨tg, it, ifs, 0⟩] sc pos) (evE C (.cmpr z (own.map (·.2)) t xi xc xe)) := by
  intro s σ ρ M H v M' hs hm q
  exact ofE (pe_lc c.calm c.nd (pI tg it) ok (fun s0 H0 C0 cl fp => gB_ok s0 H0 C0 cl fp) (fun s0 H0 C0 cl fp => tB_ok s0 H0 C0 cl fp) (fun s0 H0 C0 cl fp => eB_ok s0 H0 C0 cl fp) (ok_fold hk X.env)) (lc_core hi hg hc he hs hm q fun _ _ z => z)
end
end Rf

namespace Rf
open PySem PySem.Spec PyProof.Rows L2
section
variable {fa : Nat → Addr} {T : Tab} {k : Nat} {C : Cal}
theorem pt_ite {X : Cx} {c a b : Expr} {tc ta tb : TT} {pos : Pos} (hc : PT X c tc) (ha : PT X a ta) (hb : PT X b tb) : PT X (.IfExp c a b pos) (fun σ H Q => tc σ H fun t H1 => if t = true then ta σ H1 Q else tb σ H1 Q) := ⟨fun pins s σ H Q I h => by
  show wpAny _ _ (isTrue c X.env (eval c X.env) >>= fun t => if t = true then isTrue a X.env (eval a X.env) else isTrue b X.env (eval b X.env)) _ _ _
  refine wpAny_bind (L2.thn (hc.run pins s σ H _ I h) fun d s1 ⟨H1, I1, q1⟩ => ?_)
  cases d with
  | true => exact ha.run pins s1 σ H1 Q I1 q1
  | false => exact hb.run pins s1 σ H1 Q I1 q1⟩
theorem tst_ite {X : Cx} {c a b : Expr} {p : Pos} {z x y : Ex} (h0 : SndT fa X c (evE C z)) (h1 : SndT fa X a (evE C x)) (h2 : SndT fa X b (evE C y)) : SndT fa X (.IfExp c a b p) (evE C (.ite z x y)) := by
  intro s σ ρ M H v M' tb hs hm q tr
  obtain ⟨u, m1, q1, q⟩ := ite_core q
  rcases q with ⟨t, q⟩ | ⟨t, q⟩
  · refine ofT (pt_ite (pT c) (pT a) (pT b)) ((h0 s σ ρ M H u m1 true hs hm q1 t).thn fun z H1 kf ⟨ρ1, g1, hm1, r1⟩ => ?_)
    subst r1
    rw [if_pos rfl]
    exact (h1 s σ ρ1 m1 H1 v M' tb (hs.go g1) hm1 q tr).thn fun z H2 _ po => po.back g1
  · refine ofT (pt_ite (pT c) (pT a) (pT b)) ((h0 s σ ρ M H u m1 false hs hm q1 t).thn fun z H1 kf ⟨ρ1, g1, hm1, r1⟩ => ?_)
    subst r1
    rw [if_neg Bool.false_ne_true]
    exact (h2 s σ ρ1 m1 H1 v M' tb (hs.go g1) hm1 q tr).thn fun z H2 _ po => po.back g1
theorem snd_one {X : Cx} {a : Expr} {op : BoolOp} {p : Pos} {x : Ex} (h : SndE fa X a (evE C x)) : SndE fa X (.BoolOp op [a] p) (evE C x) := by
  intro s σ ρ M H v M' hs hm q
  exact h s σ ρ M H v M' hs hm q
theorem cL_one {f : Expr → Option Ex} {e : Expr} {xs : Exs} (h : cL f [e] = some xs) : ∃ y, cE f e = some y ∧ xs = .cons y .nil := by
  have h' : (match cE f e, (some Exs.nil : Option Exs) with
    | some a, some b => some (Exs.cons a b)
    | _, _ => none) = some xs := h
  split at h'
  · rename_i a b q1 q2
    cases q2
    cases h'
    exact ⟨_, q1, rfl⟩
  · cases h'
theorem cIf_ok {f : Expr → Option Ex} {ifs : List Expr} {x : Ex} (h : cIf f ifs = some x) : (ifs = [] ∧ x = .con (.bl true)) ∨ ∃ c, ifs = [c] ∧ cE f c = some x := by
  match ifs, h with
  | [], h => cases h; exact .inl ⟨rfl, rfl⟩
  | [c], h => exact .inr ⟨c, rfl, h⟩
  | _ :: _ :: _, h => cases h
theorem notC0_of {o : Expr} (h : ∀ id p q, o = .Call (.Name id p) [] [] q → False) : notC0 o = true := by
  unfold notC0
  split
  · exact (h _ _ _ rfl).elim
  · rfl
/-- both readings -/
def Snd (fa : Nat → Addr) (C : Cal) (X : Cx) (e : Expr) (x : Ex) : Prop := SndE fa X e (evE C x) ∧ SndT fa X e (evE C x)
theorem Snd.val {X : Cx} {e : Expr} {x : Ex} (ht : tvE e = true) (h : SndE fa X e (evE C x)) : Snd fa C X e x := ⟨h, tst_val ht h⟩
theorem snd_bool {X : Cx} {f : Expr → Option Ex} {op : BoolOp} {p : Pos} (ih : ∀ e x, f e = some x → okE e = true → Snd fa C X e x) : ∀ {es : List Expr} {x : Ex}, cBool f op es = some x → SndE fa X (.BoolOp op es p) (evE C x) ∧ SndW fa X (.BoolOp op es p) (evE C x)
  | [], x, h => by cases h
  | [e], x, h => by
    obtain ⟨k1, k2⟩ := cE_ok (show cE f e = some x from h)
    obtain ⟨a, b⟩ := ih e x k2 k1
    exact ⟨snd_one a, tst_one b⟩
  | e :: e2 :: r, x, h => by
    have h' : (match cE f e, cBool f op (e2 :: r) with
      | some a, some b => some (bEx op a b)
      | _, _ => none) = some x := h
    split at h'
    · rename_i a b q1 q2
      cases h'
      obtain ⟨k1, k2⟩ := cE_ok q1
      obtain ⟨a1, a2⟩ := ih e a k2 k1
      obtain ⟨b1, b2⟩ := snd_bool ih q2
      cases op with
      | And => exact ⟨snd_and a1 b1, tst_and a2 b2⟩
      | Or => exact ⟨snd_or a1 b1, tst_or a2 b2⟩
    · cases h'
/-! ### dict displays -/
def trsOf (X : Cx) : List (Option Expr) → List Expr → List (TE × TE)
  | some k :: ks, v :: vs => (seE X k, seE X v) :: trsOf X ks vs
  | _, _ => []
theorem pps_of {X : Cx} {pos : Pos} : ∀ {ks : List (Option Expr)} {vs es : List Expr}, altL ks vs = some es → PPs X pos ks vs (trsOf X ks vs) ∧ ks.all (·.isSome) = true ∧ ks.length = vs.length
  | [], [], _, _ => ⟨pps_nil, rfl, rfl⟩
  | [], _ :: _, _, h => by cases h
  | none :: _, _, _, h => by cases h
  | some k :: ks, [], _, h => by cases h
  | some k :: ks, v :: vs, es, h => by
    obtain ⟨r, h2, rfl⟩ := Option.map_eq_some_iff.mp (show (altL ks vs).map (fun r => k :: v :: r) = some es from h)
    obtain ⟨a, b, c⟩ := pps_of (pos := pos) (X := X) h2
    exact ⟨pps_cons (pE k) (pE v) a, by simpa using b, by simp [c]⟩
theorem pairs_run {X : Cx} {f : Expr → Option Ex} (ih : ∀ e x, f e = some x → okE e = true → SndE fa X e (evE C x)) : ∀ {ks : List (Option Expr)} {vs es : List Expr} {xs : Exs}, altL ks vs = some es → cL f es = some xs →
    ∀ {s : Slots} {σ : L2.St} {ρ : Wd} {M : Mem} {H : Hp} {us : List Val} {M' : Mem} {prs : List (D × D)}, SR X.K fa ρ H s σ → HR X.K fa ρ M H → evEs C xs s M = .ok us M' → pairsD us = some prs →
      ∀ Q : List (V × V) → Hp → Prop, (∀ (kvs : List (Key × V)) H' ρ', Go ρ H ρ' H' → HR X.K fa ρ' M' H' → RKs X.K fa ρ' H' prs kvs → Q (kvs.map fun kv => (kV kv.1, kv.2)) H') → tPairs (trsOf X ks vs) σ H Q
  | [], [], es, xs, h, hc, s, σ, ρ, M, H, us, M', prs, hs, hm, q, hp, Q, fin => by
    cases h
    cases hc
    cases q
    cases hp
    exact fin [] H ρ .refl hm .nil
  | [], _ :: _, _, _, h, _, _, _, _, _, _, _, _, _, _, _, _, _, _, _ => by cases h
  | none :: _, _, _, _, h, _, _, _, _, _, _, _, _, _, _, _, _, _, _, _ => by cases h
  | some k :: ks, [], _, _, h, _, _, _, _, _, _, _, _, _, _, _, _, _, _, _ => by cases h
  | some k :: ks, v :: vs, es, xs, h, hc, s, σ, ρ, M, H, us, M', prs, hs, hm, q, hp, Q, fin => by
    obtain ⟨r, h2, rfl⟩ := Option.map_eq_some_iff.mp (show (altL ks vs).map (fun r => k :: v :: r) = some es from h)
    have hc' : (match cE f k, cL f (v :: r) with
      | some a, some b => some (Exs.cons a b)
      | _, _ => none) = some xs := hc
    split at hc'
    · rename_i a b q1 q2
      cases hc'
      have q2' : (match cE f v, cL f r with
        | some a, some b => some (Exs.cons a b)
        | _, _ => none) = some b := q2
      split at q2'
      · rename_i a2 b2 q3 q4
        cases q2'
        obtain ⟨u1, m1, e1, q⟩ := R.bind_ok q
        obtain ⟨ur, m2, e2, q⟩ := R.bind_ok q
        cases q
        obtain ⟨u2, m3, e3, e2⟩ := R.bind_ok e2
        obtain ⟨ur2, m4, e4, e2⟩ := R.bind_ok e2
        cases e2
        obtain ⟨k1, k2⟩ := cE_ok q1
        obtain ⟨k3, k4⟩ := cE_ok q3
        cases u1 with
        | r _ => cases hp
        | d kd =>
          cases u2 with
          | r _ => cases hp
          | d vd =>
            have hp' : (if keyB kd then (pairsD ur2).map fun l => (kd, vd) :: l else none) = some prs := hp
            split at hp'
            · rename_i hk
              obtain ⟨l, hl, rfl⟩ := Option.map_eq_some_iff.mp hp'
              refine (ih k a k2 k1 s σ ρ M H _ m1 hs hm e1).thn fun x H1 _ ⟨ρ1, g1, hm1, r1⟩ => ?_
              refine (ih v a2 k4 k3 s σ ρ1 m1 H1 _ m3 (hs.go g1) hm1 e3).thn fun y H2 _ ⟨ρ2, g2, hm2, r2⟩ => ?_
              refine pairs_run ih h2 q4 ((hs.go g1).go g2) hm2 e4 hl _ fun kvs H3 ρ3 g3 hm3 r3 => ?_
              obtain ⟨k', ek, hkr⟩ := key_of (X := X) hk ((r1.go g2).go g3)
              subst ek
              exact fin ((k', y) :: kvs) H3 ρ3 ((g1.trans g2).trans g3) hm3 (.cons hkr (r2.go g3) r3)
            · cases hp'
      · cases q2'
    · cases hc'
theorem put_rel {X : Cx} {ρ : Wd} {H : Hp} {k d : D} {k' : Key} {v : V} (hk : KR k k') (hv : RD X.K fa ρ H d v) {kvs : List (D × D)} {ks : List (Key × V)} (r : RKs X.K fa ρ H kvs ks) : RKs X.K fa ρ H (putD kvs k d) (putK ks k' v) := by
  have e : (ks.any fun kv => decide (kv.1 = k')) = (kvs.any fun q => keq q.1 k) := by
    rw [valV_any]; exact any_key hk r
  unfold putD putK
  rw [e]
  split
  · have mp : ∀ {kvs : List (D × D)} {ks : List (Key × V)}, RKs X.K fa ρ H kvs ks → RKs X.K fa ρ H (kvs.map fun q => if keq q.1 k = true then (q.1, d) else q) (ks.map fun kv => if kv.1 = k' then (kv.1, v) else kv) := by
      intro kvs
      induction kvs with
      | nil => intro ks r; cases r; exact .nil
      | cons q kvs ih =>
        intro ks r
        cases r with
        | cons h1 h2 h3 =>
          rw [List.map_cons, List.map_cons]
          have e2 := keq_of h1 hk
          rename_i a b a' b' _
          by_cases c : a' = k'
          · have e3 : keq a k = true := by rw [e2]; exact decide_eq_true c
            rw [if_pos e3, if_pos c]
            exact .cons h1 hv (ih h3)
          · have e3 : ¬ keq a k = true := by rw [e2]; simpa using c
            rw [if_neg e3, if_neg c]
            exact .cons h1 h2 (ih h3)
    exact mp r
  · have ap : ∀ {kvs : List (D × D)} {ks : List (Key × V)}, RKs X.K fa ρ H kvs ks → RKs X.K fa ρ H (kvs ++ [(k, d)]) (ks ++ [(k', v)]) := by
      intro kvs
      induction kvs with
      | nil => intro ks r; cases r; exact .cons hk hv .nil
      | cons q kvs ih =>
        intro ks r
        cases r with
        | cons h1 h2 h3 => exact .cons h1 h2 (ih h3)
    exact ap r
theorem merge_rel {X : Cx} {ρ : Wd} {H : Hp} : ∀ {prs : List (D × D)} {more : List (Key × V)}, RKs X.K fa ρ H prs more → ∀ {kvs : List (D × D)} {ks : List (Key × V)}, RKs X.K fa ρ H kvs ks → RKs X.K fa ρ H (prs.foldl (fun acc q => putD acc q.1 q.2) kvs) (mergeK ks more)
  | [], _, r, kvs, ks, h => by cases r; exact h
  | q :: prs, _, r, kvs, ks, h => by
    cases r with
    | cons h1 h2 h3 => exact merge_rel h3 (put_rel h1 h2 h)
theorem RKs.length {K : PySem.W.Frag} {ρ : Wd} {H : Hp} : ∀ {kvs : List (D × D)} {ks : List (Key × V)}, RKs K fa ρ H kvs ks → kvs.length = ks.length
  | _, _, .nil => rfl
  | _, _, .cons _ _ r => by simp [RKs.length r]
theorem snd_dct {X : Cx} {ks : List (Option Expr)} {vs es : List Expr} {p : Pos} {f : Expr → Option Ex} {xs : Exs} (h0 : 0 < ks.length) (h15 : ks.length ≤ 15) (ha : altL ks vs = some es) (hc : cL f es = some xs) (ih : ∀ e x, f e = some x → okE e = true → SndE fa X e (evE C x)) :
    SndE fa X (.Dict ks vs p) (evE C (.dct xs)) := by
  intro s σ ρ M H v M' hs hm q
  obtain ⟨us, m1, q1, q⟩ := R.bind_ok q
  obtain ⟨d, m2, q2, q⟩ := R.bind_ok q
  obtain ⟨q3, em⟩ := R.opt_ok q2
  subst em
  cases q
  unfold mkDct at q3
  split at q3
  · rename_i prs hp
    split at q3
    · rename_i hl
      cases q3
      obtain ⟨P, a1, a2⟩ := pps_of (X := X) (pos := p) ha
      refine ofE (pe_disp P a1 a2 (fun e => by rw [e] at h0; cases h0) h15) fun a hn => ?_
      have hmh := hm.hide hn (o := HO.dK [])
      have hsh := hs.kp (kp_hide hn (o := HO.dK [])) (fun i b e => e)
      refine pairs_run ih ha hc hsh hmh q1 hp _ fun kvs H2 ρ2 g2 hm2 r2 => ?_
      obtain ⟨l2, z2⟩ := ρ2
      have ez : z2 = a :: ρ.z := g2.zz
      subst ez
      have oa := hm.out hn
      have ha2 : H2 a = some (.dK []) := g2.fr _ _ upd_same oa.1
      have na : a ∉ l2 := g2.nl oa.1 (by rw [upd_same]; simp)
      refine ⟨ha2, kvs, rfl, by rw [← r2.length]; exact hl, ⟨l2, ρ.z⟩, ?_, ?_, ?_⟩
      · exact go_step ((go_new hn).trans g2.drop) hn
      · exact (hm2.step (List.mem_cons_self) na).shown
      · exact .dct upd_same ⟨na, oa.2⟩ (((merge_rel r2 .nil).kp (kp_step List.mem_cons_self)).kp kp_show)
    · cases q3
  · cases q3
/-- a list comprehension's parts -/
structure LcH (fa : Nat → Addr) (C : Cal) (X : Cx) (tg it elt : Expr) (ifs : List Expr) (sc : Scope) (own : List (Str × Nat)) (t : Tg) (xi : It) (xc xe : Ex) : Prop where
  hi : SndI fa X tg it (evIt C xi)
  hk : okE it = true
  ok : BlkOk X.N X.env.scope sc own
  hg : ∀ s0 H0 C0 cl fp {ρ : Wd} {M : Mem} {H : Hp} {s s' : Slots} {σ : L2.St} {w : Wv} {x : V}, SR X.K fa ρ H s σ → HR X.K fa ρ M H → WV X.K fa ρ H w x → asgW M t w s = some s' → seG (Bk X sc s0 H0 cl C0 fp) tg x σ H (TgQ fa X ρ H s' (own.map (·.2)) σ)
  hc : ∀ s σ ρ M H v M' b, SR X.K fa ρ H s σ → HR X.K fa ρ M H → evE C xc s M = .ok v M' → truth M' v = some b → tB X sc ifs σ H (PoT X.K fa ρ H b M')
  he : ∀ s0 H0 C0 cl fp, SndE fa (Bk X sc s0 H0 cl C0 fp) elt (evE C xe)
theorem lc_of {n : Nat} (IH : ∀ {X : Cx} {nm : Nms}, Cok fa X T nm k C → ∀ (e : Expr) (x : Ex), compE n T nm e = some x → Snd fa C X e x) {X : Cx} {nm : Nms} (c : Cok fa X T nm k C) {elt tg it : Expr} {ifs : List Expr} {sc : Scope} {own : List (Str × Nat)} {xi : It} {t : Tg} {xc xe : Ex}
    (qo : ownOf T sc.names = some own) (qb : blkB T nm sc = true) (qi : cIt (compE n T nm) T nm tg it = some xi) (qt : cTg T sc.names tg = some t) (qc : cIf (compE n T sc.names) ifs = some xc) (qe : cE (compE n T sc.names) elt = some xe) : LcH fa C X tg it elt ifs sc own t xi xc xe := by
  obtain ⟨si, sk⟩ := snd_cIt c (fun e x h _ => (IH c e x h).1) qi
  obtain ⟨ke, he⟩ := cE_ok qe
  refine ⟨si, sk, blk_ok c qo qb, fun s0 H0 C0 cl fp ρ M H s s' σ w x hs hm r q => ?_, ?_, fun s0 H0 C0 cl fp => ?_⟩
  · exact (snd_tg (c.blk s0 H0 C0 cl fp) qt hs hm r q).thn fun σ' H' ⟨e1, e2, e3⟩ => ⟨e1, e2, fun vs hv => e3 vs fun i hi => hv i (tg_own qo qt i hi)⟩
  · intro s σ ρ M H v M' b hs hm q tr
    rcases cIf_ok qc with ⟨rfl, rfl⟩ | ⟨cd, rfl, qc⟩
    · cases q
      have e : true = b := Option.some.inj tr
      subst e
      exact ⟨ρ, .refl, hm, rfl⟩
    · obtain ⟨kc, hc⟩ := cE_ok qc
      exact fun s0 H0 C0 cl fp => (IH (c.blk s0 H0 C0 cl fp) cd _ hc).2 s σ ρ M H v M' b hs hm q tr
  · exact (IH (c.blk s0 H0 C0 cl fp) _ _ he).1
/-- an expression that is compiled comes to what is evaluated -/
theorem snd_exp : ∀ (n : Nat) {X : Cx} {nm : Nms}, Cok fa X T nm k C → ∀ (e : Expr) (x : Ex), compE n T nm e = some x → Snd fa C X e x
  | 0, _, _, _, _, _, h => by cases h
  | n + 1, X, nm, c, e, x, h => by
    have ih : ∀ e x, compE n T nm e = some x → okE e = true → Snd fa C X e x := fun e x h _ => snd_exp n c e x h
    have ih1 : ∀ e x, compE n T nm e = some x → okE e = true → SndE fa X e (evE C x) := fun e x h _ => (snd_exp n c e x h).1
    have sub : ∀ {e x}, cE (compE n T nm) e = some x → okE e = true ∧ Snd fa C X e x := fun {e x} q => ⟨(cE_ok q).1, snd_exp n c e x (cE_ok q).2⟩
    have lst : ∀ {es xs}, cL (compE n T nm) es = some xs → SndA fa X es (evEs C xs) := fun {es xs} q => snd_cL ih1 q
    unfold compE at h
    split at h
    · -- constants
      split at h
      · cases h; exact .val rfl snd_int
      · split at h
        · rename_i hl; cases h; exact .val rfl (snd_str hl.1 hl.2)
        · cases h
      · cases h; exact .val rfl snd_bl
      · cases h; exact .val rfl snd_non
      · cases h
    · -- names
      split at h
      · rename_i i q
        cases h; exact .val rfl (snd_var c q)
      · split at h
        · rename_i hg
          obtain ⟨g, q, rfl⟩ := Option.map_eq_some_iff.mp h
          exact .val rfl (snd_glo c hg q)
        · cases h
    · -- tuples
      rename_i es _ _
      split at h
      · rename_i hl
        cases q : cL (compE n T nm) es with
        | none => rw [q] at h; cases h
        | some xs => rw [q] at h; cases h; exact .val rfl (snd_tup hl q (lst q))
      · cases h
    · -- lists
      rename_i es _
      split at h
      · rename_i hl
        cases q : cL (compE n T nm) es with
        | none => rw [q] at h; cases h
        | some xs => rw [q] at h; cases h; exact .val rfl (snd_lst hl q (lst q))
      · cases h
    · -- dicts
      split at h
      · rename_i es qa
        split at h
        · rename_i hl
          obtain ⟨xs, q, rfl⟩ := Option.map_eq_some_iff.mp h
          exact .val rfl (snd_dct hl.1 hl.2 qa q ih1)
        · cases h
      · cases h
    · -- binary operators
      split at h
      · rename_i q1 q2 q3
        cases h; exact .val rfl (snd_bin q2 (sub q1).2.1 (sub q3).2.1)
      · cases h
    · rename_i a p
      cases q : cE (compE n T nm) a with
      | none => rw [q] at h; cases h
      | some y => rw [q] at h; cases h; exact .val rfl (snd_neg (sub q).2.1)
    · rename_i a p
      cases q : cE (compE n T nm) a with
      | none => rw [q] at h; cases h
      | some y => rw [q] at h; cases h; exact ⟨snd_not (sub q).2.1, tst_not (sub q).2.2⟩
    · -- comparisons
      split at h
      · rename_i q1 q2
        cases h; exact ⟨snd_cmp c (sub q2).1 (sub q1).2.1 (sub q2).2.1, tst_cmp c (sub q2).1 (sub q1).2.1 (sub q2).2.1⟩
      · cases h
    · split at h
      · rename_i q1 q2 q3
        cases h; exact ⟨snd_chn c (sub q1).2.1 (sub q2).2.1 (sub q3).1 (sub q3).2.1, tst_chn c (sub q1).2.1 (sub q2).2.1 (sub q3).1 (sub q3).2.1⟩
      · cases h
    · obtain ⟨a, b⟩ := snd_bool ih h
      exact ⟨a, b.t⟩
    · split at h
      · rename_i q1 q2 q3
        cases h; exact ⟨snd_ite (sub q1).2.2 (sub q2).2.1 (sub q3).2.1, tst_ite (sub q1).2.2 (sub q2).2.2 (sub q3).2.2⟩
      · cases h
    · -- slices
      split at h
      · rename_i q1 q2 q3
        cases h; exact .val rfl (snd_slc ih1 (sub q1).2.1 q2 q3)
      · cases h
    · obtain ⟨y, q, rfl⟩ := Option.map_eq_some_iff.mp h
      exact .val rfl (snd_rev (sub q).2.1)
    · split at h
      · rename_i q1 q2
        cases h; exact .val rfl (snd_idx c (sub q2).1 (sub q1).2.1 (sub q2).2.1)
      · cases h
    · -- calls by a name
      split at h
      · rename_i hf
        split at h
        · rename_i a y py
          split at h
          · rename_i hx
            subst hx
            split at h
            · rename_i q1 q2
              cases h; exact .val rfl (snd_isi1 c hf (sub q1).1 q2 (sub q1).2.1)
            · cases h
          · split at h
            · rename_i q1 q2
              cases h; exact .val rfl (snd_bi c hf (boot2 q1) q2 (lst q2))
            · cases h
        · split at h
          · rename_i hx
            obtain ⟨rfl, hl⟩ := hx
            split at h
            · rename_i q1 q2
              cases h; exact .val rfl (snd_isiT c hf (sub q1).1 hl q2 (sub q1).2.1)
            · cases h
          · cases h
        · split at h
          · rename_i q1 q2
            cases h; exact .val rfl (snd_bi c hf (boot1 q1) q2 (lst q2))
          · cases h
        · split at h
          · rename_i q1 q2
            cases h; exact .val rfl (snd_bi c hf (boot2 q1) q2 (lst q2))
          · cases h
        · cases h
      · split at h
        · rename_i hg
          split at h
          · rename_i q1 q2
            split at h
            · rename_i hl
              cases h; exact .val rfl (snd_call c hg q1 hl q2 (lst q2))
            · cases h
          · cases h
        · cases h
    · -- methods
      split at h
      · rename_i hl
        split at h
        · rename_i q1 q2
          split at h
          · cases h
          · rename_i hb
            have nb := notC0_of hb
            split at h
            · obtain ⟨m, q, rfl⟩ := Option.map_eq_some_iff.mp h
              cases q2
              exact .val rfl (snd_mth0 nb hl (mt0_name q) (sub q1).2.1)
            · obtain ⟨m, q, rfl⟩ := Option.map_eq_some_iff.mp h
              obtain ⟨y, q3, rfl⟩ := cL_one q2
              exact .val rfl (snd_mth1 (f := compE n T nm) nb hl (mt1_name q) (sub q3).1 (sub q1).2.1 (sub q3).2.1)
            · cases h
        · cases h
      · cases h
    · -- comprehensions
      split at h
      · rename_i ha
        subst ha
        split at h
        · rename_i own it qo qb qi
          split at h
          · rename_i tg' cc' e' qt qc qe
            cases h
            have L := lc_of (snd_exp n) c qo qb qi qt qc qe
            exact .val rfl (snd_lc c L.hi L.hk L.ok L.hg L.hc L.he)
          · cases h
        · cases h
      · cases h
    · cases h
/-- a comprehension that is compiled, with its parts -/
theorem comp_lc {n : Nat} {X : Cx} {nm : Nms} (c : Cok fa X T nm k C) {elt : Expr} {gens : List Comprehension} {sc : Scope} {p : Pos} {x : Ex} (h : compE n T nm (.ListComp elt gens sc p) = some x) :
    ∃ tg it ifs own t xi xc xe, gens = [⟨tg, it, ifs, 0⟩] ∧ x = .cmpr (zOf T p) (own.map (·.2)) t xi xc xe ∧ LcH fa C X tg it elt ifs sc own t xi xc xe := by
  cases n with
  | zero => cases h
  | succ n =>
    match gens, h with
    | [⟨tg, it, ifs, as⟩], h =>
      have h' : (if as = 0 then
        (match ownOf T sc.names, blkB T nm sc, cIt (compE n T nm) T nm tg it with
        | some own, true, some it => (match cTg T sc.names tg, cIf (compE n T sc.names) ifs, cE (compE n T sc.names) elt with
          | some tg, some c, some e => some (Ex.cmpr (zOf T p) (own.map (·.2)) tg it c e)
          | _, _, _ => none)
        | _, _, _ => none)
        else none) = some x := h
      split at h'
      · rename_i ha
        subst ha
        split at h'
        · rename_i own xi qo qb qi
          split at h'
          · rename_i t xc xe qt qc qe
            cases h'
            exact ⟨tg, it, ifs, own, t, xi, xc, xe, rfl, rfl, lc_of (snd_exp n) c qo qb qi qt qc qe⟩
          · cases h'
        · cases h'
      · cases h'
    | [], h => exact nomatch (show (none : Option Ex) = some x from h)
    | ⟨_, _, _, _⟩ :: _ :: _, h => exact nomatch (show (none : Option Ex) = some x from h)
end
end Rf

namespace Rf
open PySem PySem.Spec PyProof.Rows L2
section
variable {fa : Nat → Addr} {T : Tab} {k : Nat} {C : Cal} {X : Cx} {nm : Nms}
/-! ### statements -/
def PoS (K : PySem.W.Frag) (fa : Nat → Addr) (ρ : Wd) (H : Hp) (s : Slots) (M' : Mem) (σ' : L2.St) (H' : Hp) : Prop := ∃ ρ', Go ρ H ρ' H' ∧ HR K fa ρ' M' H' ∧ SR K fa ρ' H' s σ'
theorem PoS.back {K : PySem.W.Frag} {ρ ρ1 : Wd} {H H1 H2 : Hp} {s : Slots} {M : Mem} {σ : L2.St} (g : Go ρ H ρ1 H1) (h : PoS K fa ρ1 H1 s M σ H2) : PoS K fa ρ H s M σ H2 := let ⟨ρ2, a, b, c⟩ := h; ⟨ρ2, g.trans a, b, c⟩
/-- the ends that are wanted -/
def Dn (K : PySem.W.Frag) (fa : Nat → Addr) (ρ : Wd) (H : Hp) (r : Fl) (M' : Mem) : Ends where
  nx := fun σ' H' => ∃ s, r = .nx s ∧ PoS K fa ρ H s M' σ' H'
  rt := fun v H' => ∃ w, r = .rt w ∧ PoE K fa ρ H w M' v H'
  bk := fun σ' H' => ∃ s, r = .bk s ∧ PoS K fa ρ H s M' σ' H'
  ct := fun σ' H' => ∃ s, r = .ct s ∧ PoS K fa ρ H s M' σ' H'
def SndS (fa : Nat → Addr) (X : Cx) (st : Stmt) (ev : Slots → Mem → R Fl) : Prop :=
  ∀ s σ ρ M H r M', SR X.K fa ρ H s σ → HR X.K fa ρ M H → ev s M = .ok r M' → seS X st (Dn X.K fa ρ H r M') σ H
def SndSs (fa : Nat → Addr) (X : Cx) (st : List Stmt) (ev : Slots → Mem → R Fl) : Prop :=
  ∀ s σ ρ M H r M', SR X.K fa ρ H s σ → HR X.K fa ρ M H → ev s M = .ok r M' → seSs X st (Dn X.K fa ρ H r M') σ H
theorem seS.ok {st : Stmt} {D : Ends} {σ : L2.St} {H : Hp} (h : X.Ok → seS X st D σ H) : seS X st D σ H := fun pins s I => h I.ok pins s I
/-- other ends -/
theorem seSs.back {K : PySem.W.Frag} {st : List Stmt} {σ : L2.St} {H H0 : Hp} {ρ ρ0 : Wd} {r : Fl} {M' : Mem} (g : Go ρ0 H0 ρ H) (h : seSs X st (Dn K fa ρ H r M') σ H) : seSs X st (Dn K fa ρ0 H0 r M') σ H :=
  h.thn (fun _ _ _ ⟨s, e, p⟩ => ⟨s, e, p.back g⟩) (fun _ _ _ ⟨s, e, p⟩ => ⟨s, e, p.back g⟩) (fun _ _ _ ⟨s, e, p⟩ => ⟨s, e, p.back g⟩) (fun _ _ _ ⟨s, e, p⟩ => ⟨s, e, p.back g⟩)
theorem sss_nil : SndSs fa X [] (exSs C .nil) := fun s σ ρ M H r M' hs hm q => by
  cases q
  exact ofSs pss_nil ⟨s, rfl, ρ, .refl, hm, hs⟩
theorem sss_cons {st : Stmt} {sts : List Stmt} {x : St} {xs : Sts} (h1 : SndS fa X st (exS C x)) (h2 : SndSs fa X sts (exSs C xs)) : SndSs fa X (st :: sts) (exSs C (.cons x xs)) := by
  intro s σ ρ M H r M' hs hm q
  obtain ⟨f, m1, q1, q⟩ := R.bind_ok q
  refine ofSs (pss_cons (pS st) (pSs sts)) ?_
  have run := h1 s σ ρ M H f m1 hs hm q1
  cases f with
  | nx s1 =>
    refine run.thn (fun σ1 H1 _ ⟨s2, e, ρ1, g1, hm1, hs1⟩ => ?_) (fun v H1 _ ⟨w, e, _⟩ => by cases e) (fun v H1 _ ⟨w, e, _⟩ => by cases e) (fun v H1 _ ⟨w, e, _⟩ => by cases e)
    cases e
    exact seSs.back g1 (h2 s1 σ1 ρ1 m1 H1 r M' hs1 hm1 q)
  | rt w =>
    cases q
    exact run.thn (fun v H1 _ ⟨w, e, _⟩ => by cases e) (fun v H1 _ z => z) (fun v H1 _ ⟨w, e, _⟩ => by cases e) (fun v H1 _ ⟨w, e, _⟩ => by cases e)
  | bk s1 =>
    cases q
    exact run.thn (fun v H1 _ ⟨w, e, _⟩ => by cases e) (fun v H1 _ ⟨w, e, _⟩ => by cases e) (fun v H1 _ z => z) (fun v H1 _ ⟨w, e, _⟩ => by cases e)
  | ct s1 =>
    cases q
    exact run.thn (fun v H1 _ ⟨w, e, _⟩ => by cases e) (fun v H1 _ ⟨w, e, _⟩ => by cases e) (fun v H1 _ ⟨w, e, _⟩ => by cases e) (fun v H1 _ z => z)
theorem sss_of {f : Stmt → Option St} (ih : ∀ st x, f st = some x → SndS fa X st (exS C x)) : ∀ {sts : List Stmt} {xs : Sts}, compSs f sts = some xs → SndSs fa X sts (exSs C xs)
  | [], xs, h => by cases h; exact sss_nil
  | st :: r, xs, h => by
    have h' : (match f st, compSs f r with
      | some a, some b => some (Sts.cons a b)
      | _, _ => none) = some xs := h
    split at h'
    · rename_i q1 q2
      cases h'
      exact sss_cons (ih _ _ q1) (sss_of ih q2)
    · cases h'
/-! ### which statements swap -/
theorem sw_no {e : Expr} {tg : Option Expr} {line : Nat} {env : Env} (h : okE e = true) (hl : isLC e = false) : swapsWith e tg line env = pure false := by
  cases e <;> first | rfl | (cases hl; done) | (cases h; done)
theorem sw_tup {e : Expr} {ts : List Expr} {j p line} {env : Env} : swapsWithSole [.Tuple ts j p] e line env = pure false := by
  cases e <;> rfl
theorem sw_sub {e o i : Expr} {p line} {env : Env} : swapsWithSole [.Subscript o i p] e line env = pure false := by
  cases e <;> rfl
theorem st_name {e : Expr} {x : Str} {p : Pos} {env : Env} : swappedStores [.Name x p] e env = pure none := by
  cases e <;> rfl
theorem st_sub {e o i : Expr} {p : Pos} {env : Env} : swappedStores [.Subscript o i p] e env = pure none := by
  cases e <;> rfl
theorem st_tup {e : Expr} {ts : List Expr} {j p} {env : Env} (h : isTup e = false) : swappedStores [.Tuple ts j p] e env = pure none := by
  cases e <;> first | rfl | cases h
theorem fm_lt {α β : Type} {f : α → Option β} : ∀ {l : List α} {x : α}, x ∈ l → f x = none → (l.filterMap f).length < l.length
  | [], x, h, _ => by cases h
  | y :: l, x, h, e => by
    rw [List.filterMap_cons, List.length_cons]
    have hl := List.length_filterMap_le f l
    rcases List.mem_cons.mp h with rfl | h
    · rw [e]; exact Nat.lt_succ_of_le hl
    · have := fm_lt h e
      split
      · omega
      · rw [List.length_cons]; omega
theorem ss_cell {ts vs : List Expr} {x : Str} {px kt pt k2 pt2} {env : Env} (hx : Expr.Name x px ∈ ts) (hk : env.kindOf x = some .cell) : swappedStores [.Tuple ts kt pt] (.Tuple vs k2 pt2) env = pure none := by
  unfold swappedStores
  simp only [pure_bind]
  split
  · rfl
  split
  · rfl
  split
  · rfl
  · rename_i h
    exfalso
    refine h ?_
    rw [Bool.or_eq_true]
    refine .inl ?_
    rw [bne_iff_ne]
    refine Nat.ne_of_lt (fm_lt hx ?_)
    simp [hk]
def swB (env : Env) (x : Str) (l : Nat) (sc : Scope) (p : Pos) : Bool := (env.kindOf x == some .local) && (l == p.line) && !(sc.names.any fun (n, k) => n == x && (k == .local || k == .cell))
theorem sw_lc {elt : Expr} {gens : List Comprehension} {sc : Scope} {p pp : Pos} {x : Str} {line : Nat} {env : Env} (hk : env.scope.kind = .function) : swapsWith (.ListComp elt gens sc p) (some (.Name x pp)) line env = pure (swB env x pp.line sc p) := by
  have hb : env.blockKind = .function := by
    unfold Env.blockKind
    rw [hk]
    rfl
  show (pure (env.blockKind == .function && env.kindOf x == some .local && pp.line == p.line && !(sc.names.any fun (n, k) => n == x && (k == .local || k == .cell))) : Sem Bool) = _
  rw [hb]
  rfl
/-- name = e -/
theorem sns_name {x : Str} {p pos : Pos} {e : Expr} {n : Nat} {i : Nat} {y : Ex} (c : Cok fa X T nm k C) (hx : slotS T nm x = some i) (hk : okE e = true) (he : compE n T nm e = some y) : SndS fa X (.Assign [.Name x p] e pos) (exS C (.asg (.nm i) y)) := by
  intro s σ ρ M H r M' hs hm q
  obtain ⟨v, m1, q1, q⟩ := R.bind_ok q
  obtain ⟨s', m2, q2, q⟩ := R.bind_ok q
  obtain ⟨q3, em⟩ := R.opt_ok q2
  subst em
  cases q
  cases q3
  obtain ⟨a1, a2, a3⟩ := slotS_ok c hx
  have fin : ∀ z H', PoE X.K fa ρ H v M' z H' → (Dn X.K fa ρ H (.nx (s.set i (some v))) M').nx (σ.set i (some z)) H' := fun z H' ⟨ρ1, g1, hm1, r1⟩ => ⟨_, rfl, ρ1, g1, hm1, (hs.go g1).set i r1⟩
  have plain : swapsWith e (some (.Name x p)) pos.line X.env = pure false → seS X (.Assign [.Name x p] e pos) (Dn X.K fa ρ H (.nx (s.set i (some v))) M') σ H := fun sw =>
    ofS (ps_set c.nd a1 a2 (pE e) sw a3) (((snd_exp n c e y he).1 s σ ρ M H v M' hs hm q1).thn fun z H' _ po => fin z H' po)
  cases hl : isLC e with
  | false => exact plain (sw_no hk hl)
  | true =>
    cases e with
    | ListComp elt gens sc cp =>
      refine seS.ok fun ok => ?_
      cases hb : swB X.env x p.line sc cp with
      | false => exact plain (by rw [sw_lc ok.kind, hb])
      | true =>
        obtain ⟨tg, it, ifs, own, t, xi, xc, xe, rfl, rfl, L⟩ := comp_lc c he
        have hl : X.env.scope.names.lookup x = some .local := by
          unfold swB at hb
          simp only [Bool.and_eq_true, beq_iff_eq] at hb
          exact hb.1.1
        refine ofS (ps_setLc c.calm c.nd a1 hl (by rw [sw_lc ok.kind, hb]) (pI tg it) L.ok (fun s0 H0 C0 cl fp => gB_ok s0 H0 C0 cl fp) (fun s0 H0 C0 cl fp => tB_ok s0 H0 C0 cl fp) (fun s0 H0 C0 cl fp => eB_ok s0 H0 C0 cl fp) (ok_fold L.hk X.env)) ?_
        exact lc_core L.hi L.hg L.hc L.he hs hm q1 fun z H' po => fin z H' po
    | _ => cases hl
/-- (a, b) = e -/
theorem sns_tup {ts : List Expr} {j : Nat} {p pos : Pos} {e : Expr} {t : Tg} {y : Ex} (c : Cok fa X T nm k C) (ht : cTg T nm (.Tuple ts j p) = some t) (hn : swappedStores [.Tuple ts j p] e X.env = pure none) (he : SndE fa X e (evE C y)) : SndS fa X (.Assign [.Tuple ts j p] e pos) (exS C (.asg t y)) := by
  intro s σ ρ M H r M' hs hm q
  obtain ⟨v, m1, q1, q⟩ := R.bind_ok q
  obtain ⟨s', m2, q2, q⟩ := R.bind_ok q
  obtain ⟨q3, em⟩ := R.opt_ok q2
  subst em
  cases q
  refine ofS (ps_asg (pE e) (pG _) sw_tup hn) ((he s σ ρ M H v M' hs hm q1).thn fun z H' _ ⟨ρ1, g1, hm1, r1⟩ => ?_)
  exact (snd_tg c ht (hs.go g1) hm1 (w := .v v) r1 q3).thn fun σ' H2 ⟨e1, e2, _⟩ => ⟨s', rfl, ρ1, by rw [e1]; exact g1, by rw [e1]; exact hm1, by rw [e1]; exact e2⟩
/-- o[i] = e -/
theorem sns_set {o i e : Expr} {p pos : Pos} {xo xi xe : Ex} (h1 : SndE fa X o (evE C xo)) (h2 : SndE fa X i (evE C xi)) (h3 : SndE fa X e (evE C xe)) (hi : okE i = true) : SndS fa X (.Assign [.Subscript o i p] e pos) (exS C (.set xo xi xe)) := by
  intro s σ ρ M H r M' hs hm q
  obtain ⟨v, m1, q1, q⟩ := R.bind_ok q
  obtain ⟨x, m2, q2, q⟩ := R.bind_ok q
  obtain ⟨y, m3, q3, q⟩ := R.bind_ok q
  split at q
  · rename_i n
    obtain ⟨_, m4, q4, q⟩ := R.bind_ok q
    cases q
    have q4' : (match x with
      | .r j => match m3[j]? with
        | some (.lst us) => (R.opt (ixOf us.length n) m3).bind fun k m => R.ok () (m.set j (.lst (us.set k v)))
        | _ => .no
      | _ => .no) = .ok () M' := q4
    split at q4'
    · rename_i j _
      split at q4'
      · rename_i us qj
        obtain ⟨kk, m5, q5, q6⟩ := R.bind_ok q4'
        obtain ⟨q7, rfl⟩ := R.opt_ok q5
        cases q6
        have ha : ∀ v, assign (.Subscript o i p) X.env v = (do
            let ov ← holding [v] (eval o X.env)
            let iv ← holding [v, ov] (eval i X.env)
            standAt p
            holding [v, ov, iv] (setItem ov iv v)
            release [v, ov, iv] []) := by
          intro v
          cases i <;> first | rfl | cases hi
        refine ofS (ps_asg (pE e) (pg_sub (pE o) (pE i) set_list ha) sw_sub st_sub) ?_
        refine (h3 s σ ρ M H v m1 hs hm q1).thn fun z H1 _ ⟨ρ1, g1, hm1, r1⟩ => ?_
        refine (h1 s σ ρ1 m1 H1 (.r j) m2 (hs.go g1) hm1 q2).thn fun zo H2 _ ⟨ρ2, g2, hm2, r2⟩ => ?_
        refine (h2 s σ ρ2 m2 H2 _ m3 ((hs.go g1).go g2) hm2 q3).thn fun zi H3 _ ⟨ρ3, g3, hm3, r3⟩ => ?_
        cases r3
        obtain ⟨a, vs, e1, rfl, e2, rs⟩ := hm3.lst qj (r2.go g3)
        have ij : L2.ixN vs.length n = some kk := by rw [← rs.length]; exact q7
        obtain ⟨hm4, g4⟩ := hm3.write (us := us) e1 e2 (rs.set kk ((r1.go g2).go g3))
        exact ⟨a, vs, n, kk, rfl, rfl, e2, ij, s, rfl, ρ3, ((g1.trans g2).trans g3).trans g4, hm4, (((hs.go g1).go g2).go g3).go g4⟩
      · cases q4'
    · cases q4'
  · cases q
/-- an expression as a statement -/
theorem sns_ex {e : Expr} {pos : Pos} {y : Ex} (hk : okE e = true) (hl : isLC e = false) (he : SndE fa X e (evE C y)) : SndS fa X (.Expr e pos) (exS C (.ex y)) := by
  intro s σ ρ M H r M' hs hm q
  obtain ⟨v, m1, q1, q⟩ := R.bind_ok q
  cases q
  exact ofS (ps_expr (pE e) (sw_no hk hl)) ((he s σ ρ M H v _ hs hm q1).thn fun z H' _ ⟨ρ1, g1, hm1, r1⟩ => ⟨s, rfl, ρ1, g1, hm1, hs.go g1⟩)
theorem sns_ret {e : Expr} {pos : Pos} {y : Ex} (he : SndE fa X e (evE C y)) : SndS fa X (.Return (some e) pos) (exS C (.ret y)) := by
  intro s σ ρ M H r M' hs hm q
  obtain ⟨v, m1, q1, q⟩ := R.bind_ok q
  cases q
  exact ofS (ps_ret (pE e)) ((he s σ ρ M H v _ hs hm q1).thn fun z H' _ po => ⟨v, rfl, po⟩)
theorem sns_retN {pos : Pos} : SndS fa X (.Return none pos) (exS C (.ret (.con .non))) := by
  intro s σ ρ M H r M' hs hm q
  have q' : R.ok (Fl.rt (.d .non)) M = R.ok r M' := q
  cases q'
  exact ofS ps_retN ⟨_, rfl, ρ, .refl, hm, .non⟩
theorem sns_iff {e : Expr} {a b : List Stmt} {pos : Pos} {y : Ex} {xa xb : Sts} (he : SndT fa X e (evE C y)) (ha : SndSs fa X a (exSs C xa)) (hb : SndSs fa X b (exSs C xb)) : SndS fa X (.If e a b pos) (exS C (.iff y xa xb)) := by
  intro s σ ρ M H r M' hs hm q
  obtain ⟨v, m1, q1, q⟩ := R.bind_ok q
  split at q
  · rename_i t
    refine ofS (ps_if (pT e) (pSs a) (pSs b)) ((he s σ ρ M H v m1 true hs hm q1 t).thn fun z H1 _ ⟨ρ1, g1, hm1, e1⟩ => ?_)
    subst e1
    rw [if_pos rfl]
    exact seSs.back g1 (ha s σ ρ1 m1 H1 r M' (hs.go g1) hm1 q)
  · rename_i t
    refine ofS (ps_if (pT e) (pSs a) (pSs b)) ((he s σ ρ M H v m1 false hs hm q1 t).thn fun z H1 _ ⟨ρ1, g1, hm1, e1⟩ => ?_)
    subst e1
    rw [if_neg Bool.false_ne_true]
    exact seSs.back g1 (hb s σ ρ1 m1 H1 r M' (hs.go g1) hm1 q)
  · cases q
/-- for -/
theorem forL_cons {f : Wv → Slots → Mem → R Fl} {fin : Mem → Bool} {r : Mem → Option Wv} {rs : List (Mem → Option Wv)} {s : Slots} {m m' : Mem} {e : Fl} (h : forL f fin (r :: rs) s m = .ok e m') :
    ∃ w g m1, r m = some w ∧ f w s m = .ok g m1 ∧ ((∃ s', (g = .nx s' ∨ g = .ct s') ∧ forL f fin rs s' m1 = .ok e m') ∨ (∃ s', g = .bk s' ∧ e = .nx s' ∧ m' = m1) ∨ (∃ v, g = .rt v ∧ e = .rt v ∧ m' = m1)) := by
  unfold forL at h
  split at h
  · cases h
  · rename_i w q
    obtain ⟨g, m1, q1, h⟩ := R.bind_ok h
    refine ⟨w, g, m1, q, q1, ?_⟩
    cases g with
    | nx s' => exact .inl ⟨s', .inl rfl, h⟩
    | ct s' => exact .inl ⟨s', .inr rfl, h⟩
    | bk s' => cases h; exact .inr (.inl ⟨s', rfl, rfl, rfl⟩)
    | rt v => cases h; exact .inr (.inr ⟨v, rfl, rfl, rfl⟩)
theorem forL_nil {f : Wv → Slots → Mem → R Fl} {fin : Mem → Bool} {s : Slots} {m m' : Mem} {e : Fl} (h : forL f fin [] s m = .ok e m') : fin m = true ∧ e = .nx s ∧ m' = m := by
  unfold forL at h
  split at h
  · cases h; exact ⟨by assumption, rfl, rfl⟩
  · cases h
theorem sns_for {tg it : Expr} {body : List Stmt} {pos : Pos} {t : Tg} {xi : It} {xb : Sts} (c : Cok fa X T nm k C) (pw : PassesOwn (model X.prog X.w) X.A X.env X.xe) (ht : cTg T nm tg = some t) (hk : okE it = true) (hi : SndI fa X tg it (evIt C xi)) (hb : SndSs fa X body (exSs C xb)) :
    SndS fa X (.For tg it body [] pos) (exS C (.forr t xi xb)) := by
  intro s σ ρ M H r M' hs hm q
  obtain ⟨wk, m1, q1, q⟩ := R.bind_ok q
  refine ofS (ps_for pw c.calm (pI tg it) (pG tg) (pSs body) (ok_fold hk X.env)) ?_
  refine (hi s σ ρ M H wk m1 hs hm q1).thn fun J H1 _ ⟨ρ1, g1, hm1, wl⟩ => ?_
  refine ⟨fun i n σ' H' => ∃ s' ρ' m', Go ρ1 H1 ρ' H' ∧ HR X.K fa ρ' m' H' ∧ SR X.K fa ρ' H' s' σ' ∧ i ≤ wk.rs.length ∧ n = wk.rs.length - i ∧ forL (fun v s m => (R.opt (asgW m t v s) m).bind fun s' m => exSs C xb s' m) wk.fin (wk.rs.drop i) s' m' = .ok r M', ⟨wk.rs.length, s, ρ1, m1, .refl, hm1, hs.go g1, Nat.zero_le _, rfl, q⟩, ?_⟩
  rintro i n σ2 H2 ⟨s2, ρ2, m2, g2, hm2, hs2, hle, rfl, q2⟩
  have wl2 := wl ρ2 m2 H2 g2.kp g2.pl hm2
  by_cases hlt : i < wk.rs.length
  · obtain ⟨rd, er, ed⟩ := drop_cons hlt
    rw [ed] at q2
    obtain ⟨w, g, m3, q4, q5, q6⟩ := forL_cons q2
    obtain ⟨go, yl⟩ := wl2.1 i rd w er q4
    obtain ⟨s3, m3', q7, q8⟩ := R.bind_ok q5
    obtain ⟨q9, rfl⟩ := R.opt_ok q7
    refine .inr ⟨go, _, fun σ' H' h => h, fun x H3 y3 => ?_⟩
    obtain ⟨g3, hm3, wv3⟩ := yl x H3 y3
    refine (snd_tg c ht (hs2.go g3) hm3 wv3 q9).thn fun σ4 H4 ⟨e4, hs4, _⟩ => ?_
    subst e4
    have run := hb s3 σ4 ρ2 m2 H4 g m3 hs4 hm3 q8
    have G : Go ρ1 H1 ρ2 H4 := g2.trans g3
    have nxt : ∀ s' σ' H', (g = .nx s' ∨ g = .ct s') → PoS X.K fa ρ2 H4 s' m3 σ' H' → forL (fun v s m => (R.opt (asgW m t v s) m).bind fun s' m => exSs C xb s' m) wk.fin (wk.rs.drop (i + 1)) s' m3 = .ok r M' → ∃ m', m' < wk.rs.length - i ∧ ∃ s'' ρ' m'', Go ρ1 H1 ρ' H' ∧ HR X.K fa ρ' m'' H' ∧ SR X.K fa ρ' H' s'' σ' ∧ i + 1 ≤ wk.rs.length ∧ m' = wk.rs.length - (i + 1) ∧ forL (fun v s m => (R.opt (asgW m t v s) m).bind fun s' m => exSs C xb s' m) wk.fin (wk.rs.drop (i + 1)) s'' m'' = .ok r M' :=
      fun s' σ' H' _ ⟨ρ', gg, hh, ss⟩ e => ⟨wk.rs.length - (i + 1), by omega, s', ρ', m3, G.trans gg, hh, ss, hlt, rfl, e⟩
    rcases q6 with ⟨s', hg, q10⟩ | ⟨s', rfl, rfl, rfl⟩ | ⟨v, rfl, rfl, rfl⟩
    · refine run.thn (fun σ' H' _ ⟨sx, e, po⟩ => ?_) (fun _ H' _ ⟨sx, e, po⟩ => ?_) (fun _ H' _ ⟨sx, e, po⟩ => ?_) (fun σ' H' _ ⟨sx, e, po⟩ => ?_)
      · rcases hg with hg | hg
        · rw [hg] at e; cases e; exact nxt s' σ' H' (.inl hg) po q10
        · rw [hg] at e; cases e
      · rcases hg with hg | hg <;> (rw [hg] at e; cases e)
      · rcases hg with hg | hg <;> (rw [hg] at e; cases e)
      · rcases hg with hg | hg
        · rw [hg] at e; cases e
        · rw [hg] at e; cases e; exact nxt s' σ' H' (.inr hg) po q10
    · refine run.thn (fun σ' H' _ ⟨sx, e, po⟩ => by cases e) (fun _ H' _ ⟨sx, e, po⟩ => by cases e) (fun _ H' _ ⟨sx, e, po⟩ => ?_) (fun σ' H' _ ⟨sx, e, po⟩ => by cases e)
      cases e
      exact ⟨s', rfl, po.back (g1.trans G)⟩
    · refine run.thn (fun σ' H' _ ⟨sx, e, po⟩ => by cases e) (fun _ H' _ ⟨sx, e, po⟩ => ?_) (fun _ H' _ ⟨sx, e, po⟩ => by cases e) (fun σ' H' _ ⟨sx, e, po⟩ => by cases e)
      cases e
      exact ⟨v, rfl, po.back (g1.trans G)⟩
  · rw [drop_end hlt] at q2
    obtain ⟨hf, rfl, rfl⟩ := forL_nil q2
    have hie : i = wk.rs.length := by omega
    subst hie
    exact .inl ⟨wl2.2 hf, s2, rfl, ρ2, g1.trans g2, hm2, hs2⟩
/-- while -/
theorem whiL_ok {c : Slots → Mem → R Bool} {f : Slots → Mem → R Fl} {n : Nat} {s : Slots} {m m' : Mem} {e : Fl} (h : whiL c f (n + 1) s m = .ok e m') :
    ∃ b m1, c s m = .ok b m1 ∧ ((b = false ∧ e = .nx s ∧ m' = m1) ∨ (b = true ∧ ∃ g m2, f s m1 = .ok g m2 ∧ ((∃ s', (g = .nx s' ∨ g = .ct s') ∧ whiL c f n s' m2 = .ok e m') ∨ (∃ s', g = .bk s' ∧ e = .nx s' ∧ m' = m2) ∨ (∃ v, g = .rt v ∧ e = .rt v ∧ m' = m2)))) := by
  unfold whiL at h
  obtain ⟨b, m1, q1, h⟩ := R.bind_ok h
  refine ⟨b, m1, q1, ?_⟩
  cases b with
  | false => cases h; exact .inl ⟨rfl, rfl, rfl⟩
  | true =>
    obtain ⟨g, m2, q2, h⟩ := R.bind_ok h
    refine .inr ⟨rfl, g, m2, q2, ?_⟩
    cases g with
    | nx s' => exact .inl ⟨s', .inl rfl, h⟩
    | ct s' => exact .inl ⟨s', .inr rfl, h⟩
    | bk s' => cases h; exact .inr (.inl ⟨s', rfl, rfl, rfl⟩)
    | rt v => cases h; exact .inr (.inr ⟨v, rfl, rfl, rfl⟩)
theorem sns_whil {e : Expr} {body : List Stmt} {pos : Pos} {y : Ex} {xb : Sts} (pw : PassesOwn (model X.prog X.w) X.A X.env X.xe) (he : SndT fa X e (evE C y)) (hb : SndSs fa X body (exSs C xb)) :
    SndS fa X (.While e body [] pos) (exS C (.whil y xb)) := by
  intro s σ ρ M H r M' hs hm q
  refine ofS (ps_while pw (pT e) (pSs body)) ?_
  have q : whiL (fun s m => (evE C y s m).bind fun x m => R.opt (truth m x) m) (fun s m => exSs C xb s m) C.wf s M = .ok r M' := q
  refine ⟨fun n σ' H' => ∃ s' ρ' m', Go ρ H ρ' H' ∧ HR X.K fa ρ' m' H' ∧ SR X.K fa ρ' H' s' σ' ∧ whiL (fun s m => (evE C y s m).bind fun x m => R.opt (truth m x) m) (fun s m => exSs C xb s m) n s' m' = .ok r M', ⟨C.wf, s, ρ, M, .refl, hm, hs, q⟩, ?_⟩
  rintro n σ2 H2 ⟨s2, ρ2, m2, g2, hm2, hs2, q2⟩
  cases n with
  | zero => cases q2
  | succ n =>
    obtain ⟨b, m3, q3, q4⟩ := whiL_ok q2
    obtain ⟨tv, m3', q5, q6⟩ := R.bind_ok q3
    obtain ⟨q7, rfl⟩ := R.opt_ok q6
    refine (he s2 σ2 ρ2 m2 H2 tv m3' b hs2 hm2 q5 q7).thn fun b' H3 _ ⟨ρ3, g3, hm3, eb⟩ => ?_
    subst eb
    rcases q4 with ⟨rfl, rfl, rfl⟩ | ⟨rfl, g, m4, q8, q9⟩
    · rw [if_neg Bool.false_ne_true]
      exact ⟨s2, rfl, ρ3, g2.trans g3, hm3, hs2.go g3⟩
    · rw [if_pos rfl]
      refine ⟨_, fun σ' H' h => h, ?_⟩
      have run := hb s2 σ2 ρ3 m3' H3 g m4 (hs2.go g3) hm3 q8
      have G : Go ρ H ρ3 H3 := g2.trans g3
      rcases q9 with ⟨s', hg, q10⟩ | ⟨s', rfl, rfl, rfl⟩ | ⟨v, rfl, rfl, rfl⟩
      · refine run.thn (fun σ' H' _ ⟨sx, e, ρ4, g4, hm4, hs4⟩ => ?_) (fun _ H' _ ⟨sx, e, po⟩ => ?_) (fun _ H' _ ⟨sx, e, po⟩ => ?_) (fun σ' H' _ ⟨sx, e, ρ4, g4, hm4, hs4⟩ => ?_)
        · rcases hg with hg | hg
          · rw [hg] at e; cases e; exact ⟨n, Nat.lt_succ_self n, s', ρ4, m4, G.trans g4, hm4, hs4, q10⟩
          · rw [hg] at e; cases e
        · rcases hg with hg | hg <;> (rw [hg] at e; cases e)
        · rcases hg with hg | hg <;> (rw [hg] at e; cases e)
        · rcases hg with hg | hg
          · rw [hg] at e; cases e
          · rw [hg] at e; cases e; exact ⟨n, Nat.lt_succ_self n, s', ρ4, m4, G.trans g4, hm4, hs4, q10⟩
      · refine run.thn (fun σ' H' _ ⟨sx, e, po⟩ => by cases e) (fun _ H' _ ⟨sx, e, po⟩ => by cases e) (fun _ H' _ ⟨sx, e, po⟩ => ?_) (fun σ' H' _ ⟨sx, e, po⟩ => by cases e)
        cases e
        exact ⟨s', rfl, po.back G⟩
      · refine run.thn (fun σ' H' _ ⟨sx, e, po⟩ => by cases e) (fun _ H' _ ⟨sx, e, po⟩ => ?_) (fun _ H' _ ⟨sx, e, po⟩ => by cases e) (fun σ' H' _ ⟨sx, e, po⟩ => by cases e)
        cases e
        exact ⟨v, rfl, po.back G⟩
end
end Rf

namespace Rf
open PySem PySem.Spec PyProof.Rows L2
section
variable {fa : Nat → Addr} {T : Tab} {k : Nat} {C : Cal} {X : Cx} {nm : Nms}
/-! ### name op= e -/
theorem ipI_ok {op : Operator} {o : Bop} {i j : Int} {d : D} (ho : ipOf op = some o) (h : binI o i j = some d) : ∃ n, d = .int n ∧ ∃ ti, PIp X op ti ∧ ∀ H (Q : VK), Q (.int n) H → ti (.int i) (.int j) H Q := by
  cases op <;> simp only [ipOf, Option.some.injEq, reduceCtorEq] at ho <;> subst ho
  · cases h
    exact ⟨_, rfl, _, iop_add, fun H Q q => ⟨i, j, rfl, rfl, q⟩⟩
  · cases h
    exact ⟨_, rfl, _, iop_sub, fun H Q q => ⟨i, j, rfl, rfl, q⟩⟩
  · simp only [binI] at h
    split at h
    · rename_i c
      cases h
      exact ⟨_, rfl, _, iop_mul, fun H Q q => ⟨i, j, rfl, rfl, c, q⟩⟩
    · cases h
  · simp only [binI] at h
    split at h
    · rename_i c
      cases h
      exact ⟨_, rfl, _, iop_mod, fun H Q q => ⟨i, j, rfl, rfl, c, q⟩⟩
    · cases h
  · simp only [binI] at h
    split at h
    · rename_i c
      cases h
      exact ⟨_, rfl, _, iop_fdivW, fun H Q q => ⟨i, j, rfl, rfl, wide_div (b := 64) c.1 (by omega) (by decide) (by decide), q⟩⟩
    · cases h
theorem sns_aug {x : Str} {p pos : Pos} {op : Operator} {o : Bop} {e : Expr} {i : Nat} {y : Ex} (c : Cok fa X T nm k C) (hx : slotS T nm x = some i) (ho : ipOf op = some o) (he : SndE fa X e (evE C y)) : SndS fa X (.AugAssign (.Name x p) op e pos) (exS C (.aug i o y)) := by
  intro s σ ρ M H r M' hs hm q
  obtain ⟨a1, a2, a3⟩ := slotS_ok c hx
  have q' : (match s[i]? with
    | some (some x) => (evE C y s M).bind fun y m => match x, y with
      | .d (.int _), .d (.int _) => (binV true o x y m).bind fun v m => R.ok (Fl.nx (s.set i (some v))) m
      | .d (.str _), .d (.str _) => (binV true o x y m).bind fun v m => .ok (.nx (s.set i (some v))) m
      | _, _ => .no
    | _ => .no) = .ok r M' := q
  split at q'
  · rename_i xv ex
    obtain ⟨yv, m1, q1, q2⟩ := R.bind_ok q'
    obtain ⟨z0, e0, r0⟩ := hs.at_ i _ ex
    have run := he s σ ρ M H yv m1 hs hm q1
    split at q2
    · rename_i n1 n2
      obtain ⟨v, m2, q3, q4⟩ := R.bind_ok q2
      cases q4
      obtain ⟨d, m3, q5, q6⟩ := R.bind_ok (show (R.opt (binI o n1 n2) m1).bind (fun x m => R.ok (Val.d x) m) = .ok v M' from q3)
      obtain ⟨q7, em⟩ := R.opt_ok q5
      subst em
      cases q6
      obtain ⟨n, rfl, ti, hti, fin⟩ := ipI_ok (X := X) ho q7
      cases r0
      refine ofS (ps_aug c.nd a1 a2 (pE e) hti a3) ⟨_, e0, run.thn fun z H1 _ ⟨ρ1, g1, hm1, r1⟩ => ?_⟩
      cases r1
      exact fin H1 _ ⟨_, rfl, ρ1, g1, hm1, (hs.go g1).set i .int⟩
    · rename_i n1 n2
      obtain ⟨v, m2, q3, q4⟩ := R.bind_ok q2
      cases q4
      have q3' : (match o with
        | .add => if n1.length + n2.length ≤ LINE then R.ok (Val.d (.str (n1 ++ n2))) m1 else .no
        | _ => .no) = .ok v M' := q3
      split at q3'
      · split at q3'
        · rename_i hl
          cases q3'
          cases op <;> simp [ipOf] at ho
          cases r0 with
          | str _ c1 =>
            refine ofS (ps_aug c.nd a1 a2 (pE e) iop_add_str a3) ⟨_, e0, run.thn fun z H1 _ ⟨ρ1, g1, hm1, r1⟩ => ?_⟩
            cases r1 with
            | str _ c2 =>
              refine ⟨_, _, rfl, rfl, ?_, ?_⟩
              · rw [s0_len, s0_len, ← line_eq]; exact hl
              · rw [s0_app]
                exact ⟨_, rfl, ρ1, g1, hm1, (hs.go g1).set i (.str (by rw [List.length_append]; exact hl) fun c hc => (List.mem_append.mp hc).elim (c1 c) (c2 c))⟩
        · cases q3'
      · cases q3'
    · cases q2
  · cases q'
/-! ### a, b = x, y -/
theorem blk_fn {env : Env} (hk : env.scope.kind = .function) : env.blockKind = .function := by
  unfold Env.blockKind
  rw [hk]
  rfl
theorem dup2 {x y : Str} (h : y ≠ x) : ([x, y] : List Str).eraseDups = [x, y] := by
  simp [List.eraseDups_cons, h]
theorem dup3 {x y z : Str} (h : y ≠ x) (h2 : z ≠ x) (h3 : z ≠ y) : ([x, y, z] : List Str).eraseDups = [x, y, z] := by
  simp [List.eraseDups_cons, h, h2, h3]
theorem ss_2 {x y : Str} {px py kt pt k2 pt2} {a b : Expr} {env : Env} (hk : env.scope.kind = .function) (hx : env.kindOf x = some .local) (hy : env.kindOf y = some .local) (ly : py.line = px.line) (n1 : y ≠ x) (ho : parOk [a, b] = true) :
    swappedStores [.Tuple [.Name x px, .Name y py] kt pt] (.Tuple [a, b] k2 pt2) env = pure (some [x, y]) := by
  unfold parOk at ho
  simp only [Bool.and_eq_true, Bool.not_eq_true'] at ho
  obtain ⟨⟨h1, h2⟩, h3⟩ := ho
  have hb := blk_fn hk
  have nms : ([Expr.Name x px, .Name y py].filterMap fun
    | .Name id pos => if env.kindOf id == some .local && pos.line == px.line then some id else none
    | _ => none) = [x, y] := by
    simp [hx, hy, ly]
  unfold swappedStores
  simp only [pure_bind]
  generalize hn : (List.filterMap _ [Expr.Name x px, .Name y py]) = ns
  have e : ns = [x, y] := hn.symm.trans nms
  subst e
  refine (if_neg (fun e => ?_)).trans ?_
  · rw [hb] at e
    exact Bool.false_ne_true e
  refine (if_neg (fun e => Bool.false_ne_true (h3.symm.trans e))).trans ?_
  refine (if_neg (fun e => ?_)).trans ?_
  · rw [dup2 n1] at e
    exact Bool.false_ne_true e
  refine (if_neg (fun e => Bool.false_ne_true (h1.symm.trans e))).trans ?_
  exact if_neg (fun e => Bool.false_ne_true (h2.symm.trans e))
theorem ss_3 {x y z : Str} {px py pz kt pt k2 pt2} {a b c : Expr} {env : Env} (hk : env.scope.kind = .function) (hx : env.kindOf x = some .local) (hy : env.kindOf y = some .local) (hz : env.kindOf z = some .local) (ly : py.line = px.line) (lz : pz.line = px.line) (n1 : y ≠ x) (n2 : z ≠ x) (n3 : z ≠ y) (ho : parOk [a, b, c] = true) :
    swappedStores [.Tuple [.Name x px, .Name y py, .Name z pz] kt pt] (.Tuple [a, b, c] k2 pt2) env = pure (some [x, y, z]) := by
  unfold parOk at ho
  simp only [Bool.and_eq_true, Bool.not_eq_true'] at ho
  obtain ⟨⟨h1, h2⟩, h3⟩ := ho
  have hb := blk_fn hk
  have nms : ([Expr.Name x px, .Name y py, .Name z pz].filterMap fun
    | .Name id pos => if env.kindOf id == some .local && pos.line == px.line then some id else none
    | _ => none) = [x, y, z] := by
    simp [hx, hy, hz, ly, lz]
  unfold swappedStores
  simp only [pure_bind]
  generalize hn : (List.filterMap _ [Expr.Name x px, .Name y py, .Name z pz]) = ns
  have e : ns = [x, y, z] := hn.symm.trans nms
  subst e
  refine (if_neg (fun e => ?_)).trans ?_
  · rw [hb] at e
    exact Bool.false_ne_true e
  refine (if_neg (fun e => Bool.false_ne_true (h3.symm.trans e))).trans ?_
  refine (if_neg (fun e => ?_)).trans ?_
  · rw [dup3 n1 n2 n3] at e
    exact Bool.false_ne_true e
  refine (if_neg (fun e => Bool.false_ne_true (h1.symm.trans e))).trans ?_
  exact if_neg (fun e => Bool.false_ne_true (h2.symm.trans e))
def parV : List Nat → List V → L2.St → L2.St
  | i :: is, v :: vs, σ => parV is vs (σ.set i (some v))
  | _, _, σ => σ
theorem parS_ok {ρ : Wd} {H : Hp} : ∀ {vs : List Val} {xs : List V}, RVs X.K fa ρ H vs xs → ∀ {is : List Nat} {s : Slots} {σ : L2.St} {s' : Slots}, SR X.K fa ρ H s σ → parS is vs s = some s' → SR X.K fa ρ H s' (parV is xs σ) ∧ is.length = xs.length
  | _, _, .nil, is, s, σ, s', hs, q => by
    cases is with
    | nil => cases q; exact ⟨hs, rfl⟩
    | cons _ _ => cases q
  | _, _, .cons r1 rr, is, s, σ, s', hs, q => by
    cases is with
    | nil => cases q
    | cons i is =>
      obtain ⟨a, b⟩ := parS_ok rr (is := is) (hs.set i r1) q
      exact ⟨a, by simp [b]⟩
theorem parN_cons {e : Expr} {r : List Expr} {l : List (Str × Nat × Nat)} (h : parN T nm (e :: r) = some l) : ∃ x p i l', e = .Name x p ∧ nm.lookup x = some .local ∧ ixIn x T.N = some i ∧ parN T nm r = some l' ∧ l = (x, i, p.line) :: l' ∧ ∀ q ∈ l', q.1 ≠ x ∧ q.2.1 ≠ i ∧ q.2.2 = p.line := by
  cases e with
  | Name x p =>
    have h' : (match decide (nm.lookup x = some .local), ixIn x T.N, parN T nm r with
      | true, some i, some l => if l.all (fun q => !decide (q.1 = x) && !decide (q.2.1 = i) && decide (q.2.2 = p.line)) then some ((x, i, p.line) :: l) else none
      | _, _, _ => none) = some l := h
    split at h'
    · rename_i i l' h1 h2 h3
      split at h'
      · rename_i h4
        cases h'
        refine ⟨x, p, i, l', rfl, of_decide_eq_true h1, h2, h3, rfl, fun q hq => ?_⟩
        have := List.all_eq_true.mp h4 q hq
        simp only [Bool.and_eq_true, Bool.not_eq_true', decide_eq_false_iff_not, decide_eq_true_eq] at this
        exact ⟨this.1.1, this.1.2, this.2⟩
      · cases h'
    · cases h'
  | _ => exact nomatch (show (none : Option (List (Str × Nat × Nat))) = some l from h)
theorem sns_par {ts vs : List Expr} {j j2 : Nat} {p p2 pos : Pos} {l : List (Str × Nat × Nat)} {es : Exs} {f : Expr → Option Ex} (c : Cok fa X T nm k C) (ho : parOk vs = true) (hl : vs.length = ts.length) (h23 : ts.length = 2 ∨ ts.length = 3) (hp : parN T nm ts = some l) (hc : cL f vs = some es) (he : SndA fa X vs (evEs C es)) :
    SndS fa X (.Assign [.Tuple ts j p] (.Tuple vs j2 p2) pos) (exS C (.par (l.map (·.2.1)) es)) := by
  intro s σ ρ M H r M' hs hm q
  obtain ⟨us, m1, q1, q⟩ := R.bind_ok q
  obtain ⟨s', m2, q2, q⟩ := R.bind_ok q
  obtain ⟨q3, em⟩ := R.opt_ok q2
  subst em
  cases q
  have run := he s σ ρ M H us M' hs hm q1
  refine seS.ok fun ok => ?_
  have at_ : ∀ {x : Str} {i : Nat}, ixIn x T.N = some i → X.N[i]? = some x := fun h => by rw [c.N]; exact ixIn_at h
  have lo : ∀ {x : Str}, nm.lookup x = some .local → X.env.scope.names.lookup x = some .local := fun h => c.na _ _ h (by decide)
  match ts, vs, hl, h23, hp with
  | [t1, t2], [a, b], _, _, hp =>
    obtain ⟨x, px, i, l1, rfl, lx, ix, hp1, rfl, al⟩ := parN_cons hp
    obtain ⟨y, py, i2, l2, rfl, ly, iy, hp2, rfl, al2⟩ := parN_cons hp1
    cases hp2
    have n1 := al (y, i2, py.line) (by simp)
    refine ofS (ps_par c.calm c.nd (at_ ix) (at_ iy) (Ne.symm n1.2.1) (lo lx) (lo ly) (pA [a, b]) (ss_2 ok.kind (lo lx) (lo ly) n1.2.2 n1.1 ho)) (run.thn fun xs H1 _ ⟨ρ1, g1, hm1, r1⟩ => ?_)
    obtain ⟨h1, h2⟩ := parS_ok r1 (hs.go g1) q3
    match xs, h1, h2 with
    | [v, w], h1, _ => exact ⟨v, w, rfl, s', rfl, ρ1, g1, hm1, h1⟩
  | [t1, t2, t3], [a, b, d], _, _, hp =>
    obtain ⟨x, px, i, l1, rfl, lx, ix, hp1, rfl, al⟩ := parN_cons hp
    obtain ⟨y, py, i2, l2, rfl, ly, iy, hp2, rfl, al2⟩ := parN_cons hp1
    obtain ⟨z, pz, i3, l3, rfl, lz, iz, hp3, rfl, al3⟩ := parN_cons hp2
    cases hp3
    have n1 := al (y, i2, py.line) (by simp)
    have n2 := al (z, i3, pz.line) (by simp)
    have n3 := al2 (z, i3, pz.line) (by simp)
    refine ofS (ps_par3 c.calm c.nd (at_ ix) (at_ iy) (at_ iz) (Ne.symm n1.2.1) (Ne.symm n2.2.1) (Ne.symm n3.2.1) (lo lx) (lo ly) (lo lz) (pA [a, b, d]) (ss_3 ok.kind (lo lx) (lo ly) (lo lz) n1.2.2 n2.2.2 n1.1 n2.1 n3.1 ho)) (run.thn fun xs H1 _ ⟨ρ1, g1, hm1, r1⟩ => ?_)
    obtain ⟨h1, h2⟩ := parS_ok r1 (hs.go g1) q3
    match xs, h1, h2 with
    | [v, w, u], h1, _ => exact ⟨v, w, u, rfl, s', rfl, ρ1, g1, hm1, h1⟩
  | [], _, _, h23, _ => simp at h23
  | [_], _, _, h23, _ => simp at h23
  | _ :: _ :: _ :: _ :: _, _, _, h23, _ => simp at h23
  | [_, _], [], hl, _, _ => simp at hl
  | [_, _], [_], hl, _, _ => simp at hl
  | [_, _], _ :: _ :: _ :: _, hl, _, _ => simp at hl
  | [_, _, _], [], hl, _, _ => simp at hl
  | [_, _, _], [_], hl, _, _ => simp at hl
  | [_, _, _], [_, _], hl, _, _ => simp at hl
  | [_, _, _], _ :: _ :: _ :: _ :: _, hl, _, _ => simp at hl
/-- a statement that is compiled does what is evaluated -/
theorem snd_st : ∀ (n : Nat) {X : Cx} {nm : Nms}, Cok fa X T nm k C → PassesOwn (model X.prog X.w) X.A X.env X.xe → ∀ (st : Stmt) (x : St), compS n T nm st = some x → SndS fa X st (exS C x)
  | 0, _, _, _, _, _, _, h => by cases h
  | n + 1, X, nm, c, pw, st, x, h => by
    have ih : ∀ st x, compS n T nm st = some x → SndS fa X st (exS C x) := fun st x h => snd_st n c pw st x h
    have ih1 : ∀ e x, compE n T nm e = some x → okE e = true → SndE fa X e (evE C x) := fun e x h _ => (snd_exp n c e x h).1
    have sub : ∀ {e x}, cE (compE n T nm) e = some x → okE e = true ∧ Snd fa C X e x := fun {e x} q => ⟨(cE_ok q).1, snd_exp n c e x (cE_ok q).2⟩
    have sts : ∀ {ss xs}, compSs (compS n T nm) ss = some xs → SndSs fa X ss (exSs C xs) := fun {ss xs} q => sss_of ih q
    unfold compS at h
    split at h
    · cases h
      exact fun s σ ρ M H r M' hs hm q => by
        cases q
        exact ofS ps_doc ⟨s, rfl, ρ, .refl, hm, hs⟩
    · split at h
      · cases h
      · rename_i hl
        obtain ⟨y, q, rfl⟩ := Option.map_eq_some_iff.mp h
        exact sns_ex (sub q).1 (by simpa using hl) (sub q).2.1
    · cases h; exact sns_retN
    · obtain ⟨y, q, rfl⟩ := Option.map_eq_some_iff.mp h
      exact sns_ret (sub q).2.1
    · cases h
      exact fun s σ ρ M H r M' hs hm q => by
        cases q
        exact ofS ps_pass ⟨s, rfl, ρ, .refl, hm, hs⟩
    · cases h
      exact fun s σ ρ M H r M' hs hm q => by
        cases q
        exact ofS ps_break ⟨s, rfl, ρ, .refl, hm, hs⟩
    · cases h
      exact fun s σ ρ M H r M' hs hm q => by
        cases q
        exact ofS ps_continue ⟨s, rfl, ρ, .refl, hm, hs⟩
    · split at h
      · rename_i q1 q2 q3
        cases h; exact sns_iff (sub q1).2.2 (sts q2) (sts q3)
      · cases h
    · split at h
      · rename_i q1 q2
        cases h; exact sns_whil pw (sub q1).2.2 (sts q2)
      · cases h
    · split at h
      · rename_i q1 q2 q3
        cases h
        obtain ⟨a, b⟩ := snd_cIt c ih1 q2
        exact sns_for c pw q1 b a (sts q3)
      · cases h
    · split at h
      · rename_i q1 q2
        cases h
        obtain ⟨i, q, rfl⟩ := Option.map_eq_some_iff.mp (show (slotS T nm _).map Tg.nm = some _ from q1)
        exact sns_name c q (cE_ok q2).1 (cE_ok q2).2
      · cases h
    · split at h
      · split at h
        · rename_i hh
          split at h
          · rename_i q1 q2
            cases h
            exact sns_par c hh.1 hh.2.1 hh.2.2 q1 q2 (snd_cL ih1 q2)
          · split at h
            · rename_i hcl
              split at h
              · rename_i q1 q2
                cases h
                obtain ⟨tx, h1, h2⟩ := List.any_eq_true.mp hcl
                split at h2
                · exact sns_tup c q1 (ss_cell h1 (c.na _ _ (of_decide_eq_true h2) (by decide))) (sub q2).2.1
                · cases h2
              · cases h
            · cases h
        · cases h
      · rename_i hn
        split at h
        · rename_i q1 q2
          cases h
          refine sns_tup c q1 (st_tup ?_) (sub q2).2.1
          unfold isTup
          split
          · exact (hn _ _ _ rfl).elim
          · rfl
        · cases h
    · split at h
      · rename_i q1 q2 q3
        cases h; exact sns_set (sub q1).2.1 (sub q2).2.1 (sub q3).2.1 (sub q2).1
      · cases h
    · split at h
      · rename_i q1 q2 q3
        cases h; exact sns_aug c q1 q2 (sub q3).2.1
      · cases h
    · cases h
      intro s σ ρ M H fl M' hs hm q
      exact nomatch (show (R.no : R Fl) = .ok fl M' from q)
    · cases h
end
end Rf

namespace Rf
open PySem PySem.Spec PyProof.Rows L2
/-! ### calls -/
def cxN (P : Program) (w : World) (K : PySem.W.Frag) (mg : Str → Option Value) (base : Heap) (N : List Str) (qual : Str) (scope : Scope) (f : Addr) (cd : Value) (A : Around) (outer : List Env) (s : Shared) (H : Hp) : Cx :=
  { cxOf CX0 P w K mg base N qual scope f cd A outer s H (fun _ _ _ => False) with xe := fun _ _ => False }
theorem Rm.deeper {k : Nat} {A : Around} (h : Rm (k + 1) A) (env : Env) : Rm k (A.deeper env) := ⟨h.r.deeper env, h.g⟩
theorem Rm.mono {j k : Nat} {A : Around} (r : Rm k A) (h : j ≤ k) : Rm j A := ⟨r.r.mono h, r.g⟩
theorem datas_eq : ∀ {vs : List Val} {ds : List D}, datas vs = some ds → vs = ds.map .d
  | [], ds, h => by cases h; rfl
  | .d x :: vs, ds, h => by
    unfold datas at h
    split at h
    · rename_i xs q
      cases h
      rw [datas_eq q]
      rfl
    · cases h
  | .r _ :: _, _, h => by cases h
section
variable {P : Program} {w : World} {K : PySem.W.Frag} {mg : Str → Option Value} {base : Heap} {fa : Nat → Addr}
theorem slots0 {ρ : Wd} {H : Hp} {N : List Str} {np : Nat} {as : List Val} {vs : List V} (r : RVs K fa ρ H as vs) (h : as.length = np) (hN : np ≤ N.length) : SR K fa ρ H (as.map some ++ List.replicate (N.length - np) none) (L2.start N vs) := by
  have hl : vs.length = np := by rw [← r.length]; exact h
  refine ⟨by simp [L2.start, h, hl], fun i x e => ?_⟩
  unfold L2.start
  by_cases hi : i < as.length
  · rw [List.getElem?_append_left (by simpa using hi), List.getElem?_map] at e
    cases q : as[i]? with
    | none => rw [q] at e; cases e
    | some y =>
      rw [q] at e
      cases e
      obtain ⟨v, e1, e2⟩ := r.get q
      refine ⟨v, ?_, e2⟩
      rw [List.getElem?_append_left (by rw [List.length_map, ← r.length]; exact hi), List.getElem?_map, e1]
      rfl
  · rw [List.getElem?_append_right (by simpa using hi), List.getElem?_replicate] at e
    split at e <;> cases e
/-- a def of the text, as it is compiled -/
structure DefOk (K : PySem.W.Frag) (T : Tab) (fr : Fn) (f : Addr) : Prop where
  ex : ∃ (x qual : Str) (params : Arguments) (body : List Stmt) (scope : Scope) (fd : FuncData) (ps N : List Str) (n : Nat),
    FunD K x qual params body scope [] [] f fd ∧ FnScope N ps scope ∧ ps.length = fr.np ∧ N.length = fr.n ∧
    (∀ (kV doc pm : Value) (an : Option Addr) (cdv ct : Value) (us : List Value), us.length = ps.length → bindArgs (PySem.W.fnOf x qual params body scope .none kV doc pm an cdv ct) ⟨us, []⟩ = pure (ps.zip us)) ∧
    compSs (compS n { T with N := N } scope.names) body = some fr.body
/-- the program's facts -/
structure Facts (K : PySem.W.Frag) (mg : Str → Option Value) (fa : Nat → Addr) (T : Tab) (pr : Prog) : Prop where
  fn : ∀ x f np, T.fid.lookup x = some (f, np) → mg x = some (.ref (fa f)) ∧ PySem.W.keepIn K (.ref (fa f)) = true ∧ ∃ fr, pr.fn f = some fr ∧ fr.np = np
  df : ∀ f fr, pr.fn f = some fr → DefOk K T fr (fa f)
  gl : ∀ x g d, T.gid.lookup x = some g → pr.glo g = some d → ∃ v u, mg x = some u ∧ RelV v u ∧ ∀ ρ H, RD K fa ρ H d v
  fr : ∀ x ∈ T.free, mg x = none
theorem body_run {T : Tab} {pr : Prog} {k : Nat} (F : Facts K mg fa T pr) (ih : ∀ f fr, pr.fn f = some fr → FnG P w K mg base fa k f fr.np (callN pr k f)) {f : Nat} {fr : Fn} (hf : pr.fn f = some fr)
    {A : Around} {outer : List Env} {s : Shared} {H : Hp} {us : List Value} {vs : List V} {as : List Val} {ρ : Wd} {M : Mem} {v : Val} {M' : Mem} (hr : Rm (k + 1) A) (e0 : Env0 P w K mg base A outer s H) (rv : Vals vs us) (r : RVs K fa ρ H as vs) (hm : HR K fa ρ M H)
    (hl : as.length = fr.np) (hq : runB ⟨callN pr k, pr.glo, WF⟩ fr as M = .ok v M') :
    codeAny (model P w) A (.call (.ref (fa f)) ⟨us, []⟩) (fun r s' => match r with
      | .ok (.ret u) => CE outer P w H s (PoE K fa ρ H v M') u s'
      | _ => False) s := by
  obtain ⟨x, qual, params, body, scope, fd, ps, N, n, FD, S, hps, hN, hbind, hc⟩ := (F.df f fr hf).ex
  obtain ⟨oc, od, dV, kV, doc, pm, an, cdv, ct, osl, rfl, lk, hcd, hD, _⟩ := FD.ex
  have hdV : dV = .none := by
    rcases hD with ⟨_, h⟩ | ⟨h, _⟩
    · exact h
    · exact absurd rfl h
  subst hdV
  have hlv : vs.length = ps.length := by rw [← r.length, hl, hps]
  have hlu : us.length = ps.length := by rw [← rv.length, hlv]
  have KX : K.In s.heap := e0.mod.kin.keeps fun b o e => (e0.bs b o e).1
  have lim : s.heap.NoLimit := e0.mod.nolimit.keeps fun b o e => (e0.bs b o e).1
  have hkind : ∀ y ∈ ps.zip us, scope.names.lookup y.1 = some .local ∨ (scope.names.lookup y.1 = some .cell ∧ ((cellsFrom (s.heap.objs.size + 1) scope.names []).lookup y.1).isSome = true) := fun ⟨n, v⟩ hy => by
    rcases S.par n (List.of_mem_zip hy).1 with q | q
    · exact .inl q
    · exact .inr ⟨q, PySem.W.cellsFrom_some _ _ _ (.inl q)⟩
  refine codeAny_call_function hr.r.depth (KX _ _ lk) rfl S.co S.gen rfl (PySem.W.codeRec_of KX hcd) ((BindsTo.of_eq (hbind kV doc pm an cdv ct us hlu)) _ _ _ _ ?_)
  refine wpAny_newFunctionEnv_cells S.kind hkind fun env he s1 xx => ?_
  subst he
  refine ⟨lim.keeps xx.toInCall.keep, codeAny_func ?_⟩
  have I0 : Inv (cxOf CX0 P w K mg base N qual scope (fa f) cdv A outer s H (fun _ _ _ => False)) [] (L2.start N vs) H s1 := inv_start S hr.r.hd e0 hlv rv xx
  have I : Inv (cxN P w K mg base N qual scope (fa f) cdv A outer s H) [] (L2.start N vs) H s1 :=
    ⟨⟨I0.ok.mod, I0.ok.kind, I0.ok.glob, I0.ok.blt, I0.ok.above, I0.ok.inj, I0.ok.has, I0.ok.cab, I0.ok.hd, I0.ok.frames, I0.ok.stk, I0.ok.exf, I0.ok.bs, I0.ok.bsz, I0.ok.noex, I0.ok.exfs, I0.ok.funs, I0.ok.frf⟩,
      I0.os, I0.bare, I0.base, I0.loc, I0.cell, I0.free, I0.freeC, I0.pin, I0.hok, I0.len⟩
  have ck : Cok fa (cxN P w K mg base N qual scope (fa f) cdv A outer s H) { T with N := N } scope.names k ⟨callN pr k, pr.glo, WF⟩ := by
    refine ⟨rfl, S.nd, rfl, hr.deeper _, Nat.zero_le _, fun x kd h _ => h, fun x h => .inl h, fun x g np h => ?_, fun x g d h1 h2 => F.gl x g d h1 h2, F.fr, fun _ _ => rfl⟩
    obtain ⟨h1, h2, fr2, h3, h4⟩ := F.fn x g np h
    exact ⟨h1, h2, by rw [← h4]; exact ih g fr2 h3⟩
  unfold runB at hq
  rw [decide_eq_true hl] at hq
  obtain ⟨fl, m1, q1, q2⟩ := R.bind_ok hq
  have pN : fr.np ≤ N.length := by
    have := congrArg List.length S.pre
    rw [List.length_take] at this
    omega
  rw [← hN] at q1
  have run := sss_of (fun st x h => snd_st n ck PassesOwn.never st x h) hc _ _ ρ M H fl m1 (slots0 r hl pN) hm q1
  refine wpAny_mono (run [] s1 I) (fun f2 s' hs => ?_) fun e s' hs => hs.elim
  have fin : ∀ {σ' : L2.St} {H' : Hp} {z : V} {u : Value}, Inv (cxN P w K mg base N qual scope (fa f) cdv A outer s H) [] σ' H' s' → RelV z u → PoE K fa ρ H v M' z H' → CE outer P w H s (PoE K fa ρ H v M') u s' :=
    fun {σ' H' z u} J rz q => ⟨z, H', J.os, J.bare, J.base, J.hok, rz, q⟩
  cases f2 with
  | ret u =>
    obtain ⟨z, σ', H', J, rz, wv, e, po⟩ := hs
    subst e
    cases q2
    exact fin J rz po
  | next =>
    obtain ⟨σ', H', J, sv, e, ρ', g, hm', _⟩ := hs
    subst e
    cases q2
    exact fin (z := V.non) (u := Value.none) J rfl ⟨ρ', g, hm', .non⟩
  | brk =>
    obtain ⟨_, _, _, sv, e, _⟩ := hs
    subst e
    cases q2
  | cont =>
    obtain ⟨_, _, _, sv, e, _⟩ := hs
    subst e
    cases q2
theorem froz_ok {ρ1 : Wd} {H : Hp} {m : Mem} {v : Val} {x : D} {z : V} (hm : HR K fa ρ1 m H) (r : RV K fa ρ1 H v z) (h : froz m v = some x) {ρ : Wd} (k : Kp ρ1 H ρ H) (o : ∀ a ∈ ρ1.l, ρ.out a) : RD K fa ρ H x z := by
  cases v with
  | d y =>
    have e : y = x := Option.some.inj h
    subst e
    exact RD.kp k r
  | r i =>
    have h' : (match m[i]? with
      | some (.lst vs) => (datas vs).map D.lst
      | _ => none) = some x := h
    split at h'
    · rename_i us qi
      obtain ⟨ds, qd, rfl⟩ := Option.map_eq_some_iff.mp h'
      obtain ⟨a, vs, e1, rfl, h1, r1⟩ := hm.lst qi r
      exact .lst h1 (o a (List.mem_of_getElem? e1)) ((RVs.ds r1 qd).kp k)
    · cases h'
theorem all_fns {T : Tab} {pr : Prog} (F : Facts K mg fa T pr) : ∀ (k : Nat) (f : Nat) (fr : Fn), pr.fn f = some fr → FnG P w K mg base fa k f fr.np (callN pr k f)
  | 0, f, fr, hf => fun A outer s H us vs as ρ M v M' hr e0 rv r hm hl hq => by cases hq
  | k + 1, f, fr, hf => fun A outer s H us vs as ρ M v M' hr e0 rv r hm hl hq => by
    have ih := all_fns F k
    have hq' : (match fr.pure with
      | false => runB ⟨callN pr k, pr.glo, WF⟩ fr as M
      | true => match datas as with
        | none => .no
        | some _ => match runB ⟨callN pr k, pr.glo, WF⟩ fr as [] with
          | .ok v m' => (R.opt (froz m' v) M).bind fun x m => .ok (.d x) m
          | .ex e _ => .ex e M
          | .no => .no) = .ok v M' := by
      have : callN pr (k + 1) f as M = .ok v M' := hq
      unfold callN at this
      rw [hf] at this
      exact this
    cases hp : fr.pure with
    | false =>
      rw [hp] at hq'
      exact body_run F ih hf hr e0 rv r hm hl hq'
    | true =>
      rw [hp] at hq'
      cases hd : datas as with
      | none => rw [hd] at hq'; cases hq'
      | some ds =>
        rw [hd] at hq'
        have hq2 : (match runB ⟨callN pr k, pr.glo, WF⟩ fr as [] with
          | .ok v m' => (R.opt (froz m' v) M).bind fun x m => R.ok (Val.d x) m
          | .ex e _ => .ex e M
          | .no => .no) = .ok v M' := hq'
        cases hrun : runB ⟨callN pr k, pr.glo, WF⟩ fr as [] with
        | no => rw [hrun] at hq2; cases hq2
        | ex e m' => rw [hrun] at hq2; cases hq2
        | ok v1 m1 =>
          rw [hrun] at hq2
          obtain ⟨x, m2, q1, q2⟩ := R.bind_ok hq2
          obtain ⟨q3, em⟩ := R.opt_ok q1
          subst em
          cases q2
          have k0 : Kp ρ H ⟨[], ρ.l ++ ρ.z⟩ H := ⟨fun p o e n => ⟨e, by simp, fun m => (List.mem_append.mp m).elim n.1 n.2⟩⟩
          have hm0 : HR K fa ⟨[], ρ.l ++ ρ.z⟩ [] H := ⟨rfl, List.nodup_nil, fun i a o e => by simp at e, fun a m => by
            rcases List.mem_append.mp m with m | m
            · obtain ⟨vs, e⟩ := hm.trk m
              rw [e]; simp
            · exact hm.zr a m⟩
          have r0 : RVs K fa ⟨[], ρ.l ++ ρ.z⟩ H as vs := by
            have := ((RVs.ds r hd).kp k0).vs
            rw [← datas_eq hd] at this
            exact this
          refine codeAny_mono (body_run F ih hf hr e0 rv r0 hm0 hl hrun) fun r2 s' h2 => ?_
          cases r2 with
          | error e => exact h2
          | ok fl =>
            cases fl with
            | ret u =>
              obtain ⟨z, H', h3, h4, h5, h6, h7, ρ1, g, hm1, rz⟩ := h2
              refine ⟨z, H', h3, h4, h5, h6, h7, ρ, ⟨⟨[], by simp, by simp⟩, rfl, fun b o e _ => g.fr b o e (by simp), g.dm⟩, ?_, ?_⟩
              · exact hm.kp ⟨fun p o e n => ⟨g.fr p o e (by simp), n⟩⟩ rfl (fun a m => by
                  obtain ⟨vs, e⟩ := hm.trk m
                  rw [e]
                  exact g.fr a _ e (by simp)) (fun a m => g.dm a (hm.zr a m))
              · have zz : ρ1.z = ρ.l ++ ρ.z := g.zz
                refine froz_ok hm1 rz q3 ⟨fun p o e n => ⟨e, fun m => n.2 (by rw [zz]; exact List.mem_append_left _ m), fun m => n.2 (by rw [zz]; exact List.mem_append_right _ m)⟩⟩ fun a ha => ?_
                obtain ⟨n, e1, e2⟩ := g.gr
                have e1' : ρ1.l = n := by rw [e1]; rfl
                rw [e1'] at ha
                have hn := e2 a ha
                exact hm.out hn
            | next => exact h2
            | brk => exact h2
            | cont => exact h2
end
end Rf

namespace Rf
open PySem PySem.Spec PyProof.Rows L2
/-! ### the law's own call -/
/-- the heap that tracks the script alone (unless it is the module's own) -/
def scrH (K : PySem.W.Frag) (a : Addr) (o : Obj) (ns : List Int) : Hp := fun b => if K.lookup a = none ∧ b = a then some (.frz o (.lst (ns.map V.int))) else none
theorem scrH_some {K : PySem.W.Frag} {a b : Addr} {o : Obj} {ns : List Int} {u : HO} (h : scrH K a o ns b = some u) : K.lookup a = none ∧ b = a ∧ u = .frz o (.lst (ns.map V.int)) := by
  unfold scrH at h
  split at h
  · rename_i c
    cases h
    exact ⟨c.1, c.2, rfl⟩
  · cases h
section
variable {P : Program} {w : World} {K : PySem.W.Frag} {mg mb : Str → Option Value} {fa : Nat → Addr} {s1 : Shared} {a : Addr} {vs : List Value} {ns : List Int}
theorem law_run {k f : Nat} {g : List Val → Mem → R Val} {M' : Mem} (hK : K.In s1.heap) (hN : s1.heap.Ns mainGlobals mg) (hB : s1.heap.Ns builtinsNs mb) (hBB : ∀ x : Str, x ≠ "__name__" → mb x = bootBuiltins x) (hL : s1.heap.NoLimit) (hG : s1.gens = #[])
    (hA : s1.heap.get? a = some { cls := .type "list", data := .seq vs.toArray }) (hI : IntsAre vs ns) (hl : ns.length ≤ sizeLine) (hr : Room k callerA)
    (F : ∀ base : Heap, FnG P w K mg base fa k f 1 g) (hg : g [.d (.scr ns)] [] = .ok (.d (.bl true)) M') :
    codeAny (model P w) callerA (.call (.ref (fa f)) ⟨[.ref a], []⟩) (fun r s' => r = .ok (.ret (.bool true)) ∧ OldK s1.heap s'.heap ∧ s'.os = s1.os ∧ AllBare s'.gens) s1 := by
  have vi := vals_ints hI
  have sz : vs.toArray.size ≤ sizeLine := by rw [List.size_toArray, hI.length]; exact hl
  let H : Hp := scrH K a { cls := .type "list", data := .seq vs.toArray } ns
  have only : ∀ {b o}, s1.heap.get? b = some o → (b = a → K.lookup a ≠ none) → H b = none := by
    intro b o e n
    cases q : H b with
    | none => rfl
    | some u =>
      obtain ⟨h1, h2, _⟩ := scrH_some q
      exact absurd h1 (n h2)
  have onlyD : ∀ {b : Addr} {o : Obj} {es : Array DictEntry} {ep : Nat}, s1.heap.get? b = some o → o.data = .dict es ep → H b = none := by
    intro b o es ep e d
    cases q : H b with
    | none => rfl
    | some u =>
      obtain ⟨_, h2, _⟩ := scrH_some q
      subst h2
      rw [hA] at e
      cases e
      exact nomatch (show Data.seq vs.toArray _ = Data.dict es ep from d)
  have kIn : K.In (hidT s1.heap H) := fun b o e => hidT_get (hK b o e) (only (hK b o e) fun z n => by rw [z, n] at e; cases e)
  have space : ∀ {b : Addr} {m : Str → Option Value}, s1.heap.Ns b m → (hidT s1.heap H).Ns b m := by
    rintro b m ⟨o, es, ep, e, d, q⟩
    exact ⟨o, es, ep, hidT_get e (onlyD e d), d, q⟩
  have md : Mod K mg (hidT s1.heap H) := by
    obtain ⟨mc, n1, n2⟩ := hL
    exact ⟨kIn, space hN, ⟨mb, space hB, hBB⟩, ⟨mc, space n1, n2⟩⟩
  have hok : HOk P w H s1.heap := by
    intro b u e
    obtain ⟨_, h2, h3⟩ := scrH_some e
    subst h2 h3
    exact ⟨hA, by rw [List.length_map]; exact hl, vs, _, vi, hA⟩
  have ev : Env0 P w K mg (hidT s1.heap H) callerA [] s1 H :=
    ⟨rfl, md, fun b o e => of_hidT e, Nat.le_of_eq (hidT_size _ _), trivial, (fun b m => by cases m), hok, .of_eq hG⟩
  have lo : LstO K ⟨[], []⟩ H a (ns.map V.int) := by
    cases hk : K.lookup a with
    | none => exact .inl ⟨.inr ⟨_, if_pos ⟨hk, rfl⟩⟩, by simp [Wd.out]⟩
    | some o =>
      have e := hK a o hk
      rw [hA] at e
      cases e
      exact .inr ⟨_, vs.toArray, _, hk, rfl, rfl, rfl, sz, by simpa using vi⟩
  have rd : RVs K fa ⟨[], []⟩ H [.d (.scr ns)] [.ref a] := .cons (.scr lo.sq lo) .nil
  have hm : HR K fa ⟨[], []⟩ [] H := ⟨rfl, List.nodup_nil, fun i a o e => by simp at e, fun a m => by cases m⟩
  refine codeAny_mono (F _ callerA [] s1 H [.ref a] [.ref a] [.d (.scr ns)] ⟨[], []⟩ [] (.d (.bl true)) M' ⟨hr, rfl⟩ ev (.cons rfl .nil) rd hm rfl hg) fun r s' h => ?_
  cases r with
  | error e => exact h.elim
  | ok fl =>
    cases fl with
    | next => exact h.elim
    | brk => exact h.elim
    | cont => exact h.elim
    | ret u =>
      obtain ⟨z, H', os, br, un, hok', rz, ρ', gg, hm', rz2⟩ := h
      cases rz2
      obtain rfl : u = Value.bool true := rz
      refine ⟨rfl, OldK.of_keep fun b o e => ?_, os, br⟩
      cases q : H b with
      | none => exact un.keep b o e q (by intro m; cases m) (by simp)
      | some u =>
        obtain ⟨_, _, h3⟩ := scrH_some q
        subst h3
        obtain ⟨e2, _⟩ := hok' b _ (un.frzs b _ _ q)
        obtain ⟨e1, _⟩ := hok b _ q
        rw [e] at e1
        cases e1
        exact e2
end
theorem walk_rf {l : PySem.W.OpenLaw} {n k : Nat} {q : Program} {loose : List Str} {XP : (Str → Option Value) → Heap → Prop} {YP : World → Heap → Prop} {d : DefRec} (hn : l.most = some n) (hz : n ≤ sizeLine) (hd : d.params.defaults = []) (hr : Room k callerA)
    (F : ∀ (w : World) (mg : Str → Option Value) (a : Addr) (h : Heap), YP w h → h.Ns mainGlobals mg → mg d.name = some (.ref a) →
      ∃ (K : PySem.W.Frag) (fa : Nat → Addr) (T : Tab) (pr : Prog) (f : Nat) (fr : Fn), K.In h ∧ fa f = a ∧ Facts K mg fa T pr ∧ pr.fn f = some fr ∧ fr.np = 1 ∧ ∀ ns : List Int, ns.length ≤ n → ∃ M', callN pr k f [.d (.scr ns)] [] = .ok (.d (.bl true)) M') :
    PySem.W.WalkO q loose XP YP l.row.toRowW d [] (fun f vs => PySem.call f vs) := by
  refine Att.attach_call hn hd fun w s0 s1 mg mb a o pm cd doc p vs ns G Y ho hf hc hm hobj hints hlen hg => ?_
  obtain ⟨K, fa, T, pr, f, fr, hK, ha, Fc, hfr, h1, hlaw⟩ := F w mg a _ Y G.T.g hm
  obtain ⟨M', hcall⟩ := hlaw ns hlen
  rw [← ha]
  refine law_run hK G.T.g G.T.b G.T.builtins G.T.nolimit hg hobj hints (Nat.le_trans hlen hz) hr (fun base => ?_) hcall
  have := all_fns (P := l.prog) (w := w) (base := base) Fc k f fr hfr
  rw [h1] at this
  exact this

/-! ### what the head looks at -/
def cpB (s : List Nat) : Bool := s.all fun c => decide (c < 0x110000)
mutual
/-- a datum of the written part -/
def dOk (K : PySem.W.Frag) : D → Value → Bool
  | .non, .none => true
  | .bl b, .bool c => b == c
  | .int i, .int j _ => decide (i = j)
  | .str s, .str y _ => decide (y = S0 s) && decide (s.length ≤ LINE) && cpB s
  | .tup ds, .ref p => match K.lookup p with
    | some ⟨.type c, _, .seq its _, _⟩ => decide (c = "tuple") && decide (its.size ≤ sizeLine) && dsOk K ds its.toList
    | _ => false
  | .scr ns, .ref p => match K.lookup p with
    | some ⟨.type c, none, .seq its _, _⟩ => decide (c = "list") && decide (its.size ≤ sizeLine) && iOk ns its.toList
    | _ => false
  | _, _ => false
def dsOk (K : PySem.W.Frag) : List D → List Value → Bool
  | [], [] => true
  | d :: ds, v :: vs => dOk K d v && dsOk K ds vs
  | _, _ => false
def iOk : List Int → List Value → Bool
  | [], [] => true
  | i :: is, .int j _ :: vs => decide (i = j) && iOk is vs
  | _, _ => false
end
theorem iOk_ok : ∀ {ns : List Int} {vs : List Value}, iOk ns vs = true → Vals (ns.map V.int) vs
  | [], [], _ => .nil
  | [], _ :: _, h => by simp [iOk] at h
  | _ :: _, [], h => by simp [iOk] at h
  | i :: is, v :: vs, h => by
    cases v with
    | int j t =>
      simp only [iOk, Bool.and_eq_true, decide_eq_true_eq] at h
      obtain ⟨rfl, h⟩ := h
      exact .cons ⟨t, rfl⟩ (iOk_ok h)
    | _ => simp [iOk] at h
mutual
theorem dOk_ok {K : PySem.W.Frag} {fa : Nat → Addr} : ∀ {d : D} {v : Value}, dOk K d v = true → ∃ x : V, RelV x v ∧ ∀ ρ H, RD K fa ρ H d x
  | .non, v, h => by
    cases v <;> first | (simp [dOk] at h; done) | exact ⟨.non, rfl, fun _ _ => .non⟩
  | .bl b, v, h => by
    cases v <;> first | (simp [dOk] at h; done) | skip
    simp only [dOk, beq_iff_eq] at h
    subst h
    exact ⟨.bl b, rfl, fun _ _ => .bl⟩
  | .int i, v, h => by
    cases v <;> first | (simp [dOk] at h; done) | skip
    simp only [dOk, decide_eq_true_eq] at h
    subst h
    exact ⟨.int i, ⟨_, rfl⟩, fun _ _ => .int⟩
  | .str s, v, h => by
    cases v <;> first | (simp [dOk] at h; done) | skip
    simp only [dOk, Bool.and_eq_true, decide_eq_true_eq] at h
    obtain ⟨⟨rfl, h2⟩, h3⟩ := h
    exact ⟨.str (S0 s), ⟨_, rfl⟩, fun _ _ => .str h2 fun c hc => of_decide_eq_true (List.all_eq_true.mp h3 c hc)⟩
  | .tup ds, v, h => by
    cases v <;> first | (simp [dOk] at h; done) | skip
    rename_i p
    simp only [dOk] at h
    split at h
    · rename_i c od its n sl q
      simp only [Bool.and_eq_true, decide_eq_true_eq] at h
      obtain ⟨⟨rfl, h2⟩, h3⟩ := h
      obtain ⟨xs, h4, h5⟩ := dsOk_ok (fa := fa) h3
      have t : ∀ ρ H, TupO K ρ H p xs := fun ρ H => .inr ⟨_, its, n, q, rfl, rfl, h2, h4⟩
      exact ⟨.ref p, rfl, fun ρ H => .tup (t ρ H).sq (t ρ H) (h5 ρ H)⟩
    · cases h
  | .scr ns, v, h => by
    cases v <;> first | (simp [dOk] at h; done) | skip
    rename_i p
    simp only [dOk] at h
    split at h
    · rename_i c its n sl q
      simp only [Bool.and_eq_true, decide_eq_true_eq] at h
      obtain ⟨⟨rfl, h2⟩, h3⟩ := h
      have t : ∀ ρ H, LstO K ρ H p (ns.map V.int) := fun ρ H => .inr ⟨_, its, n, q, rfl, rfl, rfl, h2, iOk_ok h3⟩
      exact ⟨.ref p, rfl, fun ρ H => .scr (t ρ H).sq (t ρ H)⟩
    · cases h
  | .lst _, v, h => by cases v <;> simp [dOk] at h
  | .dct _, v, h => by cases v <;> simp [dOk] at h
  | .set _, v, h => by cases v <;> simp [dOk] at h
  | .fn _, v, h => by cases v <;> simp [dOk] at h
  | .obj _ _, v, h => by cases v <;> simp [dOk] at h
theorem dsOk_ok {K : PySem.W.Frag} {fa : Nat → Addr} : ∀ {ds : List D} {vs : List Value}, dsOk K ds vs = true → ∃ xs : List V, Vals xs vs ∧ ∀ ρ H, RDs K fa ρ H ds xs
  | [], [], _ => ⟨[], .nil, fun _ _ => .nil⟩
  | [], _ :: _, h => by simp [dsOk] at h
  | _ :: _, [], h => by simp [dsOk] at h
  | d :: ds, v :: vs, h => by
    simp only [dsOk, Bool.and_eq_true] at h
    obtain ⟨x, a1, a2⟩ := dOk_ok (fa := fa) h.1
    obtain ⟨xs, b1, b2⟩ := dsOk_ok (fa := fa) h.2
    exact ⟨x :: xs, .cons a1 b1, fun ρ H => .cons (a2 ρ H) (b2 ρ H)⟩
end
/-- what a law's text is: its defs (with their names as globals), its constants, the built-in names that it uses -/
structure Txt where
  defs : List He.DefD
  cons : List (Str × D)
  free : List Str
def cOk (K : PySem.W.Frag) (q : Str × D) : Bool := match PySem.W.nsIn K mainGlobals q.1 with
  | some (some v) => dOk K q.2 v
  | _ => false
def Txt.obs (t : Txt) (K : PySem.W.Frag) : Bool × List He.FnW :=
  ((t.defs.all fun d => He.Fa.ok K (.glo d.at_.1)) && (t.free.all fun x => He.Fa.ok K (.free x)) && (t.cons.all fun q => cOk K q) && t.defs.all fun d => d.ok K, t.defs.map fun d => He.fnW K d.at_)
def Txt.val (t : Txt) : Bool × List He.FnW := (true, t.defs.map He.DefD.val)
def Txt.obsG (t : Txt) (n : Nat) (g : Addr → Option Obj) : Bool × List He.FnW := t.obs (He.frG g (He.asG g n))
def Txt.hook (t : Txt) (n : Nat) : PySem.W.Hook where
  α := Bool × List He.FnW
  obs := fun s => t.obsG n s.heap.get?
  val := fun _ => t.val
  says := fun _ h => ∃ K : PySem.W.Frag, K.In h ∧ t.obs K = t.val
  of := fun _ _ e => ⟨_, He.frG_in, e⟩
  keeps := fun _ _ _ ⟨K, hK, c⟩ k => ⟨K, PySem.W.Frag.In.keeps hK k, c⟩
theorem Txt.obsG_eq (t : Txt) {n : Nat} {g : Addr → Option Obj} {s : Shared} (h : ∀ a, g a = s.heap.get? a) : t.obsG n g = (t.hook n).obs s := by
  have e : g = s.heap.get? := funext h
  rw [e] <;> rfl
def Txt.fa (t : Txt) (K : PySem.W.Frag) (i : Nat) : Addr := match t.defs[i]? with
  | some d => He.fAd K d.at_
  | none => 0
/-- the program of the text: how each def is compiled -/
structure DefC where
  ps : List Str
  N : List Str
  pure : Bool
  body : Sts
def cOf (d : DefC) : Fn := ⟨d.ps.length, d.N.length, d.pure, d.body⟩
def nodupB : List Str → Bool
  | [] => true
  | x :: r => !(r.contains x) && nodupB r
theorem nodupB_ok : ∀ {l : List Str}, nodupB l = true → l.Nodup
  | [], _ => List.nodup_nil
  | x :: r, h => by
    simp only [nodupB, Bool.and_eq_true, Bool.not_eq_true', List.contains_eq_mem, decide_eq_false_iff_not] at h
    exact List.nodup_cons.mpr ⟨h.1, nodupB_ok h.2⟩
/-- the names of a def's block, looked at -/
def scB (sc : Scope) (ps N : List Str) : Bool :=
  decide (sc.kind = .function) && !sc.isCoroutine && !sc.isGenerator && nodupB N && decide (N.take ps.length = ps) && (ps.all fun x => decide (sc.names.lookup x = some .local) || decide (sc.names.lookup x = some .cell)) && (sc.names.all fun y => !decide (y.2 = .free))
theorem scB_ok {sc : Scope} {ps N : List Str} (h : scB sc ps N = true) : FnScope N ps sc := by
  unfold scB at h
  simp only [Bool.and_eq_true, decide_eq_true_eq, Bool.not_eq_true', List.all_eq_true, Bool.or_eq_true, decide_eq_false_iff_not] at h
  obtain ⟨⟨⟨⟨⟨⟨h1, h2⟩, h3⟩, h4⟩, h5⟩, h6⟩, h7⟩ := h
  exact ⟨h1, h2, h3, nodupB_ok h4, h5, h6, fun y hy => h7 y hy⟩
end Rf
namespace Rf
open PySem PySem.Spec PyProof.Rows L2
/-! ### from the text's parts to the program's facts -/
def fidOf : Nat → List He.DefD → List DefC → List (Str × Nat × Nat)
  | i, d :: ds, c :: cs => (d.at_.1, i, c.ps.length) :: fidOf (i + 1) ds cs
  | _, _, _ => []
def gidOf : Nat → List (Str × D) → List (Str × Nat)
  | _, [] => []
  | i, q :: qs => (q.1, i) :: gidOf (i + 1) qs
def tabOf (t : Txt) (cs : List DefC) (mu : List (Nat × Nat)) : Tab := ⟨[], fidOf 0 t.defs cs, gidOf 0 t.cons, t.free, mu⟩
def progOf (t : Txt) (cs : List DefC) : Prog := ⟨fun i => (cs[i]?).map cOf, fun g => (t.cons[g]?).map (·.2)⟩
structure Good (T : Tab) (d : He.DefD) (c : DefC) : Prop where
  at_ : d.at_.2 = none
  sc : scB d.scope c.ps c.N = true
  df : d.dfl = []
  kw : d.kwd = []
  bd : ∀ (kV doc pm : Value) (an : Option Addr) (cdv ct : Value) (us : List Value), us.length = c.ps.length → bindArgs (PySem.W.fnOf d.name d.qual d.params d.body d.scope .none kV doc pm an cdv ct) ⟨us, []⟩ = pure (c.ps.zip us)
  cp : compSs (compS 60 { T with N := c.N } d.scope.names) d.body = some c.body
inductive Goods (T : Tab) : List He.DefD → List DefC → Prop where
  | nil : Goods T [] []
  | cons {d c ds cs} : Good T d c → Goods T ds cs → Goods T (d :: ds) (c :: cs)
theorem Goods.at {T : Tab} : ∀ {ds : List He.DefD} {cs : List DefC}, Goods T ds cs → ∀ {i : Nat} {c : DefC}, cs[i]? = some c → ∃ d, ds[i]? = some d ∧ Good T d c
  | _, _, .nil, i, c, h => by simp at h
  | _, _, .cons a b, 0, c, h => by cases h; exact ⟨_, rfl, a⟩
  | _, _, .cons a b, i + 1, c, h => Goods.at b (i := i) h
theorem fid_ok {x : Str} {f np : Nat} : ∀ {ds : List He.DefD} {cs : List DefC} {i : Nat}, (fidOf i ds cs).lookup x = some (f, np) → ∃ j d c, f = i + j ∧ ds[j]? = some d ∧ cs[j]? = some c ∧ d.at_.1 = x ∧ np = c.ps.length
  | [], _, _, h => by simp [fidOf] at h
  | _ :: _, [], _, h => by simp [fidOf] at h
  | d :: ds, c :: cs, i, h => by
    unfold fidOf at h
    rw [List.lookup_cons] at h
    split at h
    · rename_i e
      cases h
      exact ⟨0, d, c, rfl, rfl, rfl, (eq_of_beq e).symm, rfl⟩
    · obtain ⟨j, d', c', h1, h2, h3, h4, h5⟩ := fid_ok h
      exact ⟨j + 1, d', c', by omega, h2, h3, h4, h5⟩
theorem gid_ok {x : Str} {g : Nat} : ∀ {cs : List (Str × D)} {i : Nat}, (gidOf i cs).lookup x = some g → ∃ j d, g = i + j ∧ cs[j]? = some (x, d)
  | [], _, h => by simp [gidOf] at h
  | (y, d) :: cs, i, h => by
    unfold gidOf at h
    rw [List.lookup_cons] at h
    split at h
    · rename_i e
      cases h
      exact ⟨0, d, rfl, by rw [eq_of_beq e]; rfl⟩
    · obtain ⟨j, d', h1, h2⟩ := gid_ok h
      exact ⟨j + 1, d', by omega, h2⟩
theorem facts_of {t : Txt} {cs : List DefC} {mu : List (Nat × Nat)} {K : PySem.W.Frag} {h : Heap} {mg : Str → Option Value} (hK : K.In h) (G : h.Ns mainGlobals mg) (c : t.obs K = t.val) (gs : Goods (tabOf t cs mu) t.defs cs) :
    Facts K mg (t.fa K) (tabOf t cs mu) (progOf t cs) := by
  have c1 : ((t.defs.all fun d => He.Fa.ok K (.glo d.at_.1)) && (t.free.all fun x => He.Fa.ok K (.free x)) && (t.cons.all fun q => cOk K q) && t.defs.all fun d => d.ok K) = true := congrArg (·.1) c
  have c2 : t.defs.map (fun d => He.fnW K d.at_) = t.defs.map He.DefD.val := congrArg (·.2) c
  simp only [Bool.and_eq_true, List.all_eq_true] at c1
  obtain ⟨⟨⟨e1, e2⟩, e3⟩, e4⟩ := c1
  have fd : ∀ {i : Nat} {d : He.DefD}, t.defs[i]? = some d → ∃ fd, FunD K d.name d.qual d.params d.body d.scope (d.dvs K) (d.kws K) (t.fa K i) fd := by
    intro i d hd
    have e5 : (t.defs.map fun d => He.fnW K d.at_)[i]? = (t.defs.map He.DefD.val)[i]? := by rw [c2]
    rw [List.getElem?_map, List.getElem?_map, hd] at e5
    have := He.DefD.funD (Option.some.inj e5) (e4 d (List.mem_of_getElem? hd))
    unfold Txt.fa
    rw [hd]
    exact this
  refine ⟨fun x f np hl => ?_, fun f fr hf => ?_, fun x g d hl hg => ?_, fun x hx => He.free_ok hK G (e2 x hx)⟩
  · obtain ⟨j, d, c, h1, h2, h3, h4, h5⟩ := fid_ok hl
    have hj : f = j := by omega
    subst hj
    obtain ⟨d', h6, gd⟩ := gs.at h3
    rw [h2] at h6
    cases h6
    obtain ⟨fd', F⟩ := fd h2
    have ea : t.fa K f = He.ga K x := by
      unfold Txt.fa
      rw [h2]
      show He.fAd K d.at_ = _
      unfold He.fAd
      rw [gd.at_, h4]
    refine ⟨?_, F.kp, cOf c, ?_, h5.symm⟩
    · rw [ea, ← h4]
      exact He.glo_ok hK G (e1 d (List.mem_of_getElem? h2))
    · show (cs[f]?).map cOf = _
      rw [h3]; rfl
  · have hf' : (cs[f]?).map cOf = some fr := hf
    obtain ⟨c, h3, rfl⟩ := Option.map_eq_some_iff.mp hf'
    obtain ⟨d, h2, gd⟩ := gs.at h3
    obtain ⟨fd', F⟩ := fd h2
    have e1 : d.dvs K = [] := by unfold He.DefD.dvs; rw [gd.df]; rfl
    have e2 : d.kws K = [] := by unfold He.DefD.kws; rw [gd.kw]; rfl
    rw [e1, e2] at F
    exact ⟨⟨_, _, _, _, _, fd', c.ps, c.N, 60, F, scB_ok gd.sc, rfl, rfl, gd.bd, gd.cp⟩⟩
  · obtain ⟨j, d', h1, h2⟩ := gid_ok hl
    have hj : g = j := by omega
    subst hj
    have hg' : (t.cons[g]?).map (·.2) = some d := hg
    rw [h2] at hg'
    cases hg'
    have h3 := e3 _ (List.mem_of_getElem? h2)
    unfold cOk at h3
    split at h3
    · rename_i v q
      obtain ⟨x', h4, h5⟩ := dOk_ok (fa := t.fa K) h3
      exact ⟨x', v, PySem.W.mg_of hK G q, h4, h5⟩
    · cases h3
/-- the walk of a text's law -/
theorem walk_txt {l : PySem.W.OpenLaw} {t : Txt} {cs : List DefC} {mu : List (Nat × Nat)} {n k m f : Nat} {q : Program} {loose : List Str} {XP : (Str → Option Value) → Heap → Prop} {d : DefRec} {dd : He.DefD} {c : DefC} (hn : l.most = some n) (hz : n ≤ sizeLine) (hd : d.params.defaults = []) (hr : Room k callerA)
    (gs : Goods (tabOf t cs mu) t.defs cs) (h1 : t.defs[f]? = some dd) (h2 : cs[f]? = some c) (h3 : c.ps.length = 1) (h4 : dd.at_.1 = d.name)
    (hlaw : ∀ ns : List Int, ns.length ≤ n → ∃ M', callN (progOf t cs) k f [.d (.scr ns)] [] = .ok (.d (.bl true)) M') :
    PySem.W.WalkO q loose XP (t.hook m).says l.row.toRowW d [] (fun f vs => PySem.call f vs) := by
  refine walk_rf hn hz hd hr fun w mg a h Y G hm => ?_
  obtain ⟨K, hK, c0⟩ := Y
  have F := facts_of (mu := mu) hK G c0 gs
  refine ⟨K, t.fa K, _, _, f, cOf c, hK, ?_, F, ?_, h3, hlaw⟩
  · obtain ⟨d', h5, gd⟩ := gs.at h2
    rw [h1] at h5
    cases h5
    have c1 : ((t.defs.all fun d => He.Fa.ok K (.glo d.at_.1)) && (t.free.all fun x => He.Fa.ok K (.free x)) && (t.cons.all fun q => cOk K q) && t.defs.all fun d => d.ok K) = true := congrArg (·.1) c0
    simp only [Bool.and_eq_true, List.all_eq_true] at c1
    have e := He.glo_ok hK G (c1.1.1.1 dd (List.mem_of_getElem? h1))
    rw [h4, hm] at e
    unfold Txt.fa
    rw [h1]
    show He.fAd K dd.at_ = a
    unfold He.fAd
    rw [gd.at_]
    show He.ga K dd.at_.1 = a
    cases e
    rw [h4]
  · show (cs[f]?).map cOf = _
    rw [h2]; rfl
end Rf

namespace Rf
open PySem PySem.Spec PyProof.Rows L2
/-! ### plain laws: rules of evaluation -/
theorem call_imp {P : Prog} {k f : Nat} {fn : Fn} {vs : List Val} {m : Mem} (h : P.fn f = some fn) (hp : fn.pure = false) : callN P (k + 1) f vs m = runB ⟨callN P k, P.glo, WF⟩ fn vs m := by
  unfold callN
  rw [h]
  simp only [hp]
theorem call_pure {P : Prog} {k f : Nat} {fn : Fn} {vs : List Val} {m m' : Mem} {ds : List D} {v : Val} {x : D} (h : P.fn f = some fn) (hp : fn.pure = true) (hd : datas vs = some ds) (hr : runB ⟨callN P k, P.glo, WF⟩ fn vs [] = .ok v m') (hx : froz m' v = some x) :
    callN P (k + 1) f vs m = .ok (.d x) m := by
  unfold callN
  rw [h]
  simp only [hp, hd, hr, R.opt, hx, R.bind]
theorem runB_eq {C : Cal} {f : Fn} {vs : List Val} {m : Mem} (h : vs.length = f.np) : runB C f vs m = (exSs C f.body (vs.map some ++ List.replicate (f.n - f.np) none) m).bind fun r m => match r with
    | .nx _ => .ok (.d .non) m
    | .rt v => .ok v m
    | _ => .no := by
  unfold runB
  rw [decide_eq_true h]
  all_goals rfl
/-! walks of values -/
def forD (f : Val → Slots → Mem → R Fl) : List Val → Slots → Mem → R Fl
  | [], s, m => .ok (.nx s) m
  | v :: vs, s, m => (f v s m).bind fun r m => match r with
    | .nx s' => forD f vs s' m
    | .ct s' => forD f vs s' m
    | .bk s' => .ok (.nx s') m
    | .rt v => .ok (.rt v) m
theorem forL_wkL (f : Wv → Slots → Mem → R Fl) : ∀ (vs : List Val) (s : Slots) (m : Mem), forL f (wkL vs).fin (wkL vs).rs s m = forD (fun v => f (.v v)) vs s m
  | [], s, m => rfl
  | v :: vs, s, m => by
    show (f (.v v) s m).bind _ = (f (.v v) s m).bind _
    congr 1
    funext r m'
    cases r <;> first | rfl | exact forL_wkL f vs _ m'
/-- a loop that goes through -/
theorem forD_inv {f : Val → Slots → Mem → R Fl} (I : Nat → Slots → Mem → Prop) : ∀ (vs : List Val) (j : Nat) (s : Slots) (m : Mem), (∀ i v s m, vs[i]? = some v → I (j + i) s m → ∃ s' m', f v s m = .ok (.nx s') m' ∧ I (j + i + 1) s' m') → I j s m →
    ∃ s' m', forD f vs s m = .ok (.nx s') m' ∧ I (j + vs.length) s' m'
  | [], j, s, m, _, h => ⟨s, m, rfl, h⟩
  | v :: vs, j, s, m, step, h => by
    obtain ⟨s1, m1, e1, h1⟩ := step 0 v s m rfl h
    obtain ⟨s2, m2, e2, h2⟩ := forD_inv I vs (j + 1) s1 m1 (fun i w s m hw hI => by
      have e : j + 1 + i = j + (i + 1) := by omega
      rw [e] at hI ⊢
      exact step (i + 1) w s m hw hI) h1
    refine ⟨s2, m2, ?_, ?_⟩
    · show (f v s m).bind _ = _
      rw [e1]
      exact e2
    · have e : j + (v :: vs).length = j + 1 + vs.length := by rw [List.length_cons]; omega
      rw [e]
      exact h2
/-- a loop whose state is a fold -/
theorem forD_fold {α : Type} {f : Val → Slots → Mem → R Fl} (S : α → Slots) (m : Mem) (g : α → Val → α) : ∀ (vs : List Val) (a : α), (∀ v ∈ vs, ∀ a, f v (S a) m = .ok (.nx (S (g a v))) m) → forD f vs (S a) m = .ok (.nx (S (vs.foldl g a))) m
  | [], a, _ => rfl
  | v :: vs, a, h => by
    show (f v (S a) m).bind _ = _
    rw [h v List.mem_cons_self a]
    exact forD_fold S m g vs (g a v) fun w hw => h w (List.mem_cons_of_mem _ hw)
def cmpD' (f : Val → Mem → R (Option Val)) : List Val → List Val → Mem → R (List Val)
  | [], acc, m => .ok acc m
  | v :: vs, acc, m => (f v m).bind fun o m => match o with
    | some y => if acc.length < LINE then cmpD' f vs (acc ++ [y]) m else .no
    | none => cmpD' f vs acc m
theorem compL_wkL (f : Wv → Mem → R (Option Val)) : ∀ (vs acc : List Val) (m : Mem), compL f (wkL vs).fin (wkL vs).rs acc m = cmpD' (fun v => f (.v v)) vs acc m
  | [], acc, m => rfl
  | v :: vs, acc, m => by
    show (f (.v v) m).bind _ = (f (.v v) m).bind _
    congr 1
    funext o m'
    cases o with
    | none => exact compL_wkL f vs acc m'
    | some y =>
      show (if acc.length < LINE then compL f (wkL vs).fin (wkL vs).rs (acc ++ [y]) m' else .no) = if acc.length < LINE then cmpD' _ vs (acc ++ [y]) m' else .no
      rw [compL_wkL f vs (acc ++ [y]) m']
/-- a comprehension that maps, nothing changed -/
theorem comp_map {f : Val → Mem → R (Option Val)} {m : Mem} (g : Val → Val) : ∀ (vs acc : List Val), (∀ v ∈ vs, f v m = .ok (some (g v)) m) → acc.length + vs.length ≤ LINE → cmpD' f vs acc m = .ok (acc ++ vs.map g) m
  | [], acc, _, _ => by simp [cmpD']
  | v :: vs, acc, h, hl => by
    show (f v m).bind _ = _
    rw [h v List.mem_cons_self]
    show (if acc.length < LINE then cmpD' f vs (acc ++ [g v]) m else .no) = _
    rw [if_pos (by rw [List.length_cons] at hl; omega), comp_map g vs (acc ++ [g v]) (fun w hw => h w (List.mem_cons_of_mem _ hw)) (by simp at hl ⊢; omega)]
    simp
/-- one that sieves and maps -/
theorem comp_sieve {f : Val → Mem → R (Option Val)} {m : Mem} (g : Val → Option Val) : ∀ (vs acc : List Val), (∀ v ∈ vs, f v m = .ok (g v) m) → acc.length + vs.length ≤ LINE → cmpD' f vs acc m = .ok (acc ++ vs.filterMap g) m
  | [], acc, _, _ => by simp [cmpD']
  | v :: vs, acc, h, hl => by
    show (f v m).bind _ = _
    rw [h v List.mem_cons_self]
    cases e : g v with
    | none =>
      show cmpD' f vs acc m = _
      rw [comp_sieve g vs acc (fun w hw => h w (List.mem_cons_of_mem _ hw)) (by simp at hl ⊢; omega)]
      simp [e]
    | some y =>
      show (if acc.length < LINE then cmpD' f vs (acc ++ [y]) m else .no) = _
      rw [if_pos (by rw [List.length_cons] at hl; omega), comp_sieve g vs (acc ++ [y]) (fun w hw => h w (List.mem_cons_of_mem _ hw)) (by simp at hl ⊢; omega)]
      simp [e]
/-- a comprehension with an invariant -/
theorem comp_inv {f : Val → Mem → R (Option Val)} (I : Nat → List Val → Mem → Prop) : ∀ (vs : List Val) (j : Nat) (acc : List Val) (m : Mem), (∀ i v acc m, vs[i]? = some v → I (j + i) acc m → ∃ y m', f v m = .ok (some y) m' ∧ acc.length < LINE ∧ I (j + i + 1) (acc ++ [y]) m') → I j acc m →
    ∃ acc' m', cmpD' f vs acc m = .ok acc' m' ∧ I (j + vs.length) acc' m'
  | [], j, acc, m, _, h => ⟨acc, m, rfl, h⟩
  | v :: vs, j, acc, m, step, h => by
    obtain ⟨y, m1, e1, hl, h1⟩ := step 0 v acc m rfl h
    obtain ⟨s2, m2, e2, h2⟩ := comp_inv I vs (j + 1) (acc ++ [y]) m1 (fun i w s m hw hI => by
      have e : j + 1 + i = j + (i + 1) := by omega
      rw [e] at hI ⊢
      exact step (i + 1) w s m hw hI) h1
    refine ⟨s2, m2, ?_, ?_⟩
    · show (f v m).bind _ = _
      rw [e1]
      show (if acc.length < LINE then cmpD' f vs (acc ++ [y]) m1 else .no) = _
      rw [if_pos hl]
      exact e2
    · have e : j + (v :: vs).length = j + 1 + vs.length := by rw [List.length_cons]; omega
      rw [e]
      exact h2
theorem datas_map (ds : List D) : datas (ds.map .d) = some ds := by
  induction ds with
  | nil => rfl
  | cons d ds ih => simp only [List.map_cons, datas, ih]
theorem datas_ints (ns : List Int) : datas (ns.map fun n => Val.d (.int n)) = some (ns.map .int) := by
  have := datas_map (ns.map .int)
  rw [List.map_map] at this
  exact this
theorem at_pos {α : Type} {xs : List α} {i : Int} (h0 : 0 ≤ i) (h1 : i < xs.length) : atL xs i = xs[i.toNat]? := by
  unfold atL ixOf
  rw [if_pos h0, if_pos h1]
  rfl
theorem at_ex {α : Type} {xs : List α} {i : Int} (h0 : 0 ≤ i) (h1 : i < xs.length) : ∃ x, atL xs i = some x ∧ x ∈ xs := by
  rw [at_pos h0 h1]
  have hi : i.toNat < xs.length := by omega
  exact ⟨xs[i.toNat], List.getElem?_eq_getElem hi, List.getElem_mem hi⟩

/-! the evaluator's own rules (so made that they are rewritten, not computed) -/
theorem nr {α : Type} {a b : α} (h : a = b) : a = b := h
section
variable {C : Cal} {s : Slots} {m : Mem} {z : Bool}
def getV (o : Option (Option Val)) (m : Mem) : R Val := match o with
  | some (some v) => .ok v m
  | _ => .no
theorem q_var {i : Nat} : evE C (.var i) s m = getV s[i]? m := nr rfl
theorem gv {v : Val} : getV (some (some v)) m = .ok v m := nr rfl
theorem q_con {d : D} : evE C (.con d) s m = .ok (.d d) m := nr rfl
theorem q_glo {g : Nat} : evE C (.glo g) s m = (R.opt (C.glo g) m).bind fun d m => .ok (.d d) m := nr rfl
theorem q_tup {es : Exs} : evE C (.tup es) s m = (evEs C es s m).bind fun vs m => (R.opt (datas vs) m).bind fun ds m => .ok (.d (.tup ds)) m := by
  show ((evEs C es s m).bind fun vs m => match datas vs with
    | some ds => R.ok (Val.d (.tup ds)) m
    | none => .no) = _
  congr 1
  funext vs m
  cases datas vs <;> rfl
theorem q_lst {es : Exs} : evE C (.lst z es) s m = (evEs C es s m).bind fun vs m => mkL z vs m := nr rfl
theorem q_bin {o : Bop} {a b : Ex} : evE C (.bin z o a b) s m = (evE C a s m).bind fun x m => (evE C b s m).bind fun y m => binV z o x y m := nr rfl
theorem neg_i {i : Int} : evE C (.neg (.con (.int i))) s m = .ok (.d (.int (-i))) m := nr rfl
theorem q_cmp {o : Cop} {a b : Ex} : evE C (.cmp o a b) s m = (evE C a s m).bind fun x m => (evE C b s m).bind fun y m => bV (cmpV o x y m) := nr rfl
theorem q_and {a b : Ex} : evE C (.and a b) s m = (evE C a s m).bind fun x m => match truth m x with
    | some true => evE C b s m
    | some false => .ok x m
    | none => .no := nr rfl
theorem q_or {a b : Ex} : evE C (.or a b) s m = (evE C a s m).bind fun x m => match truth m x with
    | some true => .ok x m
    | some false => evE C b s m
    | none => .no := nr rfl
theorem q_not {a : Ex} : evE C (.not a) s m = (evE C a s m).bind fun x m => match truth m x with
    | some k => .ok (.d (.bl (!k))) m
    | none => .no := nr rfl
theorem q_ite {c a b : Ex} : evE C (.ite c a b) s m = (evE C c s m).bind fun x m => match truth m x with
    | some true => evE C a s m
    | some false => evE C b s m
    | none => .no := nr rfl
theorem q_idx {a i : Ex} : evE C (.idx a i) s m = (evE C a s m).bind fun x m => (evE C i s m).bind fun y m => R.opt (idxK m x y) m := nr rfl
theorem q_dct {ps : Exs} : evE C (.dct ps) s m = (evEs C ps s m).bind fun vs m => (R.opt (mkDct vs) m).bind fun d m => .ok (.d (.dct d)) m := nr rfl
theorem ik_r {k : Nat} {i : Int} : idxK m (.r k) (.d (.int i)) = idxV m (.r k) i := nr rfl
theorem ik_s {x : List Nat} {i : Int} : idxK m (.d (.str x)) (.d (.int i)) = idxV m (.d (.str x)) i := nr rfl
theorem ik_l {x : List D} {i : Int} : idxK m (.d (.lst x)) (.d (.int i)) = idxV m (.d (.lst x)) i := nr rfl
theorem ik_t {x : List D} {i : Int} : idxK m (.d (.tup x)) (.d (.int i)) = idxV m (.d (.tup x)) i := nr rfl
theorem ik_ds {kvs : List (D × D)} {x : List Nat} : idxK m (.d (.dct kvs)) (.d (.str x)) = (getK kvs (.str x)).map .d := nr rfl
theorem c_ind {kvs : List (D × D)} {x : List Nat} : cmpV .isIn (.d (.str x)) (.d (.dct kvs)) m = .ok (kvs.any fun q => keq q.1 (.str x)) m := nr rfl
theorem q_slc {l h : Bool} {a lo hi : Ex} : evE C (.slc z l h a lo hi) s m = (evE C a s m).bind fun x m => (evE C lo s m).bind fun u m => (evE C hi s m).bind fun w m =>
    match partV l u, partV h w with
    | some l, some h => slcV z x l h m
    | _, _ => .no := nr rfl
theorem pv_t {i : Int} : partV true (.d (.int i)) = some (some i) := nr rfl
theorem pv_f {v : Val} : partV false v = some none := nr rfl
theorem q_rev {a : Ex} : evE C (.rev z a) s m = (evE C a s m).bind fun x m => revV z x m := nr rfl
theorem q_call {f : Nat} {es : Exs} : evE C (.call f es) s m = (evEs C es s m).bind fun vs m => C.call f vs m := nr rfl
theorem q_bi {b : Bi} {es : Exs} : evE C (.bi z b es) s m = (evEs C es s m).bind fun vs m => biV z b vs m := nr rfl
theorem q_mth {t : Mt} {o : Ex} {es : Exs} : evE C (.mth t o es) s m = (evE C o s m).bind fun x m => (evEs C es s m).bind fun vs m => mtV t x vs m := nr rfl
theorem q_isi {a : Ex} {ts : List Ty} : evE C (.isi a ts) s m = (evE C a s m).bind fun x m => (R.opt (kdOf m x) m).bind fun k m => .ok (.d (.bl (ts.any fun t => tyB t k))) m := nr rfl
/-- a turn of a comprehension -/
def turn (C : Cal) (own : List Nat) (tg : Tg) (c e : Ex) (s : Slots) (v : Wv) (m : Mem) : R (Option Val) := match asgW m tg v (wipeS s own) with
  | some s' => (evE C c s' m).bind fun k m => match truth m k with
    | some true => (evE C e s' m).bind fun y m => .ok (some y) m
    | some false => .ok none m
    | none => .no
  | none => .no
theorem q_cmpr {own : List Nat} {tg : Tg} {it : It} {c e : Ex} : evE C (.cmpr z own tg it c e) s m = (evIt C it s m).bind fun wk m => (compL (turn C own tg c e s) wk.fin wk.rs [] m).bind fun acc m => mkL z acc m := nr rfl
theorem turn_nm {own : List Nat} {i : Nat} {c e : Ex} {x : Val} : turn C own (.nm i) c e s (.v x) m = (evE C c ((wipeS s own).set i (some x)) m).bind fun k m => match truth m k with
    | some true => (evE C e ((wipeS s own).set i (some x)) m).bind fun y m => .ok (some y) m
    | some false => .ok none m
    | none => .no := nr rfl
theorem q_nil : evEs C .nil s m = .ok [] m := nr rfl
theorem q_cons {e : Ex} {es : Exs} : evEs C (.cons e es) s m = (evE C e s m).bind fun v m => (evEs C es s m).bind fun vs m => .ok (v :: vs) m := nr rfl
theorem y_ex {e : Ex} : evIt C (.ex e) s m = (evE C e s m).bind fun v m => exW v m := nr rfl
theorem y_rng {a b : Ex} : evIt C (.rng a b) s m = (evE C a s m).bind fun x m => (evE C b s m).bind fun y m => rngW x y m := nr rfl
theorem y_rng3 {a b c : Ex} : evIt C (.rng3 a b c) s m = (evE C a s m).bind fun x m => (evE C b s m).bind fun y m => (evE C c s m).bind fun z m => rng3W x y z m := nr rfl
theorem x_asg {t : Tg} {e : Ex} : exS C (.asg t e) s m = (evE C e s m).bind fun v m => (R.opt (asgT m t v s) m).bind fun s' m => .ok (.nx s') m := nr rfl
theorem x_set {o i e : Ex} : exS C (.set o i e) s m = (evE C e s m).bind fun v m => (evE C o s m).bind fun x m => (evE C i s m).bind fun y m => match y with
    | .d (.int k) => (setV x k v m).bind fun _ m => .ok (.nx s) m
    | _ => .no := nr rfl
theorem x_augS {i : Nat} {e : Ex} {x y : List Nat} (h : s[i]? = some (some (.d (.str x)))) (h2 : evE C e s m = .ok (.d (.str y)) m) (hl : x.length + y.length ≤ 16777216) : exS C (.aug i .add e) s m = .ok (.nx (s.set i (some (.d (.str (x ++ y)))))) m := by
  show (match s[i]? with
    | some (some x) => (evE C e s m).bind fun y m => match x, y with
      | .d (.int _), .d (.int _) => (binV true .add x y m).bind fun v m => R.ok (Fl.nx (s.set i (some v))) m
      | .d (.str _), .d (.str _) => (binV true .add x y m).bind fun v m => .ok (.nx (s.set i (some v))) m
      | _, _ => .no
    | _ => .no) = _
  rw [h]
  show (evE C e s m).bind _ = _
  rw [h2]
  show (if x.length + y.length ≤ LINE then R.ok (Val.d (.str (x ++ y))) m else .no).bind _ = _
  rw [show (if x.length + y.length ≤ LINE then R.ok (Val.d (.str (x ++ y))) m else .no) = R.ok (Val.d (.str (x ++ y))) m from if_pos hl]
  rfl
def augV (o : Bop) (i : Nat) (s : Slots) (x y : Val) (m : Mem) : R Fl := match x, y with
  | .d (.int _), .d (.int _) => (binV true o x y m).bind fun v m => .ok (.nx (s.set i (some v))) m
  | .d (.str _), .d (.str _) => (binV true o x y m).bind fun v m => .ok (.nx (s.set i (some v))) m
  | _, _ => .no
theorem x_aug {i : Nat} {o : Bop} {e : Ex} : exS C (.aug i o e) s m = (getV s[i]? m).bind fun x m => (evE C e s m).bind fun y m => augV o i s x y m := by
  show (match s[i]? with
    | some (some x) => (evE C e s m).bind fun y m => augV o i s x y m
    | _ => .no) = _
  cases s[i]? with
  | none => rfl
  | some v => cases v <;> rfl
theorem au_i {i : Nat} {o : Bop} {a b : Int} : augV o i s (.d (.int a)) (.d (.int b)) m = (binV true o (.d (.int a)) (.d (.int b)) m).bind fun v m => .ok (.nx (s.set i (some v))) m := nr rfl
theorem au_s {i : Nat} {o : Bop} {a b : List Nat} : augV o i s (.d (.str a)) (.d (.str b)) m = (binV true o (.d (.str a)) (.d (.str b)) m).bind fun v m => .ok (.nx (s.set i (some v))) m := nr rfl
theorem x_ex {e : Ex} : exS C (.ex e) s m = (evE C e s m).bind fun _ m => .ok (.nx s) m := nr rfl
theorem x_ret {e : Ex} : exS C (.ret e) s m = (evE C e s m).bind fun v m => .ok (.rt v) m := nr rfl
theorem x_iff {c : Ex} {a b : Sts} : exS C (.iff c a b) s m = (evE C c s m).bind fun x m => match truth m x with
    | some true => exSs C a s m
    | some false => exSs C b s m
    | none => .no := nr rfl
/-- a turn of a loop -/
def lturn (C : Cal) (t : Tg) (b : Sts) (v : Wv) (s : Slots) (m : Mem) : R Fl := (R.opt (asgW m t v s) m).bind fun s' m => exSs C b s' m
theorem lturn_nm {i : Nat} {b : Sts} {x : Val} : lturn C (.nm i) b (.v x) s m = exSs C b (s.set i (some x)) m := nr rfl
theorem lturn_tup {ts : Tgs} {b : Sts} {x : Val} : lturn C (.tup ts) b (.v x) s m = (R.opt (asgT m (.tup ts) x s) m).bind fun s' m => exSs C b s' m := nr rfl
theorem x_forr {t : Tg} {it : It} {b : Sts} : exS C (.forr t it b) s m = (evIt C it s m).bind fun wk m => forL (lturn C t b) wk.fin wk.rs s m := nr rfl
/-- a while loop's test and body -/
def wC (C : Cal) (c : Ex) (s : Slots) (m : Mem) : R Bool := (evE C c s m).bind fun x m => R.opt (truth m x) m
def wB (C : Cal) (b : Sts) (s : Slots) (m : Mem) : R Fl := exSs C b s m
theorem x_whil {c : Ex} {b : Sts} : exS C (.whil c b) s m = whiL (wC C c) (wB C b) C.wf s m := nr rfl
theorem x_par {is : List Nat} {es : Exs} : exS C (.par is es) s m = (evEs C es s m).bind fun vs m => (R.opt (parS is vs s) m).bind fun s' m => .ok (.nx s') m := nr rfl
theorem x_pass : exS C .pass s m = .ok (.nx s) m := nr rfl
theorem x_brk : exS C .brk s m = .ok (.bk s) m := nr rfl
theorem x_cnt : exS C .cnt s m = .ok (.ct s) m := nr rfl
theorem xs_nil : exSs C .nil s m = .ok (.nx s) m := nr rfl
/-- on with the statements -/
def nxt (C : Cal) (xs : Sts) (r : Fl) (m : Mem) : R Fl := match r with
  | .nx s' => exSs C xs s' m
  | r => .ok r m
theorem xs_cons {x : St} {xs : Sts} : exSs C (.cons x xs) s m = (exS C x s m).bind (nxt C xs) := nr rfl
theorem nxt_nx {xs : Sts} : nxt C xs (.nx s) m = exSs C xs s m := nr rfl
theorem nxt_rt {xs : Sts} {v : Val} : nxt C xs (.rt v) m = .ok (.rt v) m := nr rfl
theorem nxt_bk {xs : Sts} : nxt C xs (.bk s) m = .ok (.bk s) m := nr rfl
theorem nxt_ct {xs : Sts} : nxt C xs (.ct s) m = .ok (.ct s) m := nr rfl
theorem as_nm {i : Nat} {v : Val} : asgT m (.nm i) v s = some (s.set i (some v)) := nr rfl
theorem as_tup {ts : Tgs} {ds : List D} : asgT m (.tup ts) (.d (.tup ds)) s = asgTs m ts (ds.map .d) s := nr rfl
theorem as_tupl {ts : Tgs} {ds : List D} : asgT m (.tup ts) (.d (.lst ds)) s = asgTs m ts (ds.map .d) s := nr rfl
theorem as_nil : asgTs m .nil [] s = some s := nr rfl
theorem as_cons {t : Tg} {ts : Tgs} {v : Val} {vs : List Val} : asgTs m (.cons t ts) (v :: vs) s = (asgT m t v s).bind fun s' => asgTs m ts vs s' := by
  show (match asgT m t v s with
    | some s' => asgTs m ts vs s'
    | none => none) = _
  cases asgT m t v s <;> rfl
theorem wp_nil : wipeS s [] = s := nr rfl
theorem wp_cons {v : Nat} {vs : List Nat} : wipeS s (v :: vs) = (wipeS s vs).set v none := nr rfl
theorem pa_nil' : parS [] [] s = some s := nr rfl
theorem pa_cons' {i : Nat} {is : List Nat} {v : Val} {vs : List Val} : parS (i :: is) (v :: vs) s = parS is vs (s.set i (some v)) := nr rfl
end
/-- on with the walk -/
def fnx (f : Val → Slots → Mem → R Fl) (vs : List Val) (r : Fl) (m : Mem) : R Fl := match r with
  | .nx s' => forD f vs s' m
  | .ct s' => forD f vs s' m
  | .bk s' => .ok (.nx s') m
  | .rt v => .ok (.rt v) m
section
variable {f : Val → Slots → Mem → R Fl} {v : Val} {vs : List Val} {s : Slots} {m : Mem}
theorem fd_nil : forD f [] s m = .ok (.nx s) m := nr rfl
theorem fd_cons : forD f (v :: vs) s m = (f v s m).bind (fnx f vs) := nr rfl
theorem fx_nx : fnx f vs (.nx s) m = forD f vs s m := nr rfl
theorem fx_ct : fnx f vs (.ct s) m = forD f vs s m := nr rfl
theorem fx_bk : fnx f vs (.bk s) m = .ok (.nx s) m := nr rfl
theorem fx_rt : fnx f vs (.rt v) m = .ok (.rt v) m := nr rfl
theorem wh_t {c : Slots → Mem → R Bool} {f : Slots → Mem → R Fl} {n : Nat} {s' : Slots} {m' : Mem} (hc : c s m = .ok true m) (hf : f s m = .ok (.nx s') m') : whiL c f (n + 1) s m = whiL c f n s' m' := by
  show (c s m).bind _ = _
  rw [hc]
  show (f s m).bind _ = _
  rw [hf]
  rfl
theorem wh_f {c : Slots → Mem → R Bool} {f : Slots → Mem → R Fl} {n : Nat} (hc : c s m = .ok false m) : whiL c f (n + 1) s m = .ok (.nx s) m := by
  show (c s m).bind _ = _
  rw [hc]
  rfl
end
/-! rules with their conditions -/
section
variable {α β : Type} {a : α} {m : Mem} {f : α → Mem → R β} {i j : Int} {z : Bool} {x y t : List Nat} {C : Cal}
theorem r_ok : (R.ok a m).bind f = f a m := nr rfl
theorem r_opt : R.opt (some a) m = .ok a m := nr rfl
theorem b_add : binV z .add (.d (.int i)) (.d (.int j)) m = .ok (.d (.int (i + j))) m := nr rfl
theorem b_sub : binV z .sub (.d (.int i)) (.d (.int j)) m = .ok (.d (.int (i - j))) m := nr rfl
theorem b_mul (h : (-18446744073709551616 < i ∧ i < 18446744073709551616) ∨ (-18446744073709551616 < j ∧ j < 18446744073709551616)) : binV z .mul (.d (.int i)) (.d (.int j)) m = .ok (.d (.int (i * j))) m := by
  show (R.opt (binI .mul i j) m).bind _ = _
  rw [show binI .mul i j = some (.int (i * j)) from if_pos (by omega)]
  rfl
theorem b_div (h : 0 < j) (h2 : j < 18446744073709551616) : binV z .div (.d (.int i)) (.d (.int j)) m = .ok (.d (.int (i / j))) m := by
  show (R.opt (binI .div i j) m).bind _ = _
  rw [show binI .div i j = some (.int (i / j)) from if_pos (by omega)]
  rfl
theorem b_mod (h : 0 < j) : binV z .mod (.d (.int i)) (.d (.int j)) m = .ok (.d (.int (i % j))) m := by
  show (R.opt (binI .mod i j) m).bind _ = _
  rw [show binI .mod i j = some (.int (i % j)) from if_pos (by omega)]
  rfl
theorem b_pow (h : 0 ≤ j) (h2 : j ≤ 1000000) (h3 : -18446744073709551616 < i ∧ i < 18446744073709551616) : binV z .pow (.d (.int i)) (.d (.int j)) m = .ok (.d (.int (i ^ j.toNat))) m := by
  show (R.opt (binI .pow i j) m).bind _ = _
  rw [show binI .pow i j = some (.int (i ^ j.toNat)) from if_pos (by omega)]
  rfl
theorem b_adds (h : x.length + y.length ≤ 16777216) : binV z .add (.d (.str x)) (.d (.str y)) m = .ok (.d (.str (x ++ y))) m := by
  exact if_pos h
theorem b_addt {x y : List D} (h : x.length + y.length ≤ 16777216) : binV z .add (.d (.tup x)) (.d (.tup y)) m = .ok (.d (.tup (x ++ y))) m := by
  exact if_pos h
theorem b_addl {x y : List D} (h : x.length + y.length ≤ 16777216) : binV true .add (.d (.lst x)) (.d (.lst y)) m = .ok (.d (.lst (x ++ y))) m := by
  have h2 : (x.map Val.d).length + (y.map Val.d).length ≤ LINE := by rw [List.length_map, List.length_map]; exact h
  show (if (x.map Val.d).length + (y.map Val.d).length ≤ LINE then mkL true (x.map Val.d ++ y.map Val.d) m else .no) = _
  rw [if_pos h2, ← List.map_append]
  show (match datas ((x ++ y).map Val.d) with
    | some ds => R.ok (Val.d (.lst ds)) m
    | none => .no) = _
  rw [datas_map]
theorem c_lt : cmpV .lt (.d (.int i)) (.d (.int j)) m = .ok (decide (i < j)) m := nr rfl
theorem c_le : cmpV .le (.d (.int i)) (.d (.int j)) m = .ok (decide (i ≤ j)) m := nr rfl
theorem c_gt : cmpV .gt (.d (.int i)) (.d (.int j)) m = .ok (decide (j < i)) m := nr rfl
theorem c_ge : cmpV .ge (.d (.int i)) (.d (.int j)) m = .ok (decide (j ≤ i)) m := nr rfl
theorem c_eq : cmpV .eq (.d (.int i)) (.d (.int j)) m = .ok (decide (i = j)) m := nr rfl
theorem c_ne : cmpV .ne (.d (.int i)) (.d (.int j)) m = .ok (!decide (i = j)) m := nr rfl
theorem c_eqs : cmpV .eq (.d (.str x)) (.d (.str y)) m = .ok (x == y) m := nr rfl
theorem c_nes : cmpV .ne (.d (.str x)) (.d (.str y)) m = .ok (!(x == y)) m := nr rfl
theorem c_ins : cmpV .isIn (.d (.str x)) (.d (.str y)) m = .ok (findSub x y).isSome m := nr rfl
theorem c_nis : cmpV .notIn (.d (.str x)) (.d (.str y)) m = .ok (!(findSub x y).isSome) m := nr rfl
theorem v_b {b : Bool} : bV (.ok b m) = .ok (.d (.bl b)) m := nr rfl
theorem t_b {b : Bool} : truth m (.d (.bl b)) = some b := nr rfl
theorem t_i : truth m (.d (.int i)) = some (i != 0) := nr rfl
theorem l_s : biV z .len [.d (.str x)] m = .ok (.d (.int (x.length : Nat))) m := nr rfl
theorem l_l {x : List D} : biV z .len [.d (.lst x)] m = .ok (.d (.int (x.length : Nat))) m := nr rfl
theorem l_t {x : List D} : biV z .len [.d (.tup x)] m = .ok (.d (.int (x.length : Nat))) m := nr rfl
theorem l_r {k : Nat} {us : List Val} (h : m[k]? = some (.lst us)) : biV z .len [.r k] m = .ok (.d (.int (us.length : Nat))) m := by
  show (R.opt (match m[k]? with
    | some (.lst vs) => some vs.length
    | _ => none) m).bind _ = _
  rw [h]
  rfl
theorem i_r {k : Nat} {us : List Val} (h : m[k]? = some (.lst us)) : idxV m (.r k) i = atL us i := by
  unfold idxV
  simp only [h]
theorem i_s : idxV m (.d (.str x)) i = (atL x i).map fun c => .d (.str [c]) := nr rfl
theorem i_l {x : List D} : idxV m (.d (.lst x)) i = (atL x i).map .d := nr rfl
theorem i_t {x : List D} : idxV m (.d (.tup x)) i = (atL x i).map .d := nr rfl
theorem s_r {k : Nat} {us : List Val} {v : Val} (h : m[k]? = some (.lst us)) : setV (.r k) i v m = (R.opt (ixOf us.length i) m).bind fun q m => .ok () (m.set k (.lst (us.set q v))) := by
  unfold setV
  simp only [h]
theorem at_0 {xs : List α} : atL (a :: xs) 0 = some a := by
  unfold atL ixOf
  simp
theorem at_lit {xs : List α} {k : Nat} (h : k < xs.length) : atL xs (k : Int) = xs[k]? := by
  rw [at_pos (by omega) (by omega)]
  simp
theorem m_l {vs : List Val} {ds : List D} (h : datas vs = some ds) : mkL true vs m = .ok (.d (.lst ds)) m := by
  unfold mkL
  simp only [h]
theorem w_rng (h1 : -1099511627776 ≤ i) (h2 : i < 1099511627776) (h3 : -1099511627776 ≤ j) (h4 : j < 1099511627776) (h5 : j - i ≤ 16777216) : rngW (.d (.int i)) (.d (.int j)) m = .ok (wkL ((List.range (j - i).toNat).map fun (k : Nat) => .d (.int (i + (k : Int))))) m := if_pos ⟨h1, h2, h3, h4, h5⟩
theorem w_rng3 {c : Int} (h1 : -1099511627776 ≤ i) (h2 : i < 1099511627776) (h3 : -1099511627776 ≤ j) (h4 : j < 1099511627776) (h5 : c ≠ 0) (h6 : -1000000 < c) (h7 : c < 1000000) : rng3W (.d (.int i)) (.d (.int j)) (.d (.int c)) m = .ok (wkL ((List.range (rgN i j c)).map fun (k : Nat) => .d (.int (i + (k : Int) * c)))) m := if_pos ⟨h1, h2, h3, h4, by omega, by omega⟩
theorem w_str : exW (.d (.str x)) m = .ok (wkL (x.map fun c => .d (.str [c]))) m := nr rfl
theorem w_tup {x : List D} : exW (.d (.tup x)) m = .ok (wkL (x.map .d)) m := nr rfl
theorem w_lst {x : List D} : exW (.d (.lst x)) m = .ok (wkL (x.map .d)) m := nr rfl
theorem sl_s {lo hi : Option Int} : slcV z (.d (.str x)) lo hi m = .ok (.d (.str (cut x lo hi))) m := nr rfl
theorem sl_t {x : List D} {lo hi : Option Int} : slcV z (.d (.tup x)) lo hi m = .ok (.d (.tup (cut x lo hi))) m := nr rfl
theorem cut_map {f : α → β} {xs : List α} {lo hi : Option Int} : cut (xs.map f) lo hi = (cut xs lo hi).map f := by
  simp [cut, List.map_take, List.map_drop]
theorem sl_l {x : List D} {lo hi : Option Int} : slcV true (.d (.lst x)) lo hi m = .ok (.d (.lst (cut x lo hi))) m := by
  show mkL true (cut (x.map .d) lo hi) m = _
  rw [cut_map]
  show (match datas ((cut x lo hi).map Val.d) with
    | some ds => R.ok (Val.d (.lst ds)) m
    | none => .no) = _
  rw [datas_map]
theorem strs_map (ss : List (List Nat)) : strsD (ss.map fun s => Val.d (.str s)) = some ss := by
  induction ss with
  | nil => rfl
  | cons d ds ih =>
    show (strsD (ds.map fun s => Val.d (.str s))).map (d :: ·) = _
    rw [ih]
    rfl
theorem j_l {sep : List Nat} {ss : List (List Nat)} (h : (ss.map List.length).sum + ss.length * sep.length ≤ 16777216) : mtV .join (.d (.str sep)) [.d (.lst (ss.map .str))] m = .ok (.d (.str (joinL sep ss))) m := by
  show (R.opt (strsD ((ss.map D.str).map .d)) m).bind (fun ss m => if (ss.map List.length).sum + ss.length * sep.length ≤ LINE then R.ok (Val.d (.str (joinL sep ss))) m else .no) = _
  have e : (ss.map D.str).map Val.d = ss.map fun s => Val.d (.str s) := by rw [List.map_map]; rfl
  rw [e, strs_map]
  exact if_pos h
theorem z_f {s : List Nat} (h : 0 ≤ i) (h2 : i ≤ 1000) (h3 : s.length ≤ 1000) (h4 : ∀ c ∈ s, 48 ≤ c ∧ c ≤ 57) : mtV .zfill (.d (.str s)) [.d (.int i)] m = .ok (.d (.str (padZ s i.toNat))) m := if_pos ⟨⟨h, h2⟩, h3, h4⟩
theorem s_i (h : i.natAbs.log2 < 1920) : biV z .str [.d (.int i)] m = .ok (.d (.str (numText i))) m := if_pos h
theorem n_s (h : x ≠ []) (h2 : x.length ≤ 640) (h3 : ∀ c ∈ x, 48 ≤ c ∧ c ≤ 57) : biV z .int [.d (.str x)] m = .ok (.d (.int (digV x : Nat))) m := if_pos ⟨h, h2, h3⟩
theorem n_b {b : Bool} : biV z .int [.d (.bl b)] m = .ok (.d (.int (if b then 1 else 0))) m := nr rfl
theorem n_i : biV z .int [.d (.int i)] m = .ok (.d (.int i)) m := nr rfl
theorem tu_l {x : List D} : biV z .tuple [.d (.lst x)] m = .ok (.d (.tup x)) m := by
  show (match datas (x.map Val.d) with
    | some ds => R.ok (Val.d (.tup ds)) m
    | none => .no) = _
  rw [datas_map]
theorem k_s : kdOf m (.d (.str x)) = some .str := nr rfl
theorem k_i : kdOf m (.d (.int i)) = some .int := nr rfl
theorem k_b {b : Bool} : kdOf m (.d (.bl b)) = some .bool := nr rfl
theorem k_t {x : List D} : kdOf m (.d (.tup x)) = some .tuple := nr rfl
theorem log_ok {i : Int} (h : i.natAbs < 2 ^ 200) : i.natAbs.log2 < 1920 := by
  by_cases h0 : i.natAbs = 0
  · rw [h0]; decide
  · exact (Nat.log2_lt h0).mpr (Nat.lt_of_lt_of_le h (Nat.pow_le_pow_right (by decide) (by decide)))
theorem m_t {vs : List Val} : mkL true vs m = (R.opt (datas vs) m).bind fun ds m => .ok (.d (.lst ds)) m := by
  show (match datas vs with
    | some ds => R.ok (Val.d (.lst ds)) m
    | none => .no) = _
  cases datas vs <;> rfl
theorem m_r {vs : List Val} : mkL false vs m = .ok (.r m.length) (m ++ [.lst vs]) := nr rfl
theorem ints_map (ns : List Int) : intsD (ns.map fun n => Val.d (.int n)) = some ns := by
  induction ns with
  | nil => rfl
  | cons d ds ih =>
    show (intsD (ds.map fun n => Val.d (.int n))).map (d :: ·) = _
    rw [ih]
    rfl
theorem sm_l {ns : List Int} : biV z .sum [.d (.lst (ns.map .int))] m = .ok (.d (.int ns.sum)) m := by
  show (R.opt (intsD ((ns.map D.int).map .d)) m).bind (fun ns m => R.ok (Val.d (.int ns.sum)) m) = _
  have e : (ns.map D.int).map Val.d = ns.map fun n => Val.d (.int n) := by rw [List.map_map]; rfl
  rw [e, ints_map]
  rfl
theorem ap_r {k : Nat} {us : List Val} {x : Val} (h : m[k]? = some (.lst us)) (hl : us.length < 16777216) : mtV .append (.r k) [x] m = .ok (.d .non) (m.set k (.lst (us ++ [x]))) := by
  show (match m[k]? with
    | some (.lst us) => if us.length < LINE then R.ok (Val.d .non) (m.set k (.lst (us ++ [x]))) else .no
    | _ => .no) = _
  rw [h]
  exact if_pos hl
theorem pp_r {k j : Nat} {us : List Val} {x : Val} (h : m[k]? = some (.lst us)) (hj : us[j]? = some x) (hl : us.length < 16777216) : mtV .popAt (.r k) [.d (.int (j : Nat))] m = .ok x (m.set k (.lst (us.eraseIdx j))) := by
  have hlt : j < us.length := (List.getElem?_eq_some_iff.mp hj).1
  show (match m[k]? with
    | some (.lst us) => if ((j : Nat) : Int) < 2 ^ 62 ∧ -(2 ^ 62) < ((j : Nat) : Int) then (R.opt ((ixOf us.length ((j : Nat) : Int)).bind fun j => (us[j]?).map fun v => (j, v)) m).bind fun p m => R.ok p.2 (m.set k (.lst (us.eraseIdx p.1))) else .no
    | _ => .no) = _
  rw [h]
  have ix : ixOf us.length ((j : Nat) : Int) = some j := by
    unfold ixOf
    rw [if_pos (by omega), if_pos (by omega)]
    rfl
  show (if ((j : Nat) : Int) < 2 ^ 62 ∧ -(2 ^ 62) < ((j : Nat) : Int) then _ else R.no) = _
  rw [if_pos (by omega), ix]
  show (R.opt ((us[j]?).map fun v => (j, v)) m).bind _ = _
  rw [hj]
  rfl
theorem tu_r {k : Nat} {us : List Val} {ds : List D} (h : m[k]? = some (.lst us)) (hd : datas us = some ds) : biV z .tuple [.r k] m = .ok (.d (.tup ds)) m := by
  show (match lstOf m (.r k) with
    | some us => match datas us with
      | some ds => R.ok (Val.d (.tup ds)) m
      | none => .no
    | none => .no) = _
  have e : lstOf m (.r k) = some us := by
    show (match m[k]? with
      | some (.lst vs) => some vs
      | _ => none) = _
    rw [h]
  rw [e]
  show (match datas us with
      | some ds => R.ok (Val.d (.tup ds)) m
      | none => .no) = _
  rw [hd]
theorem mn_i : biV z .min2 [.d (.int i), .d (.int j)] m = .ok (.d (.int (if j < i then j else i))) m := nr rfl
theorem dt_n : datas [] = some [] := nr rfl
theorem dt_c {d : D} {vs : List Val} : datas (.d d :: vs) = (datas vs).map (d :: ·) := by
  show (match datas vs with
    | some xs => some (d :: xs)
    | none => none) = _
  cases datas vs <;> rfl
theorem o_some {f : α → β} : (some a).map f = some (f a) := nr rfl
theorem ob_some {f : α → Option β} : (some a).bind f = f a := nr rfl
end
/-! ### the deck: cells and a count -/
def dkr (c : List Int) (n : Int) (r : Mem) : Mem := .lst (c.map fun i => .d (.int i)) :: .lst [.r 0, .d (.int n)] :: r
/-- the deck alone -/
def dk (c : List Int) (n : Int) : Mem := dkr c n []
def deckB : Sts := (.cons (.ret (.lst false (.cons (.cmpr false [1] (.nm 1) (.ex (.slc true false true (.var 0) (.con .non) (.con (.int 63)))) (.con (.bl true)) (.bi true .abs (.cons (.var 1) .nil))) (.cons (.con (.int 0)) .nil)))) .nil)
def drawB : Sts := (.cons (.set (.var 0) (.con (.int 1)) (.bin true .add (.idx (.var 0) (.con (.int 1))) (.con (.int 1)))) (.cons (.asg (.nm 2) (.con (.int 0))) (.cons (.asg (.nm 3) (.neg (.con (.int 1)))) (.cons (.iff (.cmp .gt (.bi true .len (.cons (.idx (.var 0) (.con (.int 0))) .nil)) (.con (.int 0))) (.cons (.asg (.nm 3) (.bin true .mod (.idx (.var 0) (.con (.int 1))) (.bi true .len (.cons (.idx (.var 0) (.con (.int 0))) .nil)))) (.cons (.asg (.nm 2) (.idx (.idx (.var 0) (.con (.int 0))) (.var 3))) .nil)) .nil) (.cons (.iff (.cmp .ge (.var 2) (.bin true .pow (.con (.int 10)) (.con (.int 18)))) (.cons (.set (.idx (.var 0) (.con (.int 0))) (.var 3) (.bin true .div (.var 2) (.var 1))) (.cons (.ret (.bin true .mod (.var 2) (.var 1))) .nil)) .nil) (.cons (.ret (.bin true .mod (.bin true .mod (.bin true .pow (.bin true .add (.bin true .add (.bin true .mod (.var 2) (.con (.int 2147483587))) (.bin true .mul (.con (.int 7919)) (.idx (.var 0) (.con (.int 1))))) (.con (.int 1))) (.con (.int 5))) (.con (.int 2147483647))) (.var 1))) .nil))))))
theorem abs_ok (c : Int) : (if c < 0 then -c else c) = (c.natAbs : Int) := by split <;> omega
theorem sl_c {z : Bool} {ns : List Int} {lo hi : Option Int} {m : Mem} : slcV true (.d (.scr ns)) lo hi m = .ok (.d (.lst ((cut ns lo hi).map .int))) m := by
  show mkL true (cut (ns.map fun n => .d (.int n)) lo hi) m = _
  rw [cut_map]
  show (match datas ((cut ns lo hi).map fun n => Val.d (.int n)) with
    | some ds => R.ok (Val.d (.lst ds)) m
    | none => .no) = _
  rw [datas_ints]
theorem a_i {z : Bool} {i : Int} {m : Mem} : biV z .abs [.d (.int i)] m = .ok (.d (.int (if i < 0 then -i else i))) m := rfl
theorem deck_ok (C : Cal) (ns : List Int) : ∃ c, runB C ⟨1, 2, false, deckB⟩ [.d (.scr ns)] [] = .ok (.r 1) (dk c 0) := by
  refine ⟨(cut ns none (some 63)).map fun i => if i < 0 then -i else i, ?_⟩
  rw [runB_eq rfl]
  have hl : (cut ns none (some 63)).length ≤ 63 := by
    simp only [cut, cutAt, List.length_take]
    have : (if (63 : Int) < 0 then ((63 : Int) + (ns.length : Int)).toNat else min (63 : Int).toNat ns.length) - 0 ≤ 63 := by
      rw [if_neg (by decide)]
      have := Nat.min_le_left (63 : Int).toNat ns.length
      omega
    omega
  have hb : ((63 : Nat) ≤ LINE) := by decide
  simp only [deckB, xs_cons, xs_nil, nxt_nx, nxt_rt, nxt_bk, nxt_ct, x_asg, x_set, x_aug, au_i, au_s, x_ex, x_ret, x_iff, x_forr, x_whil, x_par, x_pass, x_brk, x_cnt, q_var, gv, q_con, q_glo, q_tup, q_lst, q_bin, neg_i, q_cmp, q_and, q_or, q_not, q_ite, q_idx, ik_r, ik_s, ik_l, ik_t, ik_ds, c_ind, q_dct, q_slc, pv_t, pv_f, q_rev, q_call, q_bi, q_mth, q_isi, q_cmpr, q_nil, q_cons, y_ex, y_rng, y_rng3, turn_nm, lturn_nm, lturn_tup, forL_wkL, fd_nil, fd_cons, fx_nx, fx_ct, fx_bk, fx_rt, as_nm, as_tup, as_tupl, as_nil, as_cons, wp_nil, wp_cons, pa_nil', pa_cons', List.map_cons, List.map_nil, List.replicate, List.cons_append, List.nil_append, Nat.reduceSub, Nat.reduceAdd, List.getElem?_cons_zero, List.getElem?_cons_succ, List.set_cons_zero, List.set_cons_succ, r_ok, r_opt, b_add, b_sub, b_mul, b_div, b_mod, b_adds, c_lt, c_le, c_gt, c_ge, c_eq, c_ne, c_eqs, c_nes, c_ins, c_nis, v_b, t_b, l_s, l_l, l_t, i_s, i_l, i_t, m_t, m_r, dt_n, dt_c, datas_map, o_some, ob_some, w_rng, w_rng3, w_str, w_tup, w_lst, sl_s, sl_t, sl_l, n_b, n_i, tu_l, mn_i, k_s, k_i, k_b, k_t, decide_true, decide_false, Bool.not_true, Bool.not_false, sl_c (z := true), a_i]
  rw [compL_wkL, comp_map (g := fun v => match v with
    | .d (.int i) => .d (.int (if i < 0 then -i else i))
    | v => v)]
  · simp only [xs_cons, xs_nil, nxt_nx, nxt_rt, nxt_bk, nxt_ct, x_asg, x_set, x_aug, au_i, au_s, x_ex, x_ret, x_iff, x_forr, x_whil, x_par, x_pass, x_brk, x_cnt, q_var, gv, q_con, q_glo, q_tup, q_lst, q_bin, neg_i, q_cmp, q_and, q_or, q_not, q_ite, q_idx, ik_r, ik_s, ik_l, ik_t, ik_ds, c_ind, q_dct, q_slc, pv_t, pv_f, q_rev, q_call, q_bi, q_mth, q_isi, q_cmpr, q_nil, q_cons, y_ex, y_rng, y_rng3, turn_nm, lturn_nm, lturn_tup, forL_wkL, fd_nil, fd_cons, fx_nx, fx_ct, fx_bk, fx_rt, as_nm, as_tup, as_tupl, as_nil, as_cons, wp_nil, wp_cons, pa_nil', pa_cons', List.map_cons, List.map_nil, List.replicate, List.cons_append, List.nil_append, Nat.reduceSub, Nat.reduceAdd, List.getElem?_cons_zero, List.getElem?_cons_succ, List.set_cons_zero, List.set_cons_succ, r_ok, r_opt, b_add, b_sub, b_mul, b_div, b_mod, b_adds, c_lt, c_le, c_gt, c_ge, c_eq, c_ne, c_eqs, c_nes, c_ins, c_nis, v_b, t_b, l_s, l_l, l_t, i_s, i_l, i_t, m_t, m_r, dt_n, dt_c, datas_map, o_some, ob_some, w_rng, w_rng3, w_str, w_tup, w_lst, sl_s, sl_t, sl_l, n_b, n_i, tu_l, mn_i, k_s, k_i, k_b, k_t, decide_true, decide_false, Bool.not_true, Bool.not_false, List.map_map, dk, dkr, List.length_nil, List.length_cons]
    rfl
  · intro v hv
    obtain ⟨d, hd, rfl⟩ := List.mem_map.mp hv
    obtain ⟨i, hi, rfl⟩ := List.mem_map.mp hd
    simp only [xs_cons, xs_nil, nxt_nx, nxt_rt, nxt_bk, nxt_ct, x_asg, x_set, x_aug, au_i, au_s, x_ex, x_ret, x_iff, x_forr, x_whil, x_par, x_pass, x_brk, x_cnt, q_var, gv, q_con, q_glo, q_tup, q_lst, q_bin, neg_i, q_cmp, q_and, q_or, q_not, q_ite, q_idx, ik_r, ik_s, ik_l, ik_t, ik_ds, c_ind, q_dct, q_slc, pv_t, pv_f, q_rev, q_call, q_bi, q_mth, q_isi, q_cmpr, q_nil, q_cons, y_ex, y_rng, y_rng3, turn_nm, lturn_nm, lturn_tup, forL_wkL, fd_nil, fd_cons, fx_nx, fx_ct, fx_bk, fx_rt, as_nm, as_tup, as_tupl, as_nil, as_cons, wp_nil, wp_cons, pa_nil', pa_cons', List.map_cons, List.map_nil, List.replicate, List.cons_append, List.nil_append, Nat.reduceSub, Nat.reduceAdd, List.getElem?_cons_zero, List.getElem?_cons_succ, List.set_cons_zero, List.set_cons_succ, r_ok, r_opt, b_add, b_sub, b_mul, b_div, b_mod, b_adds, c_lt, c_le, c_gt, c_ge, c_eq, c_ne, c_eqs, c_nes, c_ins, c_nis, v_b, t_b, l_s, l_l, l_t, i_s, i_l, i_t, m_t, m_r, dt_n, dt_c, datas_map, o_some, ob_some, w_rng, w_rng3, w_str, w_tup, w_lst, sl_s, sl_t, sl_l, n_b, n_i, tu_l, mn_i, k_s, k_i, k_b, k_t, decide_true, decide_false, Bool.not_true, Bool.not_false, a_i]
  · simp; omega
/-- what a draw of m comes to -/
def mixv (c n m : Int) : Int := (c % 2147483587 + 7919 * n + 1) ^ 5 % 2147483647 % m
def drawV (c : List Int) (n m : Int) : Int :=
  match c[(((n + 1) % (c.length : Int))).toNat]? with
  | some x => if x ≥ 10 ^ 18 then x % m else mixv x (n + 1) m
  | none => mixv 0 (n + 1) m
def drawC (c : List Int) (n m : Int) : List Int :=
  match c[(((n + 1) % (c.length : Int))).toNat]? with
  | some x => if x ≥ 10 ^ 18 then c.set ((n + 1) % (c.length : Int)).toNat (x / m) else c
  | none => c
theorem drawV_lt (c : List Int) (n : Int) {m : Int} (h : 0 < m) : 0 ≤ drawV c n m ∧ drawV c n m < m := by
  unfold drawV mixv
  split
  · split
    · exact ⟨Int.emod_nonneg _ (by omega), Int.emod_lt_of_pos _ h⟩
    · exact ⟨Int.emod_nonneg _ (by omega), Int.emod_lt_of_pos _ h⟩
  · exact ⟨Int.emod_nonneg _ (by omega), Int.emod_lt_of_pos _ h⟩
theorem pow_ok {x n : Int} (hn : 0 ≤ n ∧ n < 2 ^ 40) : (0 : Int) ≤ 5 ∧ (5 : Int) ≤ 1000000 ∧ (x % 2147483587 + 7919 * (n + 1) + 1).natAbs < 2 ^ 64 := by
  have h1 := Int.emod_nonneg x (show (2147483587 : Int) ≠ 0 by decide)
  have h2 := Int.emod_lt_of_pos x (show (0 : Int) < 2147483587 by decide)
  refine ⟨by decide, by decide, ?_⟩
  omega
section
variable {r : Mem}
theorem dk0 {c : List Int} {n : Int} : (dkr c n r)[0]? = some (.lst (c.map fun i => .d (.int i))) := rfl
theorem dk1 {c : List Int} {n : Int} : (dkr c n r)[1]? = some (.lst [.r 0, .d (.int n)]) := rfl
theorem dk_n {c : List Int} {n k : Int} : (dkr c n r).set 1 (.lst [.r 0, .d (.int k)]) = dkr c k r := rfl
theorem dk_c {c : List Int} {n k : Int} {q : Nat} : (dkr c n r).set 0 (.lst ((c.map fun i => Val.d (.int i)).set q (.d (.int k)))) = dkr (c.set q k) n r := by
  rw [show ((c.map fun i => Val.d (.int i)).set q (.d (.int k))) = (c.set q k).map fun i => Val.d (.int i) from List.map_set.symm]
  rfl
end
theorem draw_okR (C : Cal) (r : Mem) (c : List Int) {n m : Int} (hn : 0 ≤ n ∧ n < 2 ^ 40) (hm : 0 < m ∧ m < 4611686018427387904) : runB C ⟨2, 4, false, drawB⟩ [.r 1, .d (.int m)] (dkr c n r) = .ok (.d (.int (drawV c n m))) (dkr (drawC c n m) (n + 1) r) := by
  rw [runB_eq rfl]
  obtain ⟨m0, m1⟩ := hm
  have b1 := fun x : Int => Int.emod_nonneg x (show (2147483587 : Int) ≠ 0 by decide)
  have b2 := fun x : Int => Int.emod_lt_of_pos x (show (0 : Int) < 2147483587 by decide)
  have sl : ixOf [Val.r 0, Val.d (.int n)].length 1 = some 1 := rfl
  have a0 : ∀ {k : Int}, atL [Val.r 0, Val.d (.int k)] 0 = some (.r 0) := rfl
  have a1 : ∀ {k : Int}, atL [Val.r 0, Val.d (.int k)] 1 = some (.d (.int k)) := rfl
  have st : ∀ {k : Int}, [Val.r 0, Val.d (.int n)].set 1 (.d (.int k)) = [.r 0, .d (.int k)] := rfl
  have e18 : ((10 : Int) ^ (18 : Int).toNat) = 1000000000000000000 := rfl
  have e5 : (5 : Int).toNat = 5 := rfl
  have p18 : ∀ M, binV true .pow (.d (.int 10)) (.d (.int 18)) M = .ok (.d (.int 1000000000000000000)) M := fun M => b_pow (by decide) (by decide) (by decide)
  have p5 : ∀ x : Int, binV true .pow (.d (.int (x % 2147483587 + 7919 * (n + 1) + 1))) (.d (.int 5)) (dkr c (n + 1) r) = .ok (.d (.int ((x % 2147483587 + 7919 * (n + 1) + 1) ^ 5))) (dkr c (n + 1) r) := fun x => by
    have h1 := b1 x
    have h2 := b2 x
    exact b_pow (by decide) (by decide) (by omega)
  simp (disch := omega) only [drawB, xs_cons, xs_nil, nxt_nx, nxt_rt, nxt_bk, nxt_ct, x_asg, x_set, x_aug, au_i, au_s, x_ex, x_ret, x_iff, x_forr, x_whil, x_par, x_pass, x_brk, x_cnt, q_var, gv, q_con, q_glo, q_tup, q_lst, q_bin, neg_i, q_cmp, q_and, q_or, q_not, q_ite, q_idx, ik_r, ik_s, ik_l, ik_t, ik_ds, c_ind, q_dct, q_slc, pv_t, pv_f, q_rev, q_call, q_bi, q_mth, q_isi, q_cmpr, q_nil, q_cons, y_ex, y_rng, y_rng3, turn_nm, lturn_nm, lturn_tup, forL_wkL, fd_nil, fd_cons, fx_nx, fx_ct, fx_bk, fx_rt, as_nm, as_tup, as_tupl, as_nil, as_cons, wp_nil, wp_cons, pa_nil', pa_cons', List.map_cons, List.map_nil, List.replicate, List.cons_append, List.nil_append, Nat.reduceSub, Nat.reduceAdd, List.getElem?_cons_zero, List.getElem?_cons_succ, List.set_cons_zero, List.set_cons_succ, r_ok, r_opt, b_add, b_sub, b_mul, b_div, b_mod, b_adds, c_lt, c_le, c_gt, c_ge, c_eq, c_ne, c_eqs, c_nes, c_ins, c_nis, v_b, t_b, l_s, l_l, l_t, i_s, i_l, i_t, m_t, m_r, dt_n, dt_c, datas_map, o_some, ob_some, w_rng, w_rng3, w_str, w_tup, w_lst, sl_s, sl_t, sl_l, n_b, n_i, tu_l, mn_i, k_s, k_i, k_b, k_t, decide_true, decide_false, Bool.not_true, Bool.not_false, i_r dk1, a0, a1, s_r dk1, sl, st, dk_n, l_r dk0, List.length_map, p18]
  by_cases hz : c.length = 0
  · have hc : c[((n + 1) % (c.length : Int)).toNat]? = none := List.getElem?_eq_none (by omega)
    have z : decide ((0 : Int) < (c.length : Nat)) = false := decide_eq_false (by omega)
    have z2 : decide ((1000000000000000000 : Int) ≤ 0) = false := by decide
    simp (disch := omega) only [z, z2, xs_cons, xs_nil, nxt_nx, nxt_rt, nxt_bk, nxt_ct, x_asg, x_set, x_aug, au_i, au_s, x_ex, x_ret, x_iff, x_forr, x_whil, x_par, x_pass, x_brk, x_cnt, q_var, gv, q_con, q_glo, q_tup, q_lst, q_bin, neg_i, q_cmp, q_and, q_or, q_not, q_ite, q_idx, ik_r, ik_s, ik_l, ik_t, ik_ds, c_ind, q_dct, q_slc, pv_t, pv_f, q_rev, q_call, q_bi, q_mth, q_isi, q_cmpr, q_nil, q_cons, y_ex, y_rng, y_rng3, turn_nm, lturn_nm, lturn_tup, forL_wkL, fd_nil, fd_cons, fx_nx, fx_ct, fx_bk, fx_rt, as_nm, as_tup, as_tupl, as_nil, as_cons, wp_nil, wp_cons, pa_nil', pa_cons', List.map_cons, List.map_nil, List.replicate, List.cons_append, List.nil_append, Nat.reduceSub, Nat.reduceAdd, List.getElem?_cons_zero, List.getElem?_cons_succ, List.set_cons_zero, List.set_cons_succ, r_ok, r_opt, b_add, b_sub, b_mul, b_div, b_mod, b_adds, c_lt, c_le, c_gt, c_ge, c_eq, c_ne, c_eqs, c_nes, c_ins, c_nis, v_b, t_b, l_s, l_l, l_t, i_s, i_l, i_t, m_t, m_r, dt_n, dt_c, datas_map, o_some, ob_some, w_rng, w_rng3, w_str, w_tup, w_lst, sl_s, sl_t, sl_l, n_b, n_i, tu_l, mn_i, k_s, k_i, k_b, k_t, decide_true, decide_false, Bool.not_true, Bool.not_false, p5, e5, p18, i_r dk1, a1, drawV, drawC, hc, mixv]
  · have hl : 0 < (c.length : Int) := by omega
    have h1 := Int.emod_nonneg (n + 1) (show (c.length : Int) ≠ 0 by omega)
    have h2 := Int.emod_lt_of_pos (n + 1) hl
    have hi : ((n + 1) % (c.length : Int)).toNat < c.length := by omega
    obtain ⟨x, hx⟩ : ∃ x, c[((n + 1) % (c.length : Int)).toNat]? = some x := ⟨_, List.getElem?_eq_getElem hi⟩
    have z : decide ((0 : Int) < (c.length : Nat)) = true := decide_eq_true hl
    have ix : ixOf c.length ((n + 1) % (c.length : Int)) = some ((n + 1) % (c.length : Int)).toNat := by
      unfold ixOf
      rw [if_pos h1, if_pos h2]
    have ax : atL (c.map fun i => Val.d (.int i)) ((n + 1) % (c.length : Int)) = some (.d (.int x)) := by
      unfold atL
      rw [List.length_map, ix]
      simp [hx]
    by_cases hb : (1000000000000000000 : Int) ≤ x
    · have z2 : decide ((1000000000000000000 : Int) ≤ x) = true := decide_eq_true hb
      have hb' : x ≥ (10 : Int) ^ 18 := hb
      simp (disch := omega) only [z, z2, xs_cons, xs_nil, nxt_nx, nxt_rt, nxt_bk, nxt_ct, x_asg, x_set, x_aug, au_i, au_s, x_ex, x_ret, x_iff, x_forr, x_whil, x_par, x_pass, x_brk, x_cnt, q_var, gv, q_con, q_glo, q_tup, q_lst, q_bin, neg_i, q_cmp, q_and, q_or, q_not, q_ite, q_idx, ik_r, ik_s, ik_l, ik_t, ik_ds, c_ind, q_dct, q_slc, pv_t, pv_f, q_rev, q_call, q_bi, q_mth, q_isi, q_cmpr, q_nil, q_cons, y_ex, y_rng, y_rng3, turn_nm, lturn_nm, lturn_tup, forL_wkL, fd_nil, fd_cons, fx_nx, fx_ct, fx_bk, fx_rt, as_nm, as_tup, as_tupl, as_nil, as_cons, wp_nil, wp_cons, pa_nil', pa_cons', List.map_cons, List.map_nil, List.replicate, List.cons_append, List.nil_append, Nat.reduceSub, Nat.reduceAdd, List.getElem?_cons_zero, List.getElem?_cons_succ, List.set_cons_zero, List.set_cons_succ, r_ok, r_opt, b_add, b_sub, b_mul, b_div, b_mod, b_adds, c_lt, c_le, c_gt, c_ge, c_eq, c_ne, c_eqs, c_nes, c_ins, c_nis, v_b, t_b, l_s, l_l, l_t, i_s, i_l, i_t, m_t, m_r, dt_n, dt_c, datas_map, o_some, ob_some, w_rng, w_rng3, w_str, w_tup, w_lst, sl_s, sl_t, sl_l, n_b, n_i, tu_l, mn_i, k_s, k_i, k_b, k_t, decide_true, decide_false, Bool.not_true, Bool.not_false, p18, i_r dk1, i_r dk0, l_r dk0, List.length_map, a0, a1, ax, s_r dk0, ix, dk_c, drawV, drawC, hx, hb', if_true, if_pos]
    · have z2 : decide ((1000000000000000000 : Int) ≤ x) = false := decide_eq_false hb
      have hb' : ¬ x ≥ (10 : Int) ^ 18 := hb
      simp (disch := omega) only [z, z2, xs_cons, xs_nil, nxt_nx, nxt_rt, nxt_bk, nxt_ct, x_asg, x_set, x_aug, au_i, au_s, x_ex, x_ret, x_iff, x_forr, x_whil, x_par, x_pass, x_brk, x_cnt, q_var, gv, q_con, q_glo, q_tup, q_lst, q_bin, neg_i, q_cmp, q_and, q_or, q_not, q_ite, q_idx, ik_r, ik_s, ik_l, ik_t, ik_ds, c_ind, q_dct, q_slc, pv_t, pv_f, q_rev, q_call, q_bi, q_mth, q_isi, q_cmpr, q_nil, q_cons, y_ex, y_rng, y_rng3, turn_nm, lturn_nm, lturn_tup, forL_wkL, fd_nil, fd_cons, fx_nx, fx_ct, fx_bk, fx_rt, as_nm, as_tup, as_tupl, as_nil, as_cons, wp_nil, wp_cons, pa_nil', pa_cons', List.map_cons, List.map_nil, List.replicate, List.cons_append, List.nil_append, Nat.reduceSub, Nat.reduceAdd, List.getElem?_cons_zero, List.getElem?_cons_succ, List.set_cons_zero, List.set_cons_succ, r_ok, r_opt, b_add, b_sub, b_mul, b_div, b_mod, b_adds, c_lt, c_le, c_gt, c_ge, c_eq, c_ne, c_eqs, c_nes, c_ins, c_nis, v_b, t_b, l_s, l_l, l_t, i_s, i_l, i_t, m_t, m_r, dt_n, dt_c, datas_map, o_some, ob_some, w_rng, w_rng3, w_str, w_tup, w_lst, sl_s, sl_t, sl_l, n_b, n_i, tu_l, mn_i, k_s, k_i, k_b, k_t, decide_true, decide_false, Bool.not_true, Bool.not_false, p5, e5, p18, i_r dk1, i_r dk0, l_r dk0, List.length_map, a0, a1, ax, s_r dk0, ix, dk_c, drawV, drawC, hx, hb', if_false, mixv]
theorem draw_ok (C : Cal) (c : List Int) {n m : Int} (hn : 0 ≤ n ∧ n < 2 ^ 40) (hm : 0 < m ∧ m < 4611686018427387904) : runB C ⟨2, 4, false, drawB⟩ [.r 1, .d (.int m)] (dk c n) = .ok (.d (.int (drawV c n m))) (dk (drawC c n m) (n + 1)) := draw_okR C [] c hn hm
end Rf

namespace Rf
open PySem PySem.Spec PyProof.Rows L2
/-! ### figures -/
def nd (n : Nat) : List Nat := if h : n < 10 then [48 + n] else nd (n / 10) ++ [48 + n % 10]
termination_by n
decreasing_by omega
theorem nd_lt {n : Nat} (h : n < 10) : nd n = [48 + n] := by rw [nd, dif_pos h]
theorem nd_ge {n : Nat} (h : ¬ n < 10) : nd n = nd (n / 10) ++ [48 + n % 10] := by rw [nd, dif_neg h]
theorem digitChar_code : ∀ d : Nat, d < 10 → (Nat.digitChar d).toNat = 48 + d := by decide
theorem toDigits_nd (n : Nat) : (Nat.toDigits 10 n).map Char.toNat = nd n := by
  induction n using Nat.strongRecOn with
  | _ n ih =>
    by_cases h : n < 10
    · rw [Nat.toDigits_of_lt_base h, nd_lt h]
      simp [digitChar_code n h]
    · have hm : n % 10 < 10 := Nat.mod_lt n (by decide)
      have t : Nat.toDigits 10 (n / 10) ++ Nat.toDigits 10 (n % 10) = Nat.toDigits 10 (10 * (n / 10) + n % 10) := Nat.toDigits_append_toDigits (by decide) (by omega) hm
      have e : 10 * (n / 10) + n % 10 = n := by omega
      rw [e] at t
      rw [← t, List.map_append, ih (n / 10) (by omega), Nat.toDigits_of_lt_base hm, nd_ge h]
      simp [digitChar_code _ hm]
theorem numText_nd (n : Nat) : numText (n : Int) = nd n := by
  rw [← toDigits_nd]
  unfold numText
  have e : (toString (n : Int)) = toString n := rfl
  rw [e]
  simp [Nat.repr, toString]
theorem nd_ne (n : Nat) : nd n ≠ [] := by
  by_cases h : n < 10
  · rw [nd_lt h]; simp
  · rw [nd_ge h]; simp
theorem nd_dig (n : Nat) : ∀ c ∈ nd n, 48 ≤ c ∧ c ≤ 57 := by
  induction n using Nat.strongRecOn with
  | _ n ih =>
    by_cases h : n < 10
    · rw [nd_lt h]
      intro c hc
      have : c = 48 + n := by simpa using hc
      omega
    · rw [nd_ge h]
      intro c hc
      rcases List.mem_append.mp hc with hc | hc
      · exact ih (n / 10) (by omega) c hc
      · have : c = 48 + n % 10 := by simpa using hc
        omega
theorem nd_len (n k : Nat) (h : n < 10 ^ (k + 1)) : (nd n).length ≤ k + 1 := by
  induction k generalizing n with
  | zero => rw [nd_lt (by simpa using h)]; simp
  | succ k ih =>
    by_cases h2 : n < 10
    · rw [nd_lt h2]; simp
    · rw [nd_ge h2, List.length_append]
      have := ih (n / 10) (by rw [Nat.pow_succ] at h; omega)
      simp; omega
theorem dig_foldl (l : List Nat) (a : Nat) : l.foldl (fun n c => n * 10 + (c - 48)) a = a * 10 ^ l.length + digV l := by
  induction l generalizing a with
  | nil => simp [digV]
  | cons c l ih =>
    unfold digV
    rw [List.foldl_cons, List.foldl_cons, ih, ih (0 * 10 + (c - 48)), List.length_cons, Nat.pow_succ]
    simp only [Nat.zero_mul, Nat.zero_add, Nat.add_mul, Nat.mul_assoc, Nat.mul_comm 10]
    omega
theorem dig_app (x y : List Nat) : digV (x ++ y) = digV x * 10 ^ y.length + digV y := by
  show (x ++ y).foldl _ 0 = _
  rw [List.foldl_append, dig_foldl]
  rfl
theorem dig_nd (n : Nat) : digV (nd n) = n := by
  induction n using Nat.strongRecOn with
  | _ n ih =>
    by_cases h : n < 10
    · rw [nd_lt h]; simp [digV]
    · rw [nd_ge h, dig_app, ih (n / 10) (by omega)]
      simp [digV]
      omega
theorem str_nd {r : Nat} (h : r ≤ 10 ^ 12) (z : Bool) (M : Mem) : biV z .str [.d (.int (r : Nat))] M = .ok (.d (.str (nd r))) M := by
  rw [s_i, numText_nd]
  exact log_ok (by rw [Int.natAbs_natCast]; exact Nat.lt_of_le_of_lt h (by decide))
theorem pad1 {r : Nat} (h : r < 10) : padZ (nd r) 1 = [48 + r] := by
  rw [nd_lt h]; rfl
theorem pad2 {r : Nat} (h : r < 100) : padZ (nd r) 2 = [48 + r / 10, 48 + r % 10] := by
  by_cases h2 : r < 10
  · rw [nd_lt h2]
    have e1 : r / 10 = 0 := by omega
    have e2 : r % 10 = r := by omega
    rw [e1, e2]; rfl
  · rw [nd_ge h2, nd_lt (by omega)]; rfl
theorem find_one (c : Nat) : ∀ l : List Nat, (findSub [c] l).isSome = l.contains c
  | [] => rfl
  | d :: r => by
    have ih := find_one c r
    unfold findSub
    by_cases h : c = d
    · subst h
      simp [List.isPrefixOf]
    · have h2 : (c == d) = false := beq_eq_false_iff_ne.mpr h
      simp [List.isPrefixOf, h2, ih, h]
theorem dig_at {r : Nat} (h : r < 10) : atL [48, 49, 50, 51, 52, 53, 54, 55, 56, 57] ((r : Nat) : Int) = some (48 + r) := by
  have : r = 0 ∨ r = 1 ∨ r = 2 ∨ r = 3 ∨ r = 4 ∨ r = 5 ∨ r = 6 ∨ r = 7 ∨ r = 8 ∨ r = 9 := by omega
  rcases this with rfl | rfl | rfl | rfl | rfl | rfl | rfl | rfl | rfl | rfl <;> rfl
theorem md10 (L : Nat) : (L : Int) % 10 = ((L % 10 : Nat) : Int) := rfl
theorem dv10 (L : Nat) : (L : Int) / 10 = ((L / 10 : Nat) : Int) := rfl
theorem at_nat {α : Type} {xs : List α} {v : Nat} (h : v < xs.length) : ∃ x, atL xs ((v : Nat) : Int) = some x ∧ x ∈ xs := at_ex (by omega) (by omega)
end Rf

namespace Rf
/-! ### shapes of data -/
inductive Sh where
  | bot
  | con (d : D)
  | bl
  | int (lo hi : Int)
  | big
  | str (lo hi cs : Nat)
  | tup (ss : List Sh)
  | tups (lo hi : Nat) (s : Sh)
  | lst (ss : List Sh)
  | lsts (lo hi : Nat) (s : Sh)
  | nm (q : Nat)
  | or (a b : Sh)
/-- what named shapes stand for -/
abbrev PT := Nat → D → Prop
def inC (cs c : Nat) : Bool := decide (c < 128) && cs.testBit c
def maskOf : List Nat → Option Nat
  | [] => some 0
  | c :: r => if c < 128 then (maskOf r).map fun m => m ||| 2 ^ c else none
theorem inC_l {a b c : Nat} (h : inC a c = true) : inC (a ||| b) c = true := by
  simp only [inC, Bool.and_eq_true, Nat.testBit_or, Bool.or_eq_true] at h ⊢
  exact ⟨h.1, .inl h.2⟩
theorem inC_r {a b c : Nat} (h : inC b c = true) : inC (a ||| b) c = true := by
  simp only [inC, Bool.and_eq_true, Nat.testBit_or, Bool.or_eq_true] at h ⊢
  exact ⟨h.1, .inr h.2⟩
theorem maskOf_ok : ∀ {s : List Nat} {m : Nat}, maskOf s = some m → ∀ c ∈ s, inC m c = true
  | [], _, _, c, h => by cases h
  | x :: r, m, h, c, hc => by
    unfold maskOf at h
    split at h
    · rename_i hx
      obtain ⟨k, hk, rfl⟩ := Option.map_eq_some_iff.mp h
      rcases List.mem_cons.mp hc with rfl | hc
      · refine inC_r ?_
        simp [inC, hx, Nat.testBit_two_pow_self]
      · exact inC_l (maskOf_ok hk c hc)
    · cases h
mutual
def Sh.has (p : PT) : Sh → D → Prop
  | .bot, _ => False
  | .con e, d => d = e
  | .bl, d => ∃ b, d = .bl b
  | .int lo hi, d => ∃ i, d = .int i ∧ lo ≤ i ∧ i ≤ hi
  | .big, d => ∃ i, d = .int i
  | .str lo hi cs, d => ∃ s, d = .str s ∧ lo ≤ s.length ∧ s.length ≤ hi ∧ ∀ c ∈ s, inC cs c = true
  | .tup ss, d => ∃ ds, d = .tup ds ∧ Sh.hasL p ss ds
  | .tups lo hi s, d => ∃ ds, d = .tup ds ∧ lo ≤ ds.length ∧ ds.length ≤ hi ∧ ∀ x ∈ ds, Sh.has p s x
  | .lst ss, d => ∃ ds, d = .lst ds ∧ Sh.hasL p ss ds
  | .lsts lo hi s, d => ∃ ds, d = .lst ds ∧ lo ≤ ds.length ∧ ds.length ≤ hi ∧ ∀ x ∈ ds, Sh.has p s x
  | .nm q, d => p q d
  | .or a b, d => Sh.has p a d ∨ Sh.has p b d
def Sh.hasL (p : PT) : List Sh → List D → Prop
  | [], ds => ds = []
  | s :: ss, ds => ∃ x r, ds = x :: r ∧ Sh.has p s x ∧ Sh.hasL p ss r
end
mutual
def D.same : D → D → Bool
  | .non, .non => true
  | .bl a, .bl b => a == b
  | .int a, .int b => decide (a = b)
  | .str a, .str b => a == b
  | .tup xs, .tup ys => D.sames xs ys
  | .lst xs, .lst ys => D.sames xs ys
  | _, _ => false
def D.sames : List D → List D → Bool
  | [], [] => true
  | x :: xs, y :: ys => D.same x y && D.sames xs ys
  | _, _ => false
end
mutual
theorem same_ok : ∀ {a b : D}, D.same a b = true → a = b
  | .non, b, h => by cases b <;> first | rfl | (simp [D.same] at h; done)
  | .bl x, b, h => by
    cases b <;> first | (simp [D.same] at h; done) | skip
    simp only [D.same, beq_iff_eq] at h
    rw [h]
  | .int x, b, h => by
    cases b <;> first | (simp [D.same] at h; done) | skip
    simp only [D.same, decide_eq_true_eq] at h
    rw [h]
  | .str x, b, h => by
    cases b <;> first | (simp [D.same] at h; done) | skip
    simp only [D.same, beq_iff_eq] at h
    rw [h]
  | .tup x, b, h => by
    cases b <;> first | (simp [D.same] at h; done) | skip
    simp only [D.same] at h
    rw [sames_ok h]
  | .lst x, b, h => by
    cases b <;> first | (simp [D.same] at h; done) | skip
    simp only [D.same] at h
    rw [sames_ok h]
  | .dct _, b, h => by cases b <;> simp [D.same] at h
  | .set _, b, h => by cases b <;> simp [D.same] at h
  | .scr _, b, h => by cases b <;> simp [D.same] at h
  | .fn _, b, h => by cases b <;> simp [D.same] at h
  | .obj _ _, b, h => by cases b <;> simp [D.same] at h
theorem sames_ok : ∀ {a b : List D}, D.sames a b = true → a = b
  | [], [], _ => rfl
  | [], _ :: _, h => by simp [D.sames] at h
  | _ :: _, [], h => by simp [D.sames] at h
  | x :: xs, y :: ys, h => by
    simp only [D.sames, Bool.and_eq_true] at h
    rw [same_ok h.1, sames_ok h.2]
end
section
variable {p : PT}
theorem hasL_con : ∀ (ds : List D), Sh.hasL p (ds.map .con) ds
  | [] => by simp [Sh.hasL]
  | d :: ds => by
    show Sh.hasL p (.con d :: ds.map .con) (d :: ds)
    unfold Sh.hasL
    exact ⟨d, ds, rfl, by unfold Sh.has; rfl, hasL_con ds⟩
theorem hasL_len : ∀ {ss : List Sh} {ds : List D}, Sh.hasL p ss ds → ds.length = ss.length
  | [], ds, h => by unfold Sh.hasL at h; subst h; rfl
  | s :: ss, ds, h => by
    unfold Sh.hasL at h
    obtain ⟨x, r, rfl, _, h⟩ := h
    rw [List.length_cons, List.length_cons, hasL_len h]
theorem hasL_mem : ∀ {ss : List Sh} {ds : List D}, Sh.hasL p ss ds → ∀ x ∈ ds, ∃ s ∈ ss, s.has p x
  | [], ds, h, x, hx => by unfold Sh.hasL at h; rw [h] at hx; cases hx
  | s :: ss, ds, h, x, hx => by
    unfold Sh.hasL at h
    obtain ⟨y, r, rfl, hy, h⟩ := h
    rcases List.mem_cons.mp hx with rfl | hx
    · exact ⟨s, List.mem_cons_self, hy⟩
    · obtain ⟨t, ht, h2⟩ := hasL_mem h x hx
      exact ⟨t, List.mem_cons_of_mem _ ht, h2⟩
theorem hasL_app : ∀ {ss tt : List Sh} {ds es : List D}, Sh.hasL p ss ds → Sh.hasL p tt es → Sh.hasL p (ss ++ tt) (ds ++ es)
  | [], tt, ds, es, h, g => by unfold Sh.hasL at h; rw [h]; exact g
  | s :: ss, tt, ds, es, h, g => by
    unfold Sh.hasL at h
    obtain ⟨y, r, rfl, hy, h⟩ := h
    show Sh.hasL p (s :: (ss ++ tt)) (y :: (r ++ es))
    unfold Sh.hasL
    exact ⟨y, r ++ es, rfl, hy, hasL_app h g⟩
theorem hasL_get : ∀ {ss : List Sh} {ds : List D} {i : Nat} {s : Sh}, Sh.hasL p ss ds → ss[i]? = some s → ∃ d, ds[i]? = some d ∧ s.has p d
  | [], ds, i, s, h, g => by simp at g
  | t :: ss, ds, 0, s, h, g => by
    unfold Sh.hasL at h
    obtain ⟨y, r, rfl, hy, h⟩ := h
    simp at g
    subst g
    exact ⟨y, rfl, hy⟩
  | t :: ss, ds, i + 1, s, h, g => by
    unfold Sh.hasL at h
    obtain ⟨y, r, rfl, hy, h⟩ := h
    simpa using hasL_get (i := i) h (by simpa using g)
theorem hasL_drop : ∀ {ss : List Sh} {ds : List D} (n : Nat), Sh.hasL p ss ds → Sh.hasL p (ss.drop n) (ds.drop n)
  | ss, ds, 0, h => h
  | [], ds, n + 1, h => by unfold Sh.hasL at h; subst h; simp [Sh.hasL]
  | s :: ss, ds, n + 1, h => by
    unfold Sh.hasL at h
    obtain ⟨y, r, rfl, hy, h⟩ := h
    exact hasL_drop n h
theorem hasL_take : ∀ {ss : List Sh} {ds : List D} (n : Nat), Sh.hasL p ss ds → Sh.hasL p (ss.take n) (ds.take n)
  | ss, ds, 0, h => by simp [Sh.hasL]
  | [], ds, n + 1, h => by unfold Sh.hasL at h; subst h; simp [Sh.hasL]
  | s :: ss, ds, n + 1, h => by
    unfold Sh.hasL at h
    obtain ⟨y, r, rfl, hy, h⟩ := h
    show Sh.hasL p (s :: ss.take n) (y :: r.take n)
    unfold Sh.hasL
    exact ⟨y, _, rfl, hy, hasL_take n h⟩
theorem hasL_rev : ∀ {ss : List Sh} {ds : List D}, Sh.hasL p ss ds → Sh.hasL p ss.reverse ds.reverse
  | [], ds, h => by unfold Sh.hasL at h; subst h; simp [Sh.hasL]
  | s :: ss, ds, h => by
    unfold Sh.hasL at h
    obtain ⟨y, r, rfl, hy, h⟩ := h
    rw [List.reverse_cons, List.reverse_cons]
    refine hasL_app (hasL_rev h) ?_
    unfold Sh.hasL
    exact ⟨y, [], rfl, hy, by simp [Sh.hasL]⟩

/-- a constant, opened -/
def Sh.opn : Sh → Sh
  | .con (.int i) => .int i i
  | .con (.bl _) => .bl
  | .con (.str s) => match maskOf s with
    | some m => .str s.length s.length m
    | none => .con (.str s)
  | .con (.tup ds) => .tup (ds.map .con)
  | .con (.lst ds) => .lst (ds.map .con)
  | s => s
theorem opn_has {s : Sh} {d : D} (h : s.has p d) : s.opn.has p d := by
  unfold Sh.opn
  split
  · unfold Sh.has at h ⊢; exact ⟨_, h, Int.le_refl _, Int.le_refl _⟩
  · unfold Sh.has at h ⊢; exact ⟨_, h⟩
  · rename_i s
    split
    · rename_i m hm
      unfold Sh.has at h ⊢
      exact ⟨s, h, Nat.le_refl _, Nat.le_refl _, maskOf_ok hm⟩
    · exact h
  · unfold Sh.has at h ⊢; exact ⟨_, h, hasL_con _⟩
  · unfold Sh.has at h ⊢; exact ⟨_, h, hasL_con _⟩
  · exact h
def leL (le : Sh → Sh → Bool) : List Sh → List Sh → Bool
  | [], [] => true
  | x :: xs, y :: ys => le x y && leL le xs ys
  | _, _ => false
/-- below one another, neither an or, the first no constant -/
def leA (le : Sh → Sh → Bool) (a b : Sh) : Bool :=
  match a with
  | .bot => true
  | .bl => match b with
    | .bl => true
    | _ => false
  | .int x y => match b with
    | .int u v => decide (u ≤ x) && decide (y ≤ v)
    | .big => true
    | _ => false
  | .big => match b with
    | .big => true
    | _ => false
  | .str x y c => match b with
    | .str u v e => decide (u ≤ x) && decide (y ≤ v) && (c ||| e) == e
    | _ => false
  | .tup xs => match b with
    | .tup ys => leL le xs ys
    | .tups u v t => decide (u ≤ xs.length) && decide (xs.length ≤ v) && xs.all fun x => le x t
    | _ => false
  | .tups x y s => match b with
    | .tups u v t => decide (u ≤ x) && decide (y ≤ v) && (le s t || y == 0)
    | _ => false
  | .lst xs => match b with
    | .lst ys => leL le xs ys
    | .lsts u v t => decide (u ≤ xs.length) && decide (xs.length ≤ v) && xs.all fun x => le x t
    | _ => false
  | .lsts x y s => match b with
    | .lsts u v t => decide (u ≤ x) && decide (y ≤ v) && (le s t || y == 0)
    | _ => false
  | .nm q => match b with
    | .nm r => q == r
    | _ => false
  | _ => false
def Sh.le : Nat → Sh → Sh → Bool
  | 0, _, _ => false
  | n + 1, a, b => match a with
    | .or x y => Sh.le n x b && Sh.le n y b
    | a => match b with
      | .or x y => Sh.le n a x || Sh.le n a y
      | .con e => match a with
        | .con d => D.same d e
        | .bot => true
        | _ => false
      | b => leA (Sh.le n) a.opn b
theorem leL_ok {le : Sh → Sh → Bool} (hl : ∀ {a b d}, le a b = true → Sh.has p a d → Sh.has p b d) : ∀ {xs ys : List Sh} {ds : List D}, leL le xs ys = true → Sh.hasL p xs ds → Sh.hasL p ys ds
  | [], [], ds, _, h => h
  | [], _ :: _, ds, h, _ => by simp [leL] at h
  | _ :: _, [], ds, h, _ => by simp [leL] at h
  | x :: xs, y :: ys, ds, h, g => by
    simp only [leL, Bool.and_eq_true] at h
    unfold Sh.hasL at g ⊢
    obtain ⟨d, r, rfl, h1, h2⟩ := g
    exact ⟨d, r, rfl, hl h.1 h1, leL_ok hl h.2 h2⟩
theorem leA_ok {le : Sh → Sh → Bool} (hl : ∀ {a b d}, le a b = true → Sh.has p a d → Sh.has p b d) {a b : Sh} {d : D} (h : leA le a b = true) (g : a.has p d) : b.has p d := by
  have sub : ∀ {c e x : Nat}, ((c ||| e) == e) = true → inC c x = true → inC e x = true := fun {c e x} h1 h2 => by
    have := inC_l (b := e) h2
    rw [beq_iff_eq.mp h1] at this
    exact this
  have all : ∀ {xs : List Sh} {t : Sh} {ds : List D}, (xs.all fun x => le x t) = true → Sh.hasL p xs ds → ∀ x ∈ ds, t.has p x := fun {xs t ds} h1 h2 x hx => by
    obtain ⟨s, hs, h3⟩ := hasL_mem h2 x hx
    exact hl (List.all_eq_true.mp h1 s hs) h3
  have hom : ∀ {s t : Sh} {y : Nat} {ds : List D}, (le s t || y == 0) = true → ds.length ≤ y → (∀ x ∈ ds, s.has p x) → ∀ x ∈ ds, t.has p x := fun {s t y ds} h1 h2 h3 x hx => by
    rcases Bool.or_eq_true _ _ ▸ h1 with h1 | h1
    · exact hl h1 (h3 x hx)
    · have := beq_iff_eq.mp h1
      have : 0 < ds.length := List.length_pos_of_mem hx
      omega
  unfold leA at h
  split at h
  · unfold Sh.has at g; exact g.elim
  · split at h
    · exact g
    · cases h
  · split at h
    · simp only [Bool.and_eq_true, decide_eq_true_eq] at h
      unfold Sh.has at g ⊢
      obtain ⟨i, rfl, h1, h2⟩ := g
      exact ⟨i, rfl, by omega, by omega⟩
    · unfold Sh.has at g ⊢
      obtain ⟨i, rfl, h1, h2⟩ := g
      exact ⟨i, rfl⟩
    · cases h
  · split at h
    · exact g
    · cases h
  · split at h
    · simp only [Bool.and_eq_true, decide_eq_true_eq] at h
      unfold Sh.has at g ⊢
      obtain ⟨s, rfl, h1, h2, h3⟩ := g
      exact ⟨s, rfl, by omega, by omega, fun c hc => sub h.2 (h3 c hc)⟩
    · cases h
  · split at h
    · unfold Sh.has at g ⊢
      obtain ⟨ds, rfl, h1⟩ := g
      exact ⟨ds, rfl, leL_ok hl h h1⟩
    · simp only [Bool.and_eq_true, decide_eq_true_eq] at h
      unfold Sh.has at g ⊢
      obtain ⟨ds, rfl, h1⟩ := g
      have := hasL_len h1
      exact ⟨ds, rfl, by omega, by omega, all h.2 h1⟩
    · cases h
  · split at h
    · simp only [Bool.and_eq_true, decide_eq_true_eq] at h
      unfold Sh.has at g ⊢
      obtain ⟨ds, rfl, h1, h2, h3⟩ := g
      exact ⟨ds, rfl, by omega, by omega, hom h.2 h2 h3⟩
    · cases h
  · split at h
    · unfold Sh.has at g ⊢
      obtain ⟨ds, rfl, h1⟩ := g
      exact ⟨ds, rfl, leL_ok hl h h1⟩
    · simp only [Bool.and_eq_true, decide_eq_true_eq] at h
      unfold Sh.has at g ⊢
      obtain ⟨ds, rfl, h1⟩ := g
      have := hasL_len h1
      exact ⟨ds, rfl, by omega, by omega, all h.2 h1⟩
    · cases h
  · split at h
    · simp only [Bool.and_eq_true, decide_eq_true_eq] at h
      unfold Sh.has at g ⊢
      obtain ⟨ds, rfl, h1, h2, h3⟩ := g
      exact ⟨ds, rfl, by omega, by omega, hom h.2 h2 h3⟩
    · cases h
  · split at h
    · rw [← beq_iff_eq.mp h]
      exact g
    · cases h
  · cases h
theorem le_ok : ∀ {n : Nat} {a b : Sh} {d : D}, Sh.le n a b = true → a.has p d → b.has p d
  | 0, _, _, _, h, _ => by cases h
  | n + 1, a, b, d, h, g => by
    unfold Sh.le at h
    split at h
    · rw [Bool.and_eq_true] at h
      unfold Sh.has at g
      exact g.elim (le_ok h.1) (le_ok h.2)
    · split at h
      · show Sh.has p (.or _ _) d
        unfold Sh.has
        rcases Bool.or_eq_true _ _ ▸ h with h | h
        · exact .inl (le_ok h g)
        · exact .inr (le_ok h g)
      · split at h
        · rw [← same_ok h]; exact g
        · unfold Sh.has at g; exact g.elim
        · cases h
      · exact leA_ok (fun h g => le_ok h g) h (opn_has g)

/-! ### joins -/
def Sh.alts : Sh → List Sh
  | .bot => []
  | .or a b => a.alts ++ b.alts
  | s => [s]
def Sh.ofAlts : List Sh → Sh
  | [] => .bot
  | a :: r => match r with
    | [] => a
    | _ => .or a (Sh.ofAlts r)
def hasAny (p : PT) (l : List Sh) (d : D) : Prop := ∃ s ∈ l, s.has p d
theorem alts_ok : ∀ {s : Sh} {d : D}, s.has p d → hasAny p s.alts d
  | .bot, d, h => by unfold Sh.has at h; exact h.elim
  | .or a b, d, h => by
    unfold Sh.has at h
    rcases h with h | h
    · obtain ⟨s, h1, h2⟩ := alts_ok h
      exact ⟨s, List.mem_append_left _ h1, h2⟩
    · obtain ⟨s, h1, h2⟩ := alts_ok h
      exact ⟨s, List.mem_append_right _ h1, h2⟩
  | .con _, d, h => ⟨_, List.mem_singleton_self _, h⟩
  | .bl, d, h => ⟨_, List.mem_singleton_self _, h⟩
  | .int _ _, d, h => ⟨_, List.mem_singleton_self _, h⟩
  | .big, d, h => ⟨_, List.mem_singleton_self _, h⟩
  | .str _ _ _, d, h => ⟨_, List.mem_singleton_self _, h⟩
  | .tup _, d, h => ⟨_, List.mem_singleton_self _, h⟩
  | .tups _ _ _, d, h => ⟨_, List.mem_singleton_self _, h⟩
  | .lst _, d, h => ⟨_, List.mem_singleton_self _, h⟩
  | .lsts _ _ _, d, h => ⟨_, List.mem_singleton_self _, h⟩
  | .nm _, d, h => ⟨_, List.mem_singleton_self _, h⟩
theorem ofAlts_ok : ∀ {l : List Sh} {d : D}, hasAny p l d → (Sh.ofAlts l).has p d
  | [], d, ⟨s, h, _⟩ => by cases h
  | a :: r, d, ⟨s, h, g⟩ => by
    unfold Sh.ofAlts
    split
    · have : s = a := by simpa using h
      rw [← this]; exact g
    · unfold Sh.has
      rcases List.mem_cons.mp h with rfl | h
      · exact .inl g
      · exact .inr (ofAlts_ok ⟨s, h, g⟩)
def LF : Nat := 60
def mergeW (j : Sh → Sh → Sh) (x y : Sh) : Option Sh :=
  if Sh.le LF x y then some y else if Sh.le LF y x then some x else
  match x with
  | .int a b => match y with
    | .int c d => some (.int (min a c) (max b d))
    | _ => none
  | .con (.bl _) => match y with
    | .con (.bl _) => some .bl
    | _ => none
  | .con (.str s) => match y with
    | .str d e f => match maskOf s with
      | some m => some (.str (min s.length d) (max s.length e) (m ||| f))
      | none => none
    | _ => none
  | .str a b c => match y with
    | .str d e f => some (.str (min a d) (max b e) (c ||| f))
    | .con (.str s) => match maskOf s with
      | some m => some (.str (min a s.length) (max b s.length) (c ||| m))
      | none => none
    | _ => none
  | .tups a b s => match y with
    | .tups c d t => some (.tups (min a c) (max b d) (j s t))
    | .tup ys => some (.tups (min a ys.length) (max b ys.length) (ys.foldl j s))
    | _ => none
  | .tup xs => match y with
    | .tups c d t => some (.tups (min c xs.length) (max d xs.length) (xs.foldl j t))
    | _ => none
  | .lsts a b s => match y with
    | .lsts c d t => some (.lsts (min a c) (max b d) (j s t))
    | .lst ys => some (.lsts (min a ys.length) (max b ys.length) (ys.foldl j s))
    | _ => none
  | .lst xs => match y with
    | .lsts c d t => some (.lsts (min c xs.length) (max d xs.length) (xs.foldl j t))
    | _ => none
  | _ => none
theorem foldl_ok {j : Sh → Sh → Sh} (hj : ∀ {a b d}, (Sh.has p a d ∨ Sh.has p b d) → (j a b).has p d) : ∀ (l : List Sh) (s : Sh) {d : D}, (s.has p d ∨ hasAny p l d) → (l.foldl j s).has p d
  | [], s, d, h => by
    rcases h with h | ⟨t, h, _⟩
    · exact h
    · cases h
  | a :: l, s, d, h => by
    rw [List.foldl_cons]
    refine foldl_ok hj l (j s a) ?_
    rcases h with h | ⟨t, h, g⟩
    · exact .inl (hj (.inl h))
    · rcases List.mem_cons.mp h with rfl | h
      · exact .inl (hj (.inr g))
      · exact .inr ⟨t, h, g⟩
theorem mergeW_ok {j : Sh → Sh → Sh} (hj : ∀ {a b d}, (Sh.has p a d ∨ Sh.has p b d) → (j a b).has p d) {x y z : Sh} {d : D} (h : mergeW j x y = some z) (g : x.has p d ∨ y.has p d) : z.has p d := by
  have strc : ∀ {a b a' b' c c' : Nat}, a' ≤ a → b ≤ b' → (∀ k, inC c k = true → inC c' k = true) → Sh.has p (.str a b c) d → Sh.has p (.str a' b' c') d := by
    intro a b a' b' c c' h1 h2 h3 h4
    unfold Sh.has at h4 ⊢
    obtain ⟨s, rfl, h5, h6, h7⟩ := h4
    exact ⟨s, rfl, by omega, by omega, fun k hk => h3 k (h7 k hk)⟩
  have cons : ∀ {s : List Nat} {m : Nat}, maskOf s = some m → Sh.has p (.con (.str s)) d → Sh.has p (.str s.length s.length m) d := by
    intro s m h1 h2
    unfold Sh.has at h2 ⊢
    exact ⟨s, h2, Nat.le_refl _, Nat.le_refl _, maskOf_ok h1⟩
  have tupt : ∀ {xs : List Sh} {c e : Nat} {t : Sh}, Sh.has p (.tup xs) d ∨ Sh.has p (.tups c e t) d → Sh.has p (.tups (min c xs.length) (max e xs.length) (xs.foldl j t)) d := by
    intro xs c e t g
    unfold Sh.has
    rcases g with g | g
    · unfold Sh.has at g
      obtain ⟨ds, rfl, h1⟩ := g
      have := hasL_len h1
      exact ⟨ds, rfl, by omega, by omega, fun x hx => foldl_ok hj xs t (.inr (hasL_mem h1 x hx))⟩
    · unfold Sh.has at g
      obtain ⟨ds, rfl, h1, h2, h3⟩ := g
      exact ⟨ds, rfl, by omega, by omega, fun x hx => foldl_ok hj xs t (.inl (h3 x hx))⟩
  have lstt : ∀ {xs : List Sh} {c e : Nat} {t : Sh}, Sh.has p (.lst xs) d ∨ Sh.has p (.lsts c e t) d → Sh.has p (.lsts (min c xs.length) (max e xs.length) (xs.foldl j t)) d := by
    intro xs c e t g
    unfold Sh.has
    rcases g with g | g
    · unfold Sh.has at g
      obtain ⟨ds, rfl, h1⟩ := g
      have := hasL_len h1
      exact ⟨ds, rfl, by omega, by omega, fun x hx => foldl_ok hj xs t (.inr (hasL_mem h1 x hx))⟩
    · unfold Sh.has at g
      obtain ⟨ds, rfl, h1, h2, h3⟩ := g
      exact ⟨ds, rfl, by omega, by omega, fun x hx => foldl_ok hj xs t (.inl (h3 x hx))⟩
  unfold mergeW at h
  split at h
  · rename_i q
    cases h
    exact g.elim (le_ok q) id
  split at h
  · rename_i q
    cases h
    exact g.elim id (le_ok q)
  split at h
  · split at h
    · cases h
      unfold Sh.has
      rcases g with g | g <;> (unfold Sh.has at g; obtain ⟨i, rfl, h1, h2⟩ := g; exact ⟨i, rfl, by omega, by omega⟩)
    · cases h
  · split at h
    · cases h
      unfold Sh.has
      rcases g with g | g <;> (unfold Sh.has at g; exact ⟨_, g⟩)
    · cases h
  · split at h
    · split at h
      · rename_i m hm
        cases h
        rcases g with g | g
        · exact strc (Nat.min_le_left _ _) (Nat.le_max_left _ _) (fun k hk => inC_l hk) (cons hm g)
        · exact strc (Nat.min_le_right _ _) (Nat.le_max_right _ _) (fun k hk => inC_r hk) g
      · cases h
    · cases h
  · split at h
    · cases h
      rcases g with g | g
      · exact strc (Nat.min_le_left _ _) (Nat.le_max_left _ _) (fun k hk => inC_l hk) g
      · exact strc (Nat.min_le_right _ _) (Nat.le_max_right _ _) (fun k hk => inC_r hk) g
    · split at h
      · rename_i m hm
        cases h
        rcases g with g | g
        · exact strc (Nat.min_le_left _ _) (Nat.le_max_left _ _) (fun k hk => inC_l hk) g
        · exact strc (Nat.min_le_right _ _) (Nat.le_max_right _ _) (fun k hk => inC_r hk) (cons hm g)
      · cases h
    · cases h
  · split at h
    · cases h
      unfold Sh.has
      rcases g with g | g
      · unfold Sh.has at g
        obtain ⟨ds, rfl, h1, h2, h3⟩ := g
        exact ⟨ds, rfl, by omega, by omega, fun x hx => hj (.inl (h3 x hx))⟩
      · unfold Sh.has at g
        obtain ⟨ds, rfl, h1, h2, h3⟩ := g
        exact ⟨ds, rfl, by omega, by omega, fun x hx => hj (.inr (h3 x hx))⟩
    · cases h
      exact tupt g.symm
    · cases h
  · split at h
    · cases h
      exact tupt g
    · cases h
  · split at h
    · cases h
      unfold Sh.has
      rcases g with g | g
      · unfold Sh.has at g
        obtain ⟨ds, rfl, h1, h2, h3⟩ := g
        exact ⟨ds, rfl, by omega, by omega, fun x hx => hj (.inl (h3 x hx))⟩
      · unfold Sh.has at g
        obtain ⟨ds, rfl, h1, h2, h3⟩ := g
        exact ⟨ds, rfl, by omega, by omega, fun x hx => hj (.inr (h3 x hx))⟩
    · cases h
      exact lstt g.symm
    · cases h
  · split at h
    · cases h
      exact lstt g
    · cases h
  · cases h
def addAlt (mg : Sh → Sh → Option Sh) (x : Sh) : List Sh → List Sh
  | [] => [x]
  | y :: r => match mg y x with
    | some z => z :: r
    | none => y :: addAlt mg x r
theorem addAlt_ok {mg : Sh → Sh → Option Sh} (hm : ∀ {x y z d}, mg x y = some z → (Sh.has p x d ∨ Sh.has p y d) → z.has p d) {x : Sh} : ∀ {l : List Sh} {d : D}, (x.has p d ∨ hasAny p l d) → hasAny p (addAlt mg x l) d
  | [], d, h => by
    rcases h with h | ⟨s, h, _⟩
    · exact ⟨x, List.mem_singleton_self _, h⟩
    · cases h
  | y :: r, d, h => by
    unfold addAlt
    split
    · rename_i z q
      rcases h with h | ⟨s, h, g⟩
      · exact ⟨z, List.mem_cons_self, hm q (.inr h)⟩
      · rcases List.mem_cons.mp h with rfl | h
        · exact ⟨z, List.mem_cons_self, hm q (.inl g)⟩
        · exact ⟨s, List.mem_cons_of_mem _ h, g⟩
    · rcases h with h | ⟨s, h, g⟩
      · obtain ⟨t, h1, h2⟩ := addAlt_ok hm (x := x) (l := r) (.inl h)
        exact ⟨t, List.mem_cons_of_mem _ h1, h2⟩
      · rcases List.mem_cons.mp h with rfl | h
        · exact ⟨s, List.mem_cons_self, g⟩
        · obtain ⟨t, h1, h2⟩ := addAlt_ok hm (x := x) (l := r) (.inr ⟨s, h, g⟩)
          exact ⟨t, List.mem_cons_of_mem _ h1, h2⟩
def addAll (mg : Sh → Sh → Option Sh) : List Sh → List Sh → List Sh
  | [], l => l
  | x :: xs, l => addAll mg xs (addAlt mg x l)
theorem addAll_ok {mg : Sh → Sh → Option Sh} (hm : ∀ {x y z d}, mg x y = some z → (Sh.has p x d ∨ Sh.has p y d) → z.has p d) : ∀ {xs l : List Sh} {d : D}, (hasAny p xs d ∨ hasAny p l d) → hasAny p (addAll mg xs l) d
  | [], l, d, h => by
    rcases h with ⟨s, h, _⟩ | h
    · cases h
    · exact h
  | x :: xs, l, d, h => by
    unfold addAll
    refine addAll_ok hm ?_
    rcases h with ⟨s, h, g⟩ | h
    · rcases List.mem_cons.mp h with rfl | h
      · exact .inr (addAlt_ok hm (.inl g))
      · exact .inl ⟨s, h, g⟩
    · exact .inr (addAlt_ok hm (.inr h))
/-- texts no longer told apart -/
def Sh.wide : Sh → Sh
  | .con (.str s) => (Sh.con (.str s)).opn
  | s => s
theorem wide_ok {s : Sh} {d : D} (h : s.has p d) : s.wide.has p d := by
  unfold Sh.wide
  split
  · exact opn_has h
  · exact h
def capA (mg : Sh → Sh → Option Sh) (l : List Sh) : List Sh := if l.length ≤ 12 then l else addAll mg (l.map Sh.wide) []
theorem capA_ok {mg : Sh → Sh → Option Sh} (hm : ∀ {x y z d}, mg x y = some z → (Sh.has p x d ∨ Sh.has p y d) → z.has p d) {l : List Sh} {d : D} (h : hasAny p l d) : hasAny p (capA mg l) d := by
  unfold capA
  split
  · exact h
  · refine addAll_ok hm (.inl ?_)
    obtain ⟨s, h, g⟩ := h
    exact ⟨s.wide, List.mem_map_of_mem h, wide_ok g⟩
def Sh.join : Nat → Sh → Sh → Sh
  | 0, a, b => .or a b
  | n + 1, a, b => Sh.ofAlts (capA (mergeW (Sh.join n)) (addAll (mergeW (Sh.join n)) b.alts a.alts))
theorem join_ok : ∀ {n : Nat} {a b : Sh} {d : D}, (a.has p d ∨ b.has p d) → (Sh.join n a b).has p d
  | 0, a, b, d, h => by
    show Sh.has p (.or a b) d
    unfold Sh.has
    exact h
  | n + 1, a, b, d, h => by
    unfold Sh.join
    have hm : ∀ {x y z d}, mergeW (Sh.join n) x y = some z → (Sh.has p x d ∨ Sh.has p y d) → z.has p d := fun h g => mergeW_ok (fun h => join_ok h) h g
    refine ofAlts_ok (capA_ok hm (addAll_ok hm ?_))
    exact h.elim (fun h => .inr (alts_ok h)) (fun h => .inl (alts_ok h))
end
def JF : Nat := 8
def Sh.J (a b : Sh) : Sh := Sh.join JF a b
def Sh.joinAll (l : List Sh) : Sh := l.foldl Sh.J .bot
theorem J_l {p : PT} {a b : Sh} {d : D} (h : a.has p d) : (a.J b).has p d := join_ok (.inl h)
theorem J_r {p : PT} {a b : Sh} {d : D} (h : b.has p d) : (a.J b).has p d := join_ok (.inr h)
theorem joinAll_ok {p : PT} {l : List Sh} {d : D} (h : hasAny p l d) : (Sh.joinAll l).has p d := foldl_ok (fun h => join_ok h) l .bot (.inr h)
end Rf

namespace Rf
/-! ### rows of shapes -/
inductive Sq where
  | fix (ss : List Sh)
  | hom (lo hi : Nat) (s : Sh)
def Sq.has (p : PT) : Sq → List D → Prop
  | .fix ss, ds => Sh.hasL p ss ds
  | .hom lo hi s, ds => lo ≤ ds.length ∧ ds.length ≤ hi ∧ ∀ x ∈ ds, s.has p x
def Sq.lo : Sq → Nat
  | .fix ss => ss.length
  | .hom lo _ _ => lo
def Sq.hi : Sq → Nat
  | .fix ss => ss.length
  | .hom _ hi _ => hi
def Sq.el : Sq → Sh
  | .fix ss => Sh.joinAll ss
  | .hom _ _ s => s
def Sq.tup : Sq → Sh
  | .fix ss => .tup ss
  | .hom a b s => .tups a b s
def Sq.lst : Sq → Sh
  | .fix ss => .lst ss
  | .hom a b s => .lsts a b s
def Sq.app : Sq → Sq → Sq
  | .fix a, .fix b => .fix (a ++ b)
  | a, b => .hom (a.lo + b.lo) (a.hi + b.hi) (a.el.J b.el)
def Sq.rev : Sq → Sq
  | .fix a => .fix a.reverse
  | .hom a b s => .hom a b s
def zipJ : List Sh → List Sh → List Sh
  | x :: xs, y :: ys => x.J y :: zipJ xs ys
  | _, _ => []
def Sq.join (a b : Sq) : Sq :=
  match a, b with
  | .fix xs, .fix ys => if xs.length = ys.length then .fix (zipJ xs ys) else .hom (min xs.length ys.length) (max xs.length ys.length) ((Sh.joinAll xs).J (Sh.joinAll ys))
  | a, b => .hom (min a.lo b.lo) (max a.hi b.hi) (a.el.J b.el)
section
variable {p : PT}
theorem Sq.len {q : Sq} {ds : List D} (h : q.has p ds) : q.lo ≤ ds.length ∧ ds.length ≤ q.hi := by
  cases q with
  | fix ss => have := hasL_len h; exact ⟨by rw [this]; exact Nat.le_refl _, by rw [this]; exact Nat.le_refl _⟩
  | hom a b s => exact ⟨h.1, h.2.1⟩
theorem Sq.mem {q : Sq} {ds : List D} (h : q.has p ds) : ∀ x ∈ ds, q.el.has p x := by
  cases q with
  | fix ss => exact fun x hx => joinAll_ok (hasL_mem h x hx)
  | hom a b s => exact h.2.2
theorem Sq.tup_ok {q : Sq} {ds : List D} (h : q.has p ds) : q.tup.has p (.tup ds) := by
  cases q with
  | fix ss => unfold Sq.tup Sh.has; exact ⟨ds, rfl, h⟩
  | hom a b s => unfold Sq.tup Sh.has; exact ⟨ds, rfl, h⟩
theorem Sq.lst_ok {q : Sq} {ds : List D} (h : q.has p ds) : q.lst.has p (.lst ds) := by
  cases q with
  | fix ss => unfold Sq.lst Sh.has; exact ⟨ds, rfl, h⟩
  | hom a b s => unfold Sq.lst Sh.has; exact ⟨ds, rfl, h⟩
theorem Sq.app_ok {q r : Sq} {ds es : List D} (h : q.has p ds) (g : r.has p es) : (q.app r).has p (ds ++ es) := by
  have gen : Sq.has p (.hom (q.lo + r.lo) (q.hi + r.hi) (q.el.J r.el)) (ds ++ es) := by
    have := Sq.len h
    have := Sq.len g
    refine ⟨by rw [List.length_append]; omega, by rw [List.length_append]; omega, fun x hx => ?_⟩
    rcases List.mem_append.mp hx with hx | hx
    · exact J_l (Sq.mem h x hx)
    · exact J_r (Sq.mem g x hx)
  cases q with
  | fix ss => cases r with
    | fix tt => exact hasL_app h g
    | hom a b s => exact gen
  | hom a b s => exact gen
theorem Sq.rev_ok {q : Sq} {ds : List D} (h : q.has p ds) : q.rev.has p ds.reverse := by
  cases q with
  | fix ss => exact hasL_rev h
  | hom a b s => exact ⟨by rw [List.length_reverse]; exact h.1, by rw [List.length_reverse]; exact h.2.1, fun x hx => h.2.2 x (List.mem_reverse.mp hx)⟩
theorem zipJ_l : ∀ {xs ys : List Sh} {ds : List D}, xs.length = ys.length → Sh.hasL p xs ds → Sh.hasL p (zipJ xs ys) ds
  | [], [], ds, _, h => h
  | [], _ :: _, ds, e, h => by simp at e
  | _ :: _, [], ds, e, h => by simp at e
  | x :: xs, y :: ys, ds, e, h => by
    unfold Sh.hasL at h
    obtain ⟨d, r, rfl, h1, h2⟩ := h
    show Sh.hasL p (x.J y :: zipJ xs ys) (d :: r)
    unfold Sh.hasL
    exact ⟨d, r, rfl, J_l h1, zipJ_l (by simpa using e) h2⟩
theorem zipJ_r : ∀ {xs ys : List Sh} {ds : List D}, xs.length = ys.length → Sh.hasL p ys ds → Sh.hasL p (zipJ xs ys) ds
  | [], [], ds, _, h => h
  | [], _ :: _, ds, e, h => by simp at e
  | _ :: _, [], ds, e, h => by simp at e
  | x :: xs, y :: ys, ds, e, h => by
    unfold Sh.hasL at h
    obtain ⟨d, r, rfl, h1, h2⟩ := h
    show Sh.hasL p (x.J y :: zipJ xs ys) (d :: r)
    unfold Sh.hasL
    exact ⟨d, r, rfl, J_r h1, zipJ_r (by simpa using e) h2⟩
theorem Sq.join_ok {q r : Sq} {ds : List D} (h : q.has p ds ∨ r.has p ds) : (q.join r).has p ds := by
  have gen : Sq.has p (.hom (min q.lo r.lo) (max q.hi r.hi) (q.el.J r.el)) ds := by
    rcases h with h | h
    · have := Sq.len h
      exact ⟨by omega, by omega, fun x hx => J_l (Sq.mem h x hx)⟩
    · have := Sq.len h
      exact ⟨by omega, by omega, fun x hx => J_r (Sq.mem h x hx)⟩
  cases q with
  | fix ss => cases r with
    | fix tt =>
      show Sq.has p (if ss.length = tt.length then .fix (zipJ ss tt) else .hom (min ss.length tt.length) (max ss.length tt.length) ((Sh.joinAll ss).J (Sh.joinAll tt))) ds
      split
      · rename_i e
        exact h.elim (fun h => zipJ_l e h) (fun h => zipJ_r e h)
      · exact gen
    | hom a b s => exact gen
  | hom a b s => exact gen
end
/-! a stretch -/
def cutN (L M : Nat) (lo hi : Option (Int × Int)) : Nat × Nat :=
  match lo, hi with
  | none, none => (L, M)
  | some (a, b), none => if 0 ≤ a then (L - b.toNat, M - a.toNat) else if b < 0 then (min L (-b).toNat, min M (-a).toNat) else (0, M)
  | none, some (a, b) => if 0 ≤ a then (min a.toNat L, min b.toNat M) else if b < 0 then ((a + L).toNat, (b + M).toNat) else (0, M)
  | _, _ => (0, M)
def inR : Option (Int × Int) → Option Int → Prop
  | none, none => True
  | some (a, b), some v => a ≤ v ∧ v ≤ b
  | _, _ => False
theorem cutN_ok {α : Type} {xs : List α} {L M : Nat} {lo hi : Option (Int × Int)} {l h : Option Int} (h1 : L ≤ xs.length) (h2 : xs.length ≤ M) (h3 : inR lo l) (h4 : inR hi h) : (cutN L M lo hi).1 ≤ (cut xs l h).length ∧ (cut xs l h).length ≤ (cutN L M lo hi).2 := by
  have gen : 0 ≤ (cut xs l h).length ∧ (cut xs l h).length ≤ M := by
    refine ⟨Nat.zero_le _, ?_⟩
    unfold cut
    rw [List.length_take, List.length_drop]
    omega
  cases lo with
  | none =>
    cases l with
    | some _ => exact h3.elim
    | none =>
      cases hi with
      | none =>
        cases h with
        | some _ => exact h4.elim
        | none =>
          simp only [cutN, cut, cutAt, List.length_take, List.length_drop]
          omega
      | some q =>
        cases h with
        | none => exact h4.elim
        | some v =>
          obtain ⟨a, b⟩ := q
          obtain ⟨h5, h6⟩ := h4
          simp only [cutN]
          split
          · simp only [cut, cutAt, List.length_take, List.length_drop]
            rw [if_neg (by omega)]
            omega
          split
          · simp only [cut, cutAt, List.length_take, List.length_drop]
            rw [if_pos (by omega)]
            omega
          · exact gen
  | some q =>
    obtain ⟨a, b⟩ := q
    cases l with
    | none => exact h3.elim
    | some v =>
      obtain ⟨h5, h6⟩ := h3
      cases hi with
      | none =>
        cases h with
        | some _ => exact h4.elim
        | none =>
          simp only [cutN]
          split
          · simp only [cut, cutAt, List.length_take, List.length_drop]
            rw [if_neg (by omega)]
            omega
          split
          · simp only [cut, cutAt, List.length_take, List.length_drop]
            rw [if_pos (by omega)]
            omega
          · exact gen
      | some q => obtain ⟨c, d⟩ := q; exact gen
theorem cut_memA {α : Type} {xs : List α} {l h : Option Int} {x : α} (hx : x ∈ cut xs l h) : x ∈ xs := List.mem_of_mem_drop (List.mem_of_mem_take hx)
/-- exact bounds -/
def exR : Option (Int × Int) → Option (Option Int)
  | none => some none
  | some (a, b) => if a = b then some (some a) else none
theorem exR_ok {r : Option (Int × Int)} {v e : Option Int} (h : inR r v) (g : exR r = some e) : v = e := by
  cases r with
  | none => cases v with
    | none => cases g; rfl
    | some _ => exact h.elim
  | some q =>
    obtain ⟨a, b⟩ := q
    cases v with
    | none => exact h.elim
    | some v =>
      obtain ⟨h1, h2⟩ := h
      by_cases hab : a = b
      · have g' : (if a = b then some (some a) else none) = some e := g
        rw [if_pos hab] at g'
        cases g'
        rw [show v = a by omega]
      · have g' : (if a = b then some (some a) else none) = some e := g
        rw [if_neg hab] at g'
        cases g'
def Sq.cut (q : Sq) (lo hi : Option (Int × Int)) : Sq :=
  match q, exR lo, exR hi with
  | .fix ss, some l, some h => .fix (Rf.cut ss l h)
  | q, _, _ => .hom (cutN q.lo q.hi lo hi).1 (cutN q.lo q.hi lo hi).2 q.el
theorem hasL_cut {p : PT} {ss : List Sh} {ds : List D} {l h : Option Int} (g : Sh.hasL p ss ds) : Sh.hasL p (Rf.cut ss l h) (Rf.cut ds l h) := by
  unfold Rf.cut
  rw [hasL_len g]
  exact hasL_take _ (hasL_drop _ g)
theorem Sq.cut_ok {p : PT} {q : Sq} {ds : List D} {lo hi : Option (Int × Int)} {l h : Option Int} (g : q.has p ds) (h3 : inR lo l) (h4 : inR hi h) : (q.cut lo hi).has p (Rf.cut ds l h) := by
  have gen : Sq.has p (.hom (cutN q.lo q.hi lo hi).1 (cutN q.lo q.hi lo hi).2 q.el) (Rf.cut ds l h) := by
    have := Sq.len g
    have := cutN_ok (xs := ds) this.1 this.2 h3 h4
    exact ⟨this.1, this.2, fun x hx => Sq.mem g x (cut_memA hx)⟩
  unfold Sq.cut
  split
  · rename_i ss l' h' e1 e2
    rw [exR_ok h3 e1, exR_ok h4 e2]
    exact hasL_cut g
  · exact gen
/-! an item -/
def Sq.at (q : Sq) (a b : Int) : Option Sh :=
  if -(q.lo : Int) ≤ a ∧ b < (q.lo : Int) ∧ a ≤ b then
    match q with
    | .fix ss => if 0 ≤ a then some (Sh.joinAll ((ss.drop a.toNat).take (b.toNat + 1 - a.toNat))) else if b < 0 then some (Sh.joinAll ((ss.drop (a + ss.length).toNat).take (b - a + 1).toNat)) else some (Sh.joinAll ss)
    | .hom _ _ s => some s
  else none
theorem atL_in {α : Type} {xs : List α} {i : Int} (h0 : -(xs.length : Int) ≤ i) (h1 : i < (xs.length : Int)) : ∃ j x, atL xs i = some x ∧ xs[j]? = some x ∧ ((0 ≤ i ∧ j = i.toNat) ∨ (i < 0 ∧ j = (i + xs.length).toNat)) := by
  unfold atL ixOf
  by_cases h : 0 ≤ i
  · rw [if_pos h, if_pos h1]
    have hj : i.toNat < xs.length := by omega
    exact ⟨i.toNat, xs[i.toNat], List.getElem?_eq_getElem hj, List.getElem?_eq_getElem hj, .inl ⟨h, rfl⟩⟩
  · rw [if_neg h, if_pos h0]
    have hj : (i + xs.length).toNat < xs.length := by omega
    exact ⟨(i + xs.length).toNat, xs[(i + xs.length).toNat], List.getElem?_eq_getElem hj, List.getElem?_eq_getElem hj, .inr ⟨by omega, rfl⟩⟩
theorem hasL_mid {p : PT} {ss : List Sh} {ds : List D} {j u n : Nat} {x : D} (h : Sh.hasL p ss ds) (hx : ds[j]? = some x) (h1 : u ≤ j) (h2 : j < u + n) : hasAny p ((ss.drop u).take n) x := by
  have g := hasL_take n (hasL_drop u h)
  refine hasL_mem g x ?_
  refine List.mem_of_getElem? (i := j - u) ?_
  rw [List.getElem?_take_of_lt (by omega), List.getElem?_drop, show u + (j - u) = j by omega]
  exact hx
theorem Sq.at_ok {p : PT} {q : Sq} {ds : List D} {a b i : Int} {s : Sh} (g : q.has p ds) (e : q.at a b = some s) (h1 : a ≤ i) (h2 : i ≤ b) : ∃ x, atL ds i = some x ∧ s.has p x := by
  unfold Sq.at at e
  split at e
  · rename_i hc
    obtain ⟨c1, c2, c3⟩ := hc
    have hl := Sq.len g
    obtain ⟨j, x, e1, e2, e3⟩ := atL_in (xs := ds) (i := i) (by omega) (by omega)
    refine ⟨x, e1, ?_⟩
    have hm := List.mem_of_getElem? e2
    split at e
    · rename_i ss
      have hn := hasL_len g
      split at e
      · cases e
        refine joinAll_ok (hasL_mid g e2 ?_ ?_)
        · rcases e3 with e3 | e3 <;> omega
        · rcases e3 with e3 | e3 <;> omega
      split at e
      · cases e
        refine joinAll_ok (hasL_mid g e2 ?_ ?_)
        · rcases e3 with e3 | e3 <;> omega
        · rcases e3 with e3 | e3 <;> omega
      · cases e
        exact joinAll_ok (hasL_mem g x hm)
    · cases e
      exact g.2.2 x hm
  · cases e
/-! so many times -/
def Sq.rep (q : Sq) (a b : Int) : Sq :=
  match q with
  | .fix ss => if a = b then .fix (Rf.rep ss a.toNat) else .hom (ss.length * a.toNat) (ss.length * b.toNat) (Sh.joinAll ss)
  | .hom lo hi s => .hom (lo * a.toNat) (hi * b.toNat) s
theorem rep_lenA {α : Type} {xs : List α} : ∀ n, (Rf.rep xs n).length = xs.length * n
  | 0 => rfl
  | n + 1 => by
    show (xs ++ Rf.rep xs n).length = _
    rw [List.length_append, rep_lenA n, Nat.mul_succ, Nat.add_comm]
theorem rep_memA {α : Type} {xs : List α} {x : α} : ∀ {n}, x ∈ Rf.rep xs n → x ∈ xs
  | 0, h => by cases h
  | n + 1, h => (List.mem_append.mp h).elim id rep_memA
theorem hasL_rep {p : PT} {ss : List Sh} {ds : List D} (g : Sh.hasL p ss ds) : ∀ n, Sh.hasL p (Rf.rep ss n) (Rf.rep ds n)
  | 0 => by show Sh.hasL p [] []; unfold Sh.hasL; rfl
  | n + 1 => hasL_app g (hasL_rep g n)
theorem Sq.rep_ok {p : PT} {q : Sq} {ds : List D} {a b k : Int} (g : q.has p ds) (h1 : a ≤ k) (h2 : k ≤ b) : (q.rep a b).has p (Rf.rep ds k.toNat) := by
  cases q with
  | fix ss =>
    unfold Sq.rep
    dsimp only
    split
    · rename_i e
      rw [show k = a by omega]
      exact hasL_rep g _
    · have hn := hasL_len g
      refine ⟨?_, ?_, fun x hx => joinAll_ok (hasL_mem g x (rep_memA hx))⟩
      · rw [rep_lenA, hn]; exact Nat.mul_le_mul_left _ (by omega)
      · rw [rep_lenA, hn]; exact Nat.mul_le_mul_left _ (by omega)
  | hom lo hi s =>
    obtain ⟨g1, g2, g3⟩ := g
    refine ⟨?_, ?_, fun x hx => g3 x (rep_memA hx)⟩
    · rw [rep_lenA]; exact Nat.mul_le_mul g1 (by omega)
    · rw [rep_lenA]; exact Nat.mul_le_mul g2 (by omega)

/-! ### what a shape is -/
def Sh.asInt : Sh → Option (Int × Int)
  | .int a b => some (a, b)
  | .con (.int i) => some (i, i)
  | .or a b => match a.asInt, b.asInt with
    | some (x, y), some (u, v) => some (min x u, max y v)
    | _, _ => none
  | _ => none
def Sh.asStr : Sh → Option (Nat × Nat × Nat)
  | .str a b c => some (a, b, c)
  | .con (.str s) => (maskOf s).map fun m => (s.length, s.length, m)
  | .or a b => match a.asStr, b.asStr with
    | some (x, y, c), some (u, v, e) => some (min x u, max y v, c ||| e)
    | _, _ => none
  | _ => none
def Sh.asTup : Sh → Option Sq
  | .tup ss => some (.fix ss)
  | .tups a b s => some (.hom a b s)
  | .con (.tup ds) => some (.fix (ds.map .con))
  | .or a b => match a.asTup, b.asTup with
    | some x, some y => some (x.join y)
    | _, _ => none
  | _ => none
def Sh.asLst : Sh → Option Sq
  | .lst ss => some (.fix ss)
  | .lsts a b s => some (.hom a b s)
  | .con (.lst ds) => some (.fix (ds.map .con))
  | .or a b => match a.asLst, b.asLst with
    | some x, some y => some (x.join y)
    | _, _ => none
  | _ => none
def Sh.asBl : Sh → Bool
  | .bl => true
  | .con (.bl _) => true
  | .or a b => a.asBl && b.asBl
  | _ => false
section
variable {p : PT}
theorem asInt_ok : ∀ {s : Sh} {a b : Int} {d : D}, s.asInt = some (a, b) → s.has p d → ∃ i, d = .int i ∧ a ≤ i ∧ i ≤ b
  | .int x y, a, b, d, h, g => by cases h; unfold Sh.has at g; exact g
  | .con e, a, b, d, h, g => by
    unfold Sh.has at g
    subst g
    cases d <;> first | (cases h; exact ⟨_, rfl, Int.le_refl _, Int.le_refl _⟩) | cases h
  | .or s t, a, b, d, h, g => by
    unfold Sh.asInt at h
    split at h
    · rename_i x y u v e1 e2
      cases h
      unfold Sh.has at g
      rcases g with g | g
      · obtain ⟨i, rfl, h1, h2⟩ := asInt_ok e1 g
        exact ⟨i, rfl, by omega, by omega⟩
      · obtain ⟨i, rfl, h1, h2⟩ := asInt_ok e2 g
        exact ⟨i, rfl, by omega, by omega⟩
    · cases h
  | .bot, _, _, _, h, _ => by cases h
  | .bl, _, _, _, h, _ => by cases h
  | .big, _, _, _, h, _ => by cases h
  | .str _ _ _, _, _, _, h, _ => by cases h
  | .tup _, _, _, _, h, _ => by cases h
  | .tups _ _ _, _, _, _, h, _ => by cases h
  | .lst _, _, _, _, h, _ => by cases h
  | .lsts _ _ _, _, _, _, h, _ => by cases h
  | .nm _, _, _, _, h, _ => by cases h
theorem asStr_ok : ∀ {s : Sh} {a b c : Nat} {d : D}, s.asStr = some (a, b, c) → s.has p d → ∃ t, d = .str t ∧ a ≤ t.length ∧ t.length ≤ b ∧ ∀ k ∈ t, inC c k = true
  | .str x y z, a, b, c, d, h, g => by cases h; unfold Sh.has at g; exact g
  | .con e, a, b, c, d, h, g => by
    unfold Sh.has at g
    subst g
    cases d <;> first | (cases h; done) | skip
    obtain ⟨m, hm, e⟩ := Option.map_eq_some_iff.mp (show (maskOf _).map _ = some (a, b, c) from h)
    cases e
    exact ⟨_, rfl, Nat.le_refl _, Nat.le_refl _, maskOf_ok hm⟩
  | .or s t, a, b, c, d, h, g => by
    unfold Sh.asStr at h
    split at h
    · rename_i x y z u v w e1 e2
      cases h
      unfold Sh.has at g
      rcases g with g | g
      · obtain ⟨i, rfl, h1, h2, h3⟩ := asStr_ok e1 g
        exact ⟨i, rfl, by omega, by omega, fun k hk => inC_l (h3 k hk)⟩
      · obtain ⟨i, rfl, h1, h2, h3⟩ := asStr_ok e2 g
        exact ⟨i, rfl, by omega, by omega, fun k hk => inC_r (h3 k hk)⟩
    · cases h
  | .bot, _, _, _, _, h, _ => by cases h
  | .bl, _, _, _, _, h, _ => by cases h
  | .big, _, _, _, _, h, _ => by cases h
  | .int _ _, _, _, _, _, h, _ => by cases h
  | .tup _, _, _, _, _, h, _ => by cases h
  | .tups _ _ _, _, _, _, _, h, _ => by cases h
  | .lst _, _, _, _, _, h, _ => by cases h
  | .lsts _ _ _, _, _, _, _, h, _ => by cases h
  | .nm _, _, _, _, _, h, _ => by cases h
theorem asTup_ok : ∀ {s : Sh} {q : Sq} {d : D}, s.asTup = some q → s.has p d → ∃ ds, d = .tup ds ∧ q.has p ds
  | .tup ss, q, d, h, g => by cases h; unfold Sh.has at g; exact g
  | .tups _ _ ss, q, d, h, g => by cases h; unfold Sh.has at g; exact g
  | .con e, q, d, h, g => by
    unfold Sh.has at g
    subst g
    cases d <;> first | (cases h; done) | skip
    cases h
    exact ⟨_, rfl, hasL_con _⟩
  | .or s t, q, d, h, g => by
    unfold Sh.asTup at h
    split at h
    · rename_i x y e1 e2
      cases h
      unfold Sh.has at g
      rcases g with g | g
      · obtain ⟨ds, rfl, h1⟩ := asTup_ok e1 g
        exact ⟨ds, rfl, Sq.join_ok (.inl h1)⟩
      · obtain ⟨ds, rfl, h1⟩ := asTup_ok e2 g
        exact ⟨ds, rfl, Sq.join_ok (.inr h1)⟩
    · cases h
  | .bot, _, _, h, _ => by cases h
  | .bl, _, _, h, _ => by cases h
  | .big, _, _, h, _ => by cases h
  | .int _ _, _, _, h, _ => by cases h
  | .str _ _ _, _, _, h, _ => by cases h
  | .lst _, _, _, h, _ => by cases h
  | .lsts _ _ _, _, _, h, _ => by cases h
  | .nm _, _, _, h, _ => by cases h
theorem asLst_ok : ∀ {s : Sh} {q : Sq} {d : D}, s.asLst = some q → s.has p d → ∃ ds, d = .lst ds ∧ q.has p ds
  | .lst ss, q, d, h, g => by cases h; unfold Sh.has at g; exact g
  | .lsts _ _ ss, q, d, h, g => by cases h; unfold Sh.has at g; exact g
  | .con e, q, d, h, g => by
    unfold Sh.has at g
    subst g
    cases d <;> first | (cases h; done) | skip
    cases h
    exact ⟨_, rfl, hasL_con _⟩
  | .or s t, q, d, h, g => by
    unfold Sh.asLst at h
    split at h
    · rename_i x y e1 e2
      cases h
      unfold Sh.has at g
      rcases g with g | g
      · obtain ⟨ds, rfl, h1⟩ := asLst_ok e1 g
        exact ⟨ds, rfl, Sq.join_ok (.inl h1)⟩
      · obtain ⟨ds, rfl, h1⟩ := asLst_ok e2 g
        exact ⟨ds, rfl, Sq.join_ok (.inr h1)⟩
    · cases h
  | .bot, _, _, h, _ => by cases h
  | .bl, _, _, h, _ => by cases h
  | .big, _, _, h, _ => by cases h
  | .int _ _, _, _, h, _ => by cases h
  | .str _ _ _, _, _, h, _ => by cases h
  | .tup _, _, _, h, _ => by cases h
  | .tups _ _ _, _, _, h, _ => by cases h
  | .nm _, _, _, h, _ => by cases h
theorem asBl_ok : ∀ {s : Sh} {d : D}, s.asBl = true → s.has p d → ∃ b, d = .bl b
  | .bl, d, h, g => by unfold Sh.has at g; exact g
  | .con e, d, h, g => by
    unfold Sh.has at g
    subst g
    cases d <;> first | exact ⟨_, rfl⟩ | cases h
  | .or s t, d, h, g => by
    unfold Sh.asBl at h
    rw [Bool.and_eq_true] at h
    unfold Sh.has at g
    exact g.elim (asBl_ok h.1) (asBl_ok h.2)
  | .bot, _, h, _ => by cases h
  | .big, _, h, _ => by cases h
  | .int _ _, _, h, _ => by cases h
  | .str _ _ _, _, h, _ => by cases h
  | .lst _, _, h, _ => by cases h
  | .lsts _ _ _, _, h, _ => by cases h
  | .tup _, _, h, _ => by cases h
  | .tups _ _ _, _, h, _ => by cases h
  | .nm _, _, h, _ => by cases h
end
/-! plain, and how deep -/
mutual
def Sh.plB : Sh → Bool
  | .bot => true
  | .con d => D.pl d
  | .bl => true
  | .int _ _ => true
  | .big => true
  | .str _ _ _ => true
  | .tup ss => Sh.plBs ss
  | .tups _ _ s => s.plB
  | .lst ss => Sh.plBs ss
  | .lsts _ _ s => s.plB
  | .nm _ => false
  | .or a b => a.plB && b.plB
def Sh.plBs : List Sh → Bool
  | [] => true
  | s :: ss => s.plB && Sh.plBs ss
end
mutual
def Sh.dpB : Sh → Nat
  | .con d => D.dep d
  | .tup ss => Sh.dpBs ss + 1
  | .tups _ _ s => s.dpB + 1
  | .lst ss => Sh.dpBs ss + 1
  | .lsts _ _ s => s.dpB + 1
  | .or a b => max a.dpB b.dpB
  | _ => 0
def Sh.dpBs : List Sh → Nat
  | [] => 0
  | s :: ss => max s.dpB (Sh.dpBs ss)
end
theorem pls_of : ∀ {ds : List D}, (∀ x ∈ ds, D.pl x = true) → D.pls ds = true
  | [], _ => rfl
  | d :: ds, h => by
    unfold D.pls
    rw [Bool.and_eq_true]
    exact ⟨h d List.mem_cons_self, pls_of fun x hx => h x (List.mem_cons_of_mem _ hx)⟩
theorem deps_ofA : ∀ {ds : List D} {n : Nat}, (∀ x ∈ ds, D.dep x ≤ n) → D.deps ds ≤ n
  | [], _, _ => by unfold D.deps; omega
  | d :: ds, n, h => by
    unfold D.deps
    exact Nat.max_le.mpr ⟨h d List.mem_cons_self, deps_ofA fun x hx => h x (List.mem_cons_of_mem _ hx)⟩
mutual
theorem plB_ok {p : PT} : ∀ {s : Sh} {d : D}, s.plB = true → s.has p d → D.pl d = true ∧ D.dep d ≤ s.dpB
  | .bot, d, _, g => by unfold Sh.has at g; exact g.elim
  | .con e, d, h, g => by unfold Sh.has at g; subst g; exact ⟨h, by unfold Sh.dpB; exact Nat.le_refl _⟩
  | .bl, d, _, g => by unfold Sh.has at g; obtain ⟨b, rfl⟩ := g; exact ⟨rfl, by unfold D.dep; exact Nat.zero_le _⟩
  | .int _ _, d, _, g => by unfold Sh.has at g; obtain ⟨b, rfl, _⟩ := g; exact ⟨rfl, by unfold D.dep; exact Nat.zero_le _⟩
  | .big, d, _, g => by unfold Sh.has at g; obtain ⟨b, rfl⟩ := g; exact ⟨rfl, by unfold D.dep; exact Nat.zero_le _⟩
  | .str _ _ _, d, _, g => by unfold Sh.has at g; obtain ⟨b, rfl, _⟩ := g; exact ⟨rfl, by unfold D.dep; exact Nat.zero_le _⟩
  | .tup ss, d, h, g => by
    unfold Sh.has at g
    obtain ⟨ds, rfl, g⟩ := g
    unfold Sh.plB at h
    obtain ⟨a, b⟩ := plBs_ok h g
    unfold D.pl D.dep Sh.dpB
    exact ⟨a, by omega⟩
  | .lst ss, d, h, g => by
    unfold Sh.has at g
    obtain ⟨ds, rfl, g⟩ := g
    unfold Sh.plB at h
    obtain ⟨a, b⟩ := plBs_ok h g
    unfold D.pl D.dep Sh.dpB
    exact ⟨a, by omega⟩
  | .tups _ _ s, d, h, g => by
    unfold Sh.has at g
    obtain ⟨ds, rfl, _, _, g⟩ := g
    unfold Sh.plB at h
    unfold D.pl D.dep Sh.dpB
    exact ⟨pls_of fun x hx => (plB_ok h (g x hx)).1, Nat.succ_le_succ (deps_ofA fun x hx => (plB_ok h (g x hx)).2)⟩
  | .lsts _ _ s, d, h, g => by
    unfold Sh.has at g
    obtain ⟨ds, rfl, _, _, g⟩ := g
    unfold Sh.plB at h
    unfold D.pl D.dep Sh.dpB
    exact ⟨pls_of fun x hx => (plB_ok h (g x hx)).1, Nat.succ_le_succ (deps_ofA fun x hx => (plB_ok h (g x hx)).2)⟩
  | .nm _, d, h, _ => by cases h
  | .or a b, d, h, g => by
    unfold Sh.plB at h
    rw [Bool.and_eq_true] at h
    unfold Sh.has at g
    unfold Sh.dpB
    rcases g with g | g
    · obtain ⟨x, y⟩ := plB_ok h.1 g
      exact ⟨x, by omega⟩
    · obtain ⟨x, y⟩ := plB_ok h.2 g
      exact ⟨x, by omega⟩
theorem plBs_ok {p : PT} : ∀ {ss : List Sh} {ds : List D}, Sh.plBs ss = true → Sh.hasL p ss ds → D.pls ds = true ∧ D.deps ds ≤ Sh.dpBs ss
  | [], ds, _, g => by unfold Sh.hasL at g; subst g; exact ⟨rfl, by unfold D.deps; exact Nat.zero_le _⟩
  | s :: ss, ds, h, g => by
    unfold Sh.hasL at g
    obtain ⟨x, r, rfl, g1, g2⟩ := g
    unfold Sh.plBs at h
    rw [Bool.and_eq_true] at h
    obtain ⟨a1, a2⟩ := plB_ok h.1 g1
    obtain ⟨b1, b2⟩ := plBs_ok h.2 g2
    unfold D.pls D.deps Sh.dpBs
    rw [Bool.and_eq_true]
    exact ⟨⟨a1, b1⟩, by omega⟩
end
end Rf

namespace Rf
/-! ### abstract values, slots, memory -/
/-- families of decks: what the first places of the memory hold, behind so many draws -/
structure Fam where
  γ : Type
  mem : γ → Nat → Mem
  len : Nat
  hl : ∀ g n, (mem g n).length = len
  at_ : Nat
def BIG : Nat := 2 ^ 30
inductive AV where
  | sh (s : Sh)
  | dk
  | pl (j : Nat)
abbrev ASl := List (Option AV)
abbrev APl := List Sh
def AV.has (F : Fam) (p : PT) (ρ : List Nat) : AV → Val → Prop
  | .sh s, v => ∃ d, v = .d d ∧ s.has p d
  | .dk, v => v = .r F.at_
  | .pl j, v => ∃ i, ρ[j]? = some i ∧ v = .r i
def hasVs (F : Fam) (p : PT) (ρ : List Nat) : List AV → List Val → Prop
  | [], vs => vs = []
  | a :: as, vs => ∃ v r, vs = v :: r ∧ a.has F p ρ v ∧ hasVs F p ρ as r
structure MR (F : Fam) (p : PT) (r0 : Mem) (ρ : List Nat) (P : APl) (m : Mem) (n : Nat) : Prop where
  ex : ∃ g r, m = F.mem g n ++ r0 ++ r
  len : ρ.length = P.length
  nd : ρ.Nodup
  ge : ∀ i ∈ ρ, F.len + r0.length ≤ i
  at_ : ∀ (j i : Nat) (s : Sh), ρ[j]? = some i → P[j]? = some s → ∃ ds, m[i]? = some (.lst (ds.map .d)) ∧ s.has p (.lst ds)
structure SlR (F : Fam) (p : PT) (ρ : List Nat) (S : ASl) (s : Slots) : Prop where
  len : S.length ≤ s.length
  at_ : ∀ (i : Nat) a, S[i]? = some (some a) → ∃ v, s[i]? = some (some v) ∧ a.has F p ρ v
def Ext (ρ ρ' : List Nat) : Prop := ∃ t, ρ' = ρ ++ t
def Po (F : Fam) (p : PT) (r0 : Mem) {α : Type} (ρ : List Nat) (n : Nat) (x : R α) (P : APl) (δ : Nat) (Q : List Nat → α → Prop) : Prop :=
  ∃ v m' ρ' n', x = .ok v m' ∧ MR F p r0 ρ' P m' n' ∧ Ext ρ ρ' ∧ Q ρ' v ∧ n ≤ n' ∧ n' ≤ n + δ
section
variable {F : Fam} {p : PT} {r0 : Mem} {ρ ρ' : List Nat} {P P' : APl} {m : Mem} {n : Nat}
theorem Ext.refl : Ext ρ ρ := ⟨[], by simp⟩
theorem Ext.trans {a b c : List Nat} (h : Ext a b) (g : Ext b c) : Ext a c := by
  obtain ⟨t, rfl⟩ := h
  obtain ⟨u, rfl⟩ := g
  exact ⟨t ++ u, by simp⟩
theorem Ext.get {a b : List Nat} (h : Ext a b) {j i : Nat} (g : a[j]? = some i) : b[j]? = some i := by
  obtain ⟨t, rfl⟩ := h
  rw [List.getElem?_append_left (List.getElem?_eq_some_iff.mp g).1]
  exact g
theorem AV.has.mono {a : AV} {v : Val} (h : a.has F p ρ v) (e : Ext ρ ρ') : a.has F p ρ' v := by
  cases a with
  | sh s => exact h
  | dk => exact h
  | pl j => obtain ⟨i, h1, h2⟩ := h; exact ⟨i, e.get h1, h2⟩
theorem hasVs.mono (e : Ext ρ ρ') : ∀ {as : List AV} {vs : List Val}, hasVs F p ρ as vs → hasVs F p ρ' as vs
  | [], _, h => h
  | a :: as, vs, ⟨v, r, h1, h2, h3⟩ => ⟨v, r, h1, h2.mono e, h3.mono e⟩
theorem SlR.mono {S : ASl} {s : Slots} (h : SlR F p ρ S s) (e : Ext ρ ρ') : SlR F p ρ' S s := ⟨h.len, fun i a g => let ⟨v, h1, h2⟩ := h.at_ i a g; ⟨v, h1, h2.mono e⟩⟩
theorem Po.ret {α : Type} {v : α} {Q : List Nat → α → Prop} {δ : Nat} (h : MR F p r0 ρ P m n) (q : Q ρ v) : Po F p r0 ρ n (.ok v m) P δ Q := ⟨v, m, ρ, n, rfl, h, .refl, q, Nat.le_refl _, Nat.le_add_right _ _⟩
theorem Po.bind {α β : Type} {x : R α} {f : α → Mem → R β} {P1 P2 : APl} {δ1 δ2 : Nat} {Q1 : List Nat → α → Prop} {Q2 : List Nat → β → Prop} (h : Po F p r0 ρ n x P1 δ1 Q1)
    (g : ∀ v m1 ρ1 n1, MR F p r0 ρ1 P1 m1 n1 → Ext ρ ρ1 → Q1 ρ1 v → n ≤ n1 → n1 ≤ n + δ1 → Po F p r0 ρ1 n1 (f v m1) P2 δ2 Q2) : Po F p r0 ρ n (x.bind f) P2 (δ1 + δ2) Q2 := by
  obtain ⟨v, m1, ρ1, n1, rfl, h1, h2, h3, h4, h5⟩ := h
  obtain ⟨w, m2, ρ2, n2, e, g1, g2, g3, g4, g5⟩ := g v m1 ρ1 n1 h1 h2 h3 h4 h5
  exact ⟨w, m2, ρ2, n2, e, g1, h2.trans g2, g3, by omega, by omega⟩
theorem Po.mono {α : Type} {x : R α} {δ δ' : Nat} {Q Q' : List Nat → α → Prop} (h : Po F p r0 ρ n x P δ Q) (hd : δ ≤ δ') (q : ∀ ρ' v, Ext ρ ρ' → Q ρ' v → Q' ρ' v) : Po F p r0 ρ n x P δ' Q' := by
  obtain ⟨v, m1, ρ1, n1, e, h1, h2, h3, h4, h5⟩ := h
  exact ⟨v, m1, ρ1, n1, e, h1, h2, q _ _ h2 h3, h4, by omega⟩
theorem Po.eq {α : Type} {x y : R α} {δ : Nat} {Q : List Nat → α → Prop} (e : x = y) (h : Po F p r0 ρ n y P δ Q) : Po F p r0 ρ n x P δ Q := e ▸ h
/-! places -/
theorem MR.mlen (h : MR F p r0 ρ P m n) : F.len + r0.length ≤ m.length := by
  obtain ⟨g, r, rfl⟩ := h.ex
  rw [List.length_append, List.length_append, F.hl]
  omega
theorem MR.lt (h : MR F p r0 ρ P m n) {j i : Nat} (e : ρ[j]? = some i) : i < m.length := by
  have hj : j < P.length := by rw [← h.len]; exact (List.getElem?_eq_some_iff.mp e).1
  obtain ⟨ds, h1, _⟩ := h.at_ j i _ e (List.getElem?_eq_getElem hj)
  exact (List.getElem?_eq_some_iff.mp h1).1
/-- a new place -/
theorem MR.new (h : MR F p r0 ρ P m n) {q : Sq} {ds : List D} (g : q.has p ds) : MR F p r0 (ρ ++ [m.length]) (P ++ [q.lst]) (m ++ [.lst (ds.map .d)]) n := by
  have hm := h.mlen
  refine ⟨?_, by simp [h.len], ?_, ?_, ?_⟩
  · obtain ⟨gg, r, e⟩ := h.ex
    exact ⟨gg, r ++ [.lst (ds.map .d)], by rw [e]; simp⟩
  · refine List.nodup_append.mpr ⟨h.nd, by simp, fun a ha b hb => ?_⟩
    have e : b = m.length := by simpa using hb
    obtain ⟨j, hj⟩ := List.mem_iff_getElem?.mp ha
    have := h.lt hj
    omega
  · intro i hi
    rcases List.mem_append.mp hi with hi | hi
    · exact h.ge i hi
    · have e : i = m.length := by simpa using hi
      omega
  · intro j i s e1 e2
    by_cases hj : j < ρ.length
    · rw [List.getElem?_append_left hj] at e1
      rw [List.getElem?_append_left (by rw [← h.len]; exact hj)] at e2
      obtain ⟨ds, h1, h2⟩ := h.at_ j i s e1 e2
      exact ⟨ds, by rw [List.getElem?_append_left (h.lt e1)]; exact h1, h2⟩
    · rw [List.getElem?_append_right (by omega)] at e1
      rw [List.getElem?_append_right (by rw [← h.len]; omega)] at e2
      have e0 : j - ρ.length = 0 := by
        have := (List.getElem?_eq_some_iff.mp e1).1
        simp at this
        omega
      rw [e0] at e1
      rw [← h.len, e0] at e2
      simp at e1 e2
      subst e1 e2
      exact ⟨ds, by simp, Sq.lst_ok g⟩
/-- a place written -/
theorem MR.set (h : MR F p r0 ρ P m n) {j i : Nat} {q : Sq} {ds : List D} (e : ρ[j]? = some i) (g : q.has p ds) : MR F p r0 ρ (P.set j q.lst) (m.set i (.lst (ds.map .d))) n := by
  have hi := h.ge i (List.mem_of_getElem? e)
  refine ⟨?_, by simp [h.len], h.nd, h.ge, ?_⟩
  · obtain ⟨gg, r, e⟩ := h.ex
    refine ⟨gg, r.set (i - (F.len + r0.length)) (.lst (ds.map .d)), ?_⟩
    have e2 : (F.mem gg n ++ r0).length = F.len + r0.length := by rw [List.length_append, F.hl]
    rw [e, List.set_append_right _ _ (by omega), e2]
  · intro k i' s e1 e2
    by_cases hk : k = j
    · subst hk
      rw [e] at e1
      cases e1
      have hl : k < P.length := by rw [← h.len]; exact (List.getElem?_eq_some_iff.mp e).1
      rw [List.getElem?_set_self hl] at e2
      cases e2
      exact ⟨ds, List.getElem?_set_self (h.lt e), Sq.lst_ok g⟩
    · rw [List.getElem?_set_ne (Ne.symm hk)] at e2
      obtain ⟨es, h1, h2⟩ := h.at_ k i' s e1 e2
      have ne : i ≠ i' := by
        intro z
        subst z
        obtain ⟨a1, a2⟩ := List.getElem?_eq_some_iff.mp e
        obtain ⟨b1, b2⟩ := List.getElem?_eq_some_iff.mp e1
        exact hk ((List.getElem_inj h.nd).mp (b2.trans a2.symm))
      exact ⟨es, by rw [List.getElem?_set_ne ne]; exact h1, h2⟩
end
/-! ### operations -/
def shOf : D → Sh
  | .int i => .int i i
  | d => .con d
theorem shOf_ok {p : PT} (d : D) : (shOf d).has p d := by
  unfold shOf
  split
  · unfold Sh.has; exact ⟨_, rfl, Int.le_refl _, Int.le_refl _⟩
  · unfold Sh.has; rfl
def shs : List AV → Option (List Sh)
  | [] => some []
  | .sh s :: r => (shs r).map (s :: ·)
  | _ :: _ => none
def asL : AV → APl → Option Sq
  | .sh s, _ => s.asLst
  | .pl j, P => (P[j]?).bind Sh.asLst
  | .dk, _ => none
def mkA (z : Bool) (q : Sq) (P : APl) : AV × APl := match z with
  | true => (.sh q.lst, P)
  | false => (.pl P.length, P ++ [q.lst])
section
variable {F : Fam} {p : PT} {r0 : Mem} {ρ ρ' : List Nat} {P P' : APl} {m : Mem} {n : Nat}
theorem shs_ok : ∀ {as : List AV} {vs : List Val} {ss : List Sh}, shs as = some ss → hasVs F p ρ as vs → ∃ ds, vs = ds.map .d ∧ Sh.hasL p ss ds
  | [], vs, ss, h, g => by
    cases h
    exact ⟨[], g, by unfold Sh.hasL; rfl⟩
  | a :: as, vs, ss, h, ⟨v, r, e, g1, g2⟩ => by
    cases a with
    | sh s =>
      obtain ⟨tt, h1, rfl⟩ := Option.map_eq_some_iff.mp (show (shs as).map (s :: ·) = some ss from h)
      obtain ⟨ds, rfl, h2⟩ := shs_ok h1 g2
      obtain ⟨d, rfl, h3⟩ := g1
      refine ⟨d :: ds, e, ?_⟩
      unfold Sh.hasL
      exact ⟨d, ds, rfl, h3, h2⟩
    | dk => cases h
    | pl _ => cases h
theorem asL_ok {a : AV} {q : Sq} {v : Val} (h : asL a P = some q) (hm : MR F p r0 ρ P m n) (g : a.has F p ρ v) : ∃ ds, lstOf m v = some (ds.map .d) ∧ q.has p ds := by
  cases a with
  | sh s =>
    obtain ⟨d, rfl, g1⟩ := g
    obtain ⟨ds, rfl, g2⟩ := asLst_ok h g1
    exact ⟨ds, rfl, g2⟩
  | dk => cases h
  | pl j =>
    obtain ⟨i, g1, rfl⟩ := g
    obtain ⟨s, h1, h2⟩ := Option.bind_eq_some_iff.mp (show (P[j]?).bind Sh.asLst = some q from h)
    obtain ⟨ds, h3, h4⟩ := hm.at_ j i s g1 h1
    obtain ⟨es, h5, h6⟩ := asLst_ok h2 h4
    cases h5
    refine ⟨ds, ?_, h6⟩
    show (match m[i]? with
      | some (.lst vs) => some vs
      | _ => none) = _
    rw [h3]
theorem mkA_ok {z : Bool} {q : Sq} {ds : List D} (g : q.has p ds) (hm : MR F p r0 ρ P m n) {δ : Nat} : Po F p r0 ρ n (mkL z (ds.map .d) m) (mkA z q P).2 δ (fun ρ' v => (mkA z q P).1.has F p ρ' v) := by
  cases z with
  | true =>
    have e : mkL true (ds.map Val.d) m = .ok (.d (.lst ds)) m := m_l (datas_map ds)
    rw [e]
    exact .ret hm ⟨_, rfl, Sq.lst_ok g⟩
  | false =>
    have hn := hm.new g
    refine ⟨.r m.length, m ++ [Ob.lst (ds.map Val.d)], ρ ++ [m.length], n, rfl, hn, ⟨_, rfl⟩, ?_, Nat.le_refl _, Nat.le_add_right _ _⟩
    refine ⟨m.length, ?_, rfl⟩
    rw [← hm.len]
    simp
end
/-! numbers -/
def min4 (a b c d : Int) : Int := min (min a b) (min c d)
def max4 (a b c d : Int) : Int := max (max a b) (max c d)
def binAI (o : Bop) (x y u v : Int) : Option Sh :=
  match o with
  | .add => some (.int (x + u) (y + v))
  | .sub => some (.int (x - v) (y - u))
  | .mul => if (-(2 ^ 64) < x ∧ y < 2 ^ 64) ∨ (-(2 ^ 64) < u ∧ v < 2 ^ 64) then (if 0 ≤ x ∧ 0 ≤ u then some (.int (x * u) (y * v)) else if x = y then some (.int (min (x * u) (x * v)) (max (x * u) (x * v))) else if u = v then some (.int (min (x * u) (y * u)) (max (x * u) (y * u))) else none) else none
  | .div => if 0 < u ∧ v < 18446744073709551616 then (if 0 ≤ x then some (.int (x / v) (y / u)) else if u = v then some (.int (x / u) (y / u)) else none) else none
  | .mod => if 0 < u then (if 0 ≤ x ∧ y < u then some (.int x y) else some (.int 0 (v - 1))) else none
  | .pow => if x = y ∧ u = v ∧ 0 ≤ u ∧ u ≤ 1000 ∧ x.natAbs < 2 ^ 64 then some (.int (x ^ u.toNat) (x ^ u.toNat)) else none
  | .xor => none
theorem mul_between {x y u v i j : Int} (h0 : 0 ≤ x) (h1 : x ≤ i) (h2 : i ≤ y) (k0 : 0 ≤ u) (k1 : u ≤ j) (k2 : j ≤ v) : x * u ≤ i * j ∧ i * j ≤ y * v :=
  ⟨Int.mul_le_mul h1 k1 k0 (by omega), Int.mul_le_mul h2 k2 (by omega) (by omega)⟩
theorem mul_one {x u v j : Int} (k1 : u ≤ j) (k2 : j ≤ v) : min (x * u) (x * v) ≤ x * j ∧ x * j ≤ max (x * u) (x * v) := by
  by_cases h : 0 ≤ x
  · have a := Int.mul_le_mul_of_nonneg_left k1 h
    have b := Int.mul_le_mul_of_nonneg_left k2 h
    omega
  · have a := Int.mul_le_mul_of_nonpos_left (show x ≤ 0 by omega) k1
    have b := Int.mul_le_mul_of_nonpos_left (show x ≤ 0 by omega) k2
    omega
theorem binAI_ok {p : PT} {o : Bop} {x y u v i j : Int} {s : Sh} (h : binAI o x y u v = some s) (h1 : x ≤ i) (h2 : i ≤ y) (k1 : u ≤ j) (k2 : j ≤ v) : ∃ d, binI o i j = some d ∧ s.has p d := by
  have mk : ∀ {a b k : Int}, a ≤ k → k ≤ b → Sh.has p (.int a b) (.int k) := fun a b => by unfold Sh.has; exact ⟨_, rfl, a, b⟩
  cases o with
  | add => cases h; exact ⟨_, rfl, mk (by omega) (by omega)⟩
  | sub => cases h; exact ⟨_, rfl, mk (by omega) (by omega)⟩
  | mul =>
    unfold binAI at h
    dsimp only at h
    split at h
    · rename_i hc
      have e : binI .mul i j = some (.int (i * j)) := if_pos (by omega)
      refine ⟨_, e, ?_⟩
      split at h
      · rename_i hd
        cases h
        obtain ⟨a, b⟩ := mul_between hd.1 h1 h2 hd.2 k1 k2
        exact mk a b
      split at h
      · rename_i _ hd
        cases h
        rw [show i = x by omega]
        obtain ⟨a, b⟩ := mul_one (x := x) k1 k2
        exact mk a b
      split at h
      · rename_i _ _ hd
        cases h
        rw [show j = u by omega, Int.mul_comm i u, Int.mul_comm x u, Int.mul_comm y u]
        obtain ⟨a, b⟩ := mul_one (x := u) h1 h2
        exact mk a b
      · cases h
    · cases h
  | div =>
    unfold binAI at h
    dsimp only at h
    split at h
    · rename_i hc
      have e : binI .div i j = some (.int (i / j)) := if_pos (by omega)
      refine ⟨_, e, ?_⟩
      split at h
      · rename_i hx
        cases h
        refine mk ?_ ?_
        · exact Int.le_trans (Int.ediv_le_ediv (show 0 < v by omega) h1) (by
            refine (Int.le_ediv_iff_mul_le (show 0 < j by omega)).mpr ?_
            exact Int.le_trans (Int.mul_le_mul_of_nonneg_left k2 (Int.ediv_nonneg (by omega) (by omega))) (Int.ediv_mul_le _ (by omega)))
        · exact Int.le_trans (Int.ediv_le_ediv (show 0 < j by omega) h2) (by
            refine (Int.le_ediv_iff_mul_le (show 0 < u by omega)).mpr ?_
            exact Int.le_trans (Int.mul_le_mul_of_nonneg_left k1 (Int.ediv_nonneg (by omega) (by omega))) (Int.ediv_mul_le _ (by omega)))
      split at h
      · cases h
        rw [show j = u by omega]
        exact mk (Int.ediv_le_ediv (by omega) h1) (Int.ediv_le_ediv (by omega) h2)
      · cases h
    · cases h
  | mod =>
    unfold binAI at h
    dsimp only at h
    split at h
    · rename_i hc
      have e : binI .mod i j = some (.int (i % j)) := if_pos (by omega)
      refine ⟨_, e, ?_⟩
      split at h
      · cases h
        rw [Int.emod_eq_of_lt (by omega) (by omega)]
        exact mk h1 h2
      · cases h
        have := Int.emod_nonneg i (show j ≠ 0 by omega)
        have := Int.emod_lt_of_pos i (show 0 < j by omega)
        exact mk (by omega) (by omega)
    · cases h
  | pow =>
    unfold binAI at h
    dsimp only at h
    split at h
    · rename_i hc
      cases h
      rw [show i = x by omega, show j = u by omega]
      exact ⟨_, if_pos (by omega), mk (Int.le_refl _) (Int.le_refl _)⟩
    · cases h
  | xor => cases h
/-! two values -/
def binSS (o : Bop) (a b : Sh) : Option Sh :=
  match a.asStr with
  | some (l, h, c) => match o with
    | .add => match b.asStr with
      | some (l2, h2, c2) => if h + h2 ≤ LINE then some (.str (l + l2) (h + h2) (c ||| c2)) else none
      | none => none
    | .mul => match b.asInt with
      | some (u, v) => if -(2 ^ 62) < u ∧ v < 2 ^ 62 ∧ h * v.toNat ≤ LINE then some (.str (l * u.toNat) (h * v.toNat) c) else none
      | none => none
    | _ => none
  | none => none
def binST (o : Bop) (a b : Sh) : Option Sh :=
  match a.asTup with
  | some q => match o with
    | .add => match b.asTup with
      | some r => if q.hi + r.hi ≤ LINE then some (q.app r).tup else none
      | none => none
    | .mul => match b.asInt with
      | some (u, v) => if -(2 ^ 62) < u ∧ v ≤ 1000 ∧ q.hi ≤ 1000 then some (q.rep u v).tup else none
      | none => none
    | _ => none
  | none => none
def binS (o : Bop) (a b : Sh) : Option Sh :=
  match a.asInt, b.asInt with
  | some (x, y), some (u, v) => binAI o x y u v
  | _, _ => match binSS o a b with
    | some s => some s
    | none => binST o a b
def aBin (z : Bool) (o : Bop) (a b : AV) (P : APl) : Option (AV × APl) :=
  match asL a P with
  | some q => match o with
    | .add => match asL b P with
      | some r => if q.hi + r.hi ≤ LINE then some (mkA z (q.app r) P) else none
      | none => none
    | .mul => match b with
      | .sh b => match b.asInt with
        | some (u, v) => if -(2 ^ 62) < u ∧ v < 2 ^ 62 ∧ q.hi * v.toNat ≤ LINE then some (mkA z (q.rep u v) P) else none
        | none => none
      | _ => none
    | _ => none
  | none => match a, b with
    | .sh a, .sh b => (binS o a b).map fun s => (.sh s, P)
    | _, _ => none
section
variable {F : Fam} {p : PT} {r0 : Mem} {ρ ρ' : List Nat} {P P' : APl} {m : Mem} {n : Nat} {z : Bool}
theorem binSS_ok {o : Bop} {a b s : Sh} {x y : D} (h : binSS o a b = some s) (g1 : a.has p x) (g2 : b.has p y) : ∃ d, binV z o (.d x) (.d y) m = .ok (.d d) m ∧ s.has p d := by
  unfold binSS at h
  split at h
  · rename_i l hh c e1
    obtain ⟨t, rfl, a1, a2, a3⟩ := asStr_ok e1 g1
    split at h
    · split at h
      · rename_i l2 h2 c2 e2
        obtain ⟨u, rfl, b1, b2, b3⟩ := asStr_ok e2 g2
        split at h
        · rename_i hc
          cases h
          refine ⟨.str (t ++ u), if_pos (by omega), ?_⟩
          unfold Sh.has
          refine ⟨_, rfl, by rw [List.length_append]; omega, by rw [List.length_append]; omega, fun k hk => ?_⟩
          rcases List.mem_append.mp hk with hk | hk
          · exact inC_l (a3 k hk)
          · exact inC_r (b3 k hk)
        · cases h
      · cases h
    · split at h
      · rename_i u v e2
        obtain ⟨k, rfl, b1, b2⟩ := asInt_ok e2 g2
        split at h
        · rename_i hc
          obtain ⟨c1, c2, c3⟩ := hc
          cases h
          have hle : t.length * k.toNat ≤ LINE := Nat.le_trans (Nat.mul_le_mul a2 (by omega)) c3
          refine ⟨.str (rep t k.toNat), if_pos ⟨by omega, by omega, hle⟩, ?_⟩
          unfold Sh.has
          refine ⟨_, rfl, ?_, ?_, fun k hk => a3 k (rep_memA hk)⟩
          · rw [rep_lenA]; exact Nat.mul_le_mul a1 (by omega)
          · rw [rep_lenA]; exact Nat.mul_le_mul a2 (by omega)
        · cases h
      · cases h
    · cases h
  · cases h
theorem binST_ok {o : Bop} {a b s : Sh} {x y : D} (h : binST o a b = some s) (g1 : a.has p x) (g2 : b.has p y) : ∃ d, binV z o (.d x) (.d y) m = .ok (.d d) m ∧ s.has p d := by
  unfold binST at h
  split at h
  · rename_i q e1
    obtain ⟨t, rfl, a1⟩ := asTup_ok e1 g1
    have a2 := Sq.len a1
    split at h
    · split at h
      · rename_i r e2
        obtain ⟨u, rfl, b1⟩ := asTup_ok e2 g2
        have b2 := Sq.len b1
        split at h
        · rename_i hc
          cases h
          exact ⟨.tup (t ++ u), if_pos (by omega), Sq.tup_ok (Sq.app_ok a1 b1)⟩
        · cases h
      · cases h
    · split at h
      · rename_i u v e2
        obtain ⟨k, rfl, b1, b2⟩ := asInt_ok e2 g2
        split at h
        · rename_i hc
          cases h
          exact ⟨.tup (rep t k.toNat), if_pos (by omega), Sq.tup_ok (Sq.rep_ok a1 b1 b2)⟩
        · cases h
      · cases h
    · cases h
  · cases h
theorem binS_ok {o : Bop} {a b s : Sh} {x y : D} (h : binS o a b = some s) (g1 : a.has p x) (g2 : b.has p y) : ∃ d, binV z o (.d x) (.d y) m = .ok (.d d) m ∧ s.has p d := by
  unfold binS at h
  split at h
  · rename_i x' y' u v e1 e2
    obtain ⟨i, rfl, h1, h2⟩ := asInt_ok e1 g1
    obtain ⟨j, rfl, k1, k2⟩ := asInt_ok e2 g2
    obtain ⟨d, e, hd⟩ := binAI_ok (p := p) h h1 h2 k1 k2
    refine ⟨d, ?_, hd⟩
    show (R.opt (binI o i j) m).bind _ = _
    rw [e]
    rfl
  · split at h
    · rename_i s' e
      cases h
      exact binSS_ok e g1 g2
    · exact binST_ok h g1 g2
theorem binV_lst {o : Bop} {x y : Val} {xs : List Val} (h : lstOf m x = some xs) : binV z o x y m = (match o, y with
      | .mul, .d (.int k) => if k < 2 ^ 62 ∧ -(2 ^ 62) < k ∧ xs.length * k.toNat ≤ LINE then mkL z (rep xs k.toNat) m else .no
      | .add, b => match lstOf m b with
        | some ys => if xs.length + ys.length ≤ LINE then mkL z (xs ++ ys) m else .no
        | none => .no
      | _, _ => .no) := by
  cases x with
  | d d =>
    cases d with
    | lst ds =>
      cases h
      rfl
    | non => cases h
    | bl b => cases h
    | int i => cases h
    | str s => cases h
    | tup _ => cases h
    | dct _ => cases h
    | set _ => cases h
    | scr _ => cases h
    | fn _ => cases h
    | obj _ _ => cases h
  | r i =>
    show (match lstOf m (.r i) with
    | some xs => _
    | none => R.no) = _
    first | (rw [h]; done) | (rw [h]; rfl)
theorem rep_map {α β : Type} {f : α → β} {xs : List α} : ∀ k, rep (xs.map f) k = (rep xs k).map f
  | 0 => rfl
  | k + 1 => by
    show xs.map f ++ rep (xs.map f) k = (xs ++ rep xs k).map f
    rw [rep_map k, List.map_append]
theorem aBin_ok {o : Bop} {a b : AV} {x y : Val} {c : AV} {δ : Nat} (h : aBin z o a b P = some (c, P')) (hm : MR F p r0 ρ P m n) (g1 : a.has F p ρ x) (g2 : b.has F p ρ y) :
    Po F p r0 ρ n (binV z o x y m) P' δ (fun ρ' v => c.has F p ρ' v) := by
  unfold aBin at h
  split at h
  · rename_i q e1
    obtain ⟨ds, e3, q1⟩ := asL_ok e1 hm g1
    have ql := Sq.len q1
    rw [binV_lst e3]
    split at h
    · split at h
      · rename_i r e2
        obtain ⟨es, e4, q2⟩ := asL_ok e2 hm g2
        have rl := Sq.len q2
        split at h
        · rename_i hc
          have e5 : mkA z (q.app r) P = (c, P') := Option.some.inj h
          dsimp only
          rw [e4]
          dsimp only
          rw [if_pos (by rw [List.length_map, List.length_map]; omega), ← List.map_append]
          have := mkA_ok (z := z) (δ := δ) (Sq.app_ok q1 q2) hm
          rw [e5] at this
          exact this
        · cases h
      · cases h
    · split at h
      · rename_i b'
        obtain ⟨y', rfl, g2⟩ := g2
        split at h
        · rename_i u v e2
          obtain ⟨k, rfl, b1, b2⟩ := asInt_ok e2 g2
          split at h
          · rename_i hc
            obtain ⟨c1, c2, c3⟩ := hc
            have e5 : mkA z (q.rep u v) P = (c, P') := Option.some.inj h
            dsimp only
            have hle : ds.length * k.toNat ≤ LINE := Nat.le_trans (Nat.mul_le_mul ql.2 (by omega)) c3
            rw [if_pos ⟨by omega, by omega, by rw [List.length_map]; exact hle⟩, rep_map]
            have := mkA_ok (z := z) (δ := δ) (Sq.rep_ok q1 b1 b2) hm
            rw [e5] at this
            exact this
          · cases h
        · cases h
      · cases h
    · cases h
  · split at h
    · obtain ⟨s, e1, e2⟩ := Option.map_eq_some_iff.mp h
      cases e2
      obtain ⟨x', rfl, g1⟩ := g1
      obtain ⟨y', rfl, g2⟩ := g2
      obtain ⟨d, e3, hd⟩ := binS_ok (z := z) (m := m) e1 g1 g2
      rw [e3]
      exact .ret hm ⟨d, rfl, hd⟩
    · cases h
end
end Rf

namespace Rf
/-! ### truths -/
def orT : Option (Option Bool) → Option (Option Bool) → Option (Option Bool)
  | some a, some b => some (if a = b then a else none)
  | _, _ => none
def lenT (lo hi : Nat) : Option Bool := if 0 < lo then some true else if hi = 0 then some false else none
def Sh.tr : Sh → Option (Option Bool)
  | .bot => none
  | .con .non => some (some false)
  | .con (.bl b) => some (some b)
  | .con (.int i) => some (some (i != 0))
  | .con (.str s) => some (some (!s.isEmpty))
  | .con (.tup s) => some (some (!s.isEmpty))
  | .con (.lst s) => some (some (!s.isEmpty))
  | .con _ => none
  | .bl => some none
  | .int a b => some (if 0 < a ∨ b < 0 then some true else if a = 0 ∧ b = 0 then some false else none)
  | .big => some none
  | .str lo hi _ => some (lenT lo hi)
  | .tup ss => some (some (!ss.isEmpty))
  | .lst ss => some (some (!ss.isEmpty))
  | .tups lo hi _ => some (lenT lo hi)
  | .lsts lo hi _ => some (lenT lo hi)
  | .nm _ => none
  | .or a b => orT a.tr b.tr
def aTr (a : AV) (P : APl) : Option (Option Bool) :=
  match a with
  | .sh s => s.tr
  | .pl j => ((P[j]?).bind Sh.asLst).map fun q => lenT q.lo q.hi
  | .dk => none
theorem orT_ok {a b : Option (Option Bool)} {r : Option Bool} (h : orT a b = some r) : ∃ x y, a = some x ∧ b = some y ∧ (∀ c, r = some c → x = some c ∧ y = some c) := by
  cases a with
  | none => cases h
  | some x => cases b with
    | none => cases h
    | some y =>
      have h' : (if x = y then x else none) = r := Option.some.inj h
      refine ⟨x, y, rfl, rfl, fun c hc => ?_⟩
      rw [hc] at h'
      split at h'
      · rename_i e
        exact ⟨h', e ▸ h'⟩
      · cases h'
theorem lenT_ok {α : Type} {lo hi : Nat} {xs : List α} (h1 : lo ≤ xs.length) (h2 : xs.length ≤ hi) {c : Bool} (h : lenT lo hi = some c) : (!xs.isEmpty) = c := by
  unfold lenT at h
  split at h
  · cases h
    cases xs with
    | nil => simp at h1; omega
    | cons _ _ => rfl
  split at h
  · cases h
    cases xs with
    | nil => rfl
    | cons _ _ => simp at h2; omega
  · cases h
section
variable {F : Fam} {p : PT} {r0 : Mem} {ρ ρ' : List Nat} {P P' : APl} {m : Mem} {n : Nat} {z : Bool}
theorem tr_ok : ∀ {s : Sh} {d : D} {r : Option Bool}, s.tr = some r → s.has p d → ∃ b, truth m (.d d) = some b ∧ ∀ c, r = some c → b = c
  | .bot, d, r, h, g => by cases h
  | .con e, d, r, h, g => by
    unfold Sh.has at g
    subst g
    cases d <;> first | (cases h; done) | (cases h; exact ⟨_, rfl, fun c hc => Option.some.inj hc⟩)
  | .bl, d, r, h, g => by
    unfold Sh.has at g
    obtain ⟨b, rfl⟩ := g
    cases h
    exact ⟨b, rfl, fun c hc => by cases hc⟩
  | .int a b, d, r, h, g => by
    unfold Sh.has at g
    obtain ⟨i, rfl, g1, g2⟩ := g
    refine ⟨i != 0, rfl, fun c hc => ?_⟩
    have h' : (if 0 < a ∨ b < 0 then some true else if a = 0 ∧ b = 0 then some false else none) = r := Option.some.inj h
    rw [hc] at h'
    split at h'
    · cases h'
      simp
      omega
    split at h'
    · cases h'
      simp
      omega
    · cases h'
  | .big, d, r, h, g => by
    unfold Sh.has at g
    obtain ⟨b, rfl⟩ := g
    cases h
    exact ⟨_, rfl, fun c hc => by cases hc⟩
  | .str lo hi _, d, r, h, g => by
    unfold Sh.has at g
    obtain ⟨s, rfl, g1, g2, _⟩ := g
    exact ⟨_, rfl, fun c hc => lenT_ok g1 g2 (hc ▸ Option.some.inj h)⟩
  | .tup ss, d, r, h, g => by
    unfold Sh.has at g
    obtain ⟨ds, rfl, g⟩ := g
    cases h
    refine ⟨_, rfl, fun c hc => ?_⟩
    cases hc
    have := hasL_len g
    cases ss <;> cases ds <;> first | rfl | simp at this
  | .lst ss, d, r, h, g => by
    unfold Sh.has at g
    obtain ⟨ds, rfl, g⟩ := g
    cases h
    refine ⟨_, rfl, fun c hc => ?_⟩
    cases hc
    have := hasL_len g
    cases ss <;> cases ds <;> first | rfl | simp at this
  | .tups lo hi _, d, r, h, g => by
    unfold Sh.has at g
    obtain ⟨s, rfl, g1, g2, _⟩ := g
    exact ⟨_, rfl, fun c hc => lenT_ok g1 g2 (hc ▸ Option.some.inj h)⟩
  | .lsts lo hi _, d, r, h, g => by
    unfold Sh.has at g
    obtain ⟨s, rfl, g1, g2, _⟩ := g
    exact ⟨_, rfl, fun c hc => lenT_ok g1 g2 (hc ▸ Option.some.inj h)⟩
  | .nm _, _, _, h, _ => by cases h
  | .or a b, d, r, h, g => by
    obtain ⟨x, y, e1, e2, e3⟩ := orT_ok (show orT a.tr b.tr = some r from h)
    unfold Sh.has at g
    rcases g with g | g
    · obtain ⟨b, h1, h2⟩ := tr_ok e1 g
      exact ⟨b, h1, fun c hc => h2 c (e3 c hc).1⟩
    · obtain ⟨b, h1, h2⟩ := tr_ok e2 g
      exact ⟨b, h1, fun c hc => h2 c (e3 c hc).2⟩
theorem aTr_ok {a : AV} {v : Val} {r : Option Bool} (h : aTr a P = some r) (hm : MR F p r0 ρ P m n) (g : a.has F p ρ v) : ∃ b, truth m v = some b ∧ ∀ c, r = some c → b = c := by
  cases a with
  | sh s =>
    obtain ⟨d, rfl, g⟩ := g
    exact tr_ok h g
  | dk => cases h
  | pl j =>
    obtain ⟨q, e, rfl⟩ := Option.map_eq_some_iff.mp (show ((P[j]?).bind Sh.asLst).map _ = some r from h)
    obtain ⟨i, g1, rfl⟩ := g
    obtain ⟨s, h1, h2⟩ := Option.bind_eq_some_iff.mp e
    obtain ⟨ds, h3, h4⟩ := hm.at_ j i s g1 h1
    obtain ⟨es, h5, h6⟩ := asLst_ok h2 h4
    cases h5
    have hl := Sq.len h6
    refine ⟨!(ds.map Val.d).isEmpty, ?_, fun c hc => lenT_ok (by rw [List.length_map]; exact hl.1) (by rw [List.length_map]; exact hl.2) hc⟩
    show (match m[i]? with
      | some (.lst vs) => some (!vs.isEmpty)
      | _ => none) = _
    rw [h3]
end
/-! ### kinds -/
def Sh.isT (ts : List Ty) : Sh → Option (Option Bool)
  | .bot => none
  | .con d => (kdOf [] (.d d)).map fun k => some (ts.any fun t => tyB t k)
  | .bl => some (some (ts.any fun t => tyB t .bool))
  | .int _ _ => some (some (ts.any fun t => tyB t .int))
  | .big => some (some (ts.any fun t => tyB t .int))
  | .str _ _ _ => some (some (ts.any fun t => tyB t .str))
  | .tup _ => some (some (ts.any fun t => tyB t .tuple))
  | .tups _ _ _ => some (some (ts.any fun t => tyB t .tuple))
  | .lst _ => some (some (ts.any fun t => tyB t .list))
  | .lsts _ _ _ => some (some (ts.any fun t => tyB t .list))
  | .nm _ => none
  | .or a b => orT (a.isT ts) (b.isT ts)
def trS : Option Bool → Sh
  | some b => .con (.bl b)
  | none => .bl
theorem trS_ok {p : PT} {r : Option Bool} {b : Bool} (h : ∀ c, r = some c → b = c) : (trS r).has p (.bl b) := by
  cases r with
  | none => show Sh.has p .bl _; unfold Sh.has; exact ⟨_, rfl⟩
  | some c => show Sh.has p (.con (.bl c)) _; unfold Sh.has; rw [h c rfl]
theorem kd_mem {m : Mem} {d : D} : kdOf m (.d d) = kdOf [] (.d d) := by cases d <;> rfl
theorem isT_ok {p : PT} {m : Mem} {ts : List Ty} : ∀ {s : Sh} {d : D} {r : Option Bool}, s.isT ts = some r → s.has p d → ∃ k, kdOf m (.d d) = some k ∧ ∀ c, r = some c → (ts.any fun t => tyB t k) = c
  | .bot, d, r, h, g => by cases h
  | .con e, d, r, h, g => by
    unfold Sh.has at g
    subst g
    obtain ⟨k, h1, h2⟩ := Option.map_eq_some_iff.mp (show (kdOf [] (.d d)).map _ = some r from h)
    exact ⟨k, kd_mem.trans h1, fun c hc => by rw [← h2] at hc; exact Option.some.inj hc⟩
  | .bl, d, r, h, g => by
    unfold Sh.has at g
    obtain ⟨b, rfl⟩ := g
    cases h
    exact ⟨_, rfl, fun c hc => Option.some.inj hc⟩
  | .int a b, d, r, h, g => by
    unfold Sh.has at g
    obtain ⟨i, rfl, g1, g2⟩ := g
    cases h
    exact ⟨_, rfl, fun c hc => Option.some.inj hc⟩
  | .big, d, r, h, g => by
    unfold Sh.has at g
    obtain ⟨b, rfl⟩ := g
    cases h
    exact ⟨_, rfl, fun c hc => Option.some.inj hc⟩
  | .str lo hi _, d, r, h, g => by
    unfold Sh.has at g
    obtain ⟨s, rfl, g1, g2, _⟩ := g
    cases h
    exact ⟨_, rfl, fun c hc => Option.some.inj hc⟩
  | .tup ss, d, r, h, g => by
    unfold Sh.has at g
    obtain ⟨ds, rfl, g⟩ := g
    cases h
    exact ⟨_, rfl, fun c hc => Option.some.inj hc⟩
  | .lst ss, d, r, h, g => by
    unfold Sh.has at g
    obtain ⟨ds, rfl, g⟩ := g
    cases h
    exact ⟨_, rfl, fun c hc => Option.some.inj hc⟩
  | .tups lo hi _, d, r, h, g => by
    unfold Sh.has at g
    obtain ⟨s, rfl, g1, g2, _⟩ := g
    cases h
    exact ⟨_, rfl, fun c hc => Option.some.inj hc⟩
  | .lsts lo hi _, d, r, h, g => by
    unfold Sh.has at g
    obtain ⟨s, rfl, g1, g2, _⟩ := g
    cases h
    exact ⟨_, rfl, fun c hc => Option.some.inj hc⟩
  | .nm _, _, _, h, _ => by cases h
  | .or a b, d, r, h, g => by
    obtain ⟨x, y, e1, e2, e3⟩ := orT_ok (show orT (a.isT ts) (b.isT ts) = some r from h)
    unfold Sh.has at g
    rcases g with g | g
    · obtain ⟨b, h1, h2⟩ := isT_ok e1 g
      exact ⟨b, h1, fun c hc => h2 c (e3 c hc).1⟩
    · obtain ⟨b, h1, h2⟩ := isT_ok e2 g
      exact ⟨b, h1, fun c hc => h2 c (e3 c hc).2⟩

/-! ### comparisons -/
def cmpAI (o : Cop) (x y u v : Int) : Option (Option Bool) :=
  match o with
  | .lt => some (if y < u then some true else if v ≤ x then some false else none)
  | .le => some (if y ≤ u then some true else if v < x then some false else none)
  | .gt => some (if v < x then some true else if y ≤ u then some false else none)
  | .ge => some (if v ≤ x then some true else if y < u then some false else none)
  | .eq => some (if y < u ∨ v < x then some false else if x = y ∧ u = v ∧ x = u then some true else none)
  | .ne => some (if y < u ∨ v < x then some true else if x = y ∧ u = v ∧ x = u then some false else none)
  | _ => none
theorem cmpAI_ok {o : Cop} {x y u v i j : Int} {r : Option Bool} (h : cmpAI o x y u v = some r) (h1 : x ≤ i) (h2 : i ≤ y) (k1 : u ≤ j) (k2 : j ≤ v) : ∃ b, cmpI o i j = some b ∧ ∀ c, r = some c → b = c := by
  have key : ∀ {A B : Prop} [Decidable A] [Decidable B] {b a1 a2 : Bool}, (A → b = a1) → (B → ¬ A → b = a2) → ∀ c, (if A then some a1 else if B then some a2 else none) = some c → b = c := by
    intro A B _ _ b a1 a2 g1 g2 c hc
    split at hc
    · rename_i ha; cases hc; exact g1 ha
    split at hc
    · rename_i ha hb; cases hc; exact g2 hb ha
    · cases hc
  cases o with
  | lt => cases h; exact ⟨decide (i < j), rfl, key (fun h => by simp; omega) (fun h _ => by simp; omega)⟩
  | le => cases h; exact ⟨decide (i ≤ j), rfl, key (fun h => by simp; omega) (fun h _ => by simp; omega)⟩
  | gt => cases h; exact ⟨decide (j < i), rfl, key (fun h => by simp; omega) (fun h _ => by simp; omega)⟩
  | ge => cases h; exact ⟨decide (j ≤ i), rfl, key (fun h => by simp; omega) (fun h _ => by simp; omega)⟩
  | eq => cases h; exact ⟨decide (i = j), rfl, key (fun h => by simp; omega) (fun h _ => by simp; omega)⟩
  | ne => cases h; exact ⟨!decide (i = j), rfl, key (fun h => by simp; omega) (fun h _ => by simp; omega)⟩
  | is => cases h
  | isNot => cases h
  | isIn => cases h
  | notIn => cases h
def Sh.noNon : Sh → Bool
  | .bot => true
  | .con .non => false
  | .con _ => true
  | .nm _ => false
  | .or a b => a.noNon && b.noNon
  | _ => true
theorem noNon_ok {p : PT} : ∀ {s : Sh} {d : D}, s.noNon = true → s.has p d → isNon d = false
  | .bot, d, _, g => by unfold Sh.has at g; exact g.elim
  | .con e, d, h, g => by unfold Sh.has at g; subst g; cases d <;> first | rfl | cases h
  | .bl, d, _, g => by unfold Sh.has at g; obtain ⟨b, rfl⟩ := g; rfl
  | .int _ _, d, _, g => by unfold Sh.has at g; obtain ⟨b, rfl, _⟩ := g; rfl
  | .big, d, _, g => by unfold Sh.has at g; obtain ⟨b, rfl⟩ := g; rfl
  | .str _ _ _, d, _, g => by unfold Sh.has at g; obtain ⟨b, rfl, _⟩ := g; rfl
  | .tup _, d, _, g => by unfold Sh.has at g; obtain ⟨b, rfl, _⟩ := g; rfl
  | .tups _ _ _, d, _, g => by unfold Sh.has at g; obtain ⟨b, rfl, _⟩ := g; rfl
  | .lst _, d, _, g => by unfold Sh.has at g; obtain ⟨b, rfl, _⟩ := g; rfl
  | .lsts _ _ _, d, _, g => by unfold Sh.has at g; obtain ⟨b, rfl, _⟩ := g; rfl
  | .nm _, d, h, _ => by cases h
  | .or a b, d, h, g => by
    unfold Sh.noNon at h
    rw [Bool.and_eq_true] at h
    unfold Sh.has at g
    exact g.elim (noNon_ok h.1) (noNon_ok h.2)
def notT : Option Bool → Option Bool := Option.map (!·)
/-- texts, rows of plain data: is it in there -/
def inS (a b : Sh) : Bool :=
  match a.asStr, b.asStr with
  | some _, some _ => true
  | _, _ => a.plB && decide (a.dpB ≤ 60) && b.plB && (b.asTup.isSome || b.asLst.isSome)
def isS (a b : Sh) : Option (Option Bool) :=
  match b with
  | .con .non => some (match a with
    | .con .non => some true
    | a => if a.noNon then some false else none)
  | b => if a.asBl && b.asBl then some none else none
def eqS (a b : Sh) : Option (Option Bool) :=
  if a.plB && b.plB && (decide (a.dpB ≤ 60) || decide (b.dpB ≤ 60)) then
    some (match a, b with
    | .con (.str x), .con (.str y) => some (x == y)
    | _, _ => none)
  else none
def cmpSh (o : Cop) (a b : Sh) : Option (Option Bool) :=
  match a.asInt, b.asInt with
  | some (x, y), some (u, v) => cmpAI o x y u v
  | _, _ => match o with
    | .eq => eqS a b
    | .ne => (eqS a b).map notT
    | .is => isS a b
    | .isNot => (isS a b).map notT
    | .isIn => if inS a b then some none else none
    | .notIn => if inS a b then some none else none
    | _ => none
theorem eqS_ok {p : PT} {a b : Sh} {x y : D} {r : Option Bool} (h : eqS a b = some r) (g1 : a.has p x) (g2 : b.has p y) : ∃ c, cmpD .eq x y = some c ∧ cmpD .ne x y = some (!c) ∧ ∀ k, r = some k → c = k := by
  unfold eqS at h
  split at h
  · rename_i hc
    simp only [Bool.and_eq_true, Bool.or_eq_true, decide_eq_true_eq] at hc
    obtain ⟨⟨h1, h2⟩, h3⟩ := hc
    obtain ⟨p1, p2⟩ := plB_ok h1 g1
    obtain ⟨q1, q2⟩ := plB_ok h2 g2
    have ok : eqOk x y = true := by
      unfold eqOk
      rw [p1, q1]
      simp only [Bool.true_and, Bool.or_eq_true, decide_eq_true_eq]
      omega
    have e1 : cmpD .eq x y = some (D.eq x y) := by
      cases x <;> cases y <;> first | (unfold cmpD; simp only [ok, if_true]; done) | rfl
    have e2 : cmpD .ne x y = some (!D.eq x y) := by
      cases x <;> cases y <;> first | (unfold cmpD; simp only [ok, if_true]; done) | rfl
    refine ⟨_, e1, e2, fun k hk => ?_⟩
    cases h
    split at hk
    · unfold Sh.has at g1 g2
      subst g1 g2
      cases hk
      rfl
    · cases hk
  · cases h
theorem isS_ok {p : PT} {a b : Sh} {x y : D} {r : Option Bool} (h : isS a b = some r) (g1 : a.has p x) (g2 : b.has p y) : ∃ c, cmpD .is x y = some c ∧ cmpD .isNot x y = some (!c) ∧ ∀ k, r = some k → c = k := by
  unfold isS at h
  split at h
  · unfold Sh.has at g2
    subst g2
    cases h
    refine ⟨isNon x, by cases x <;> rfl, by cases x <;> rfl, fun k hk => ?_⟩
    split at hk
    · unfold Sh.has at g1
      subst g1
      cases hk
      rfl
    · split at hk
      · rename_i hn
        cases hk
        exact noNon_ok hn g1
      · cases hk
  · split at h
    · rename_i hb
      rw [Bool.and_eq_true] at hb
      obtain ⟨u, rfl⟩ := asBl_ok hb.1 g1
      obtain ⟨w, rfl⟩ := asBl_ok hb.2 g2
      cases h
      exact ⟨_, rfl, rfl, fun k hk => by cases hk⟩
    · cases h
theorem inS_ok {p : PT} {a b : Sh} {x y : D} (h : inS a b = true) (g1 : a.has p x) (g2 : b.has p y) : ∃ c, cmpD .isIn x y = some c ∧ cmpD .notIn x y = some (!c) := by
  have fin : ∀ c, inB x y = some c → (∀ i j, ¬ (x = .int i ∧ y = .int j)) → ∃ c, cmpD .isIn x y = some c ∧ cmpD .notIn x y = some (!c) := by
    intro c hc hn
    have e1 : cmpD .isIn x y = inB x y := by
      cases x <;> cases y <;> first | rfl | exact (hn _ _ ⟨rfl, rfl⟩).elim
    have e2 : cmpD .notIn x y = (inB x y).map fun c => !c := by
      cases x <;> cases y <;> first | rfl | exact (hn _ _ ⟨rfl, rfl⟩).elim
    rw [e1, e2, hc]
    exact ⟨c, rfl, rfl⟩
  unfold inS at h
  split at h
  · rename_i q1 q2 e1 e2
    obtain ⟨l1, h1, c1⟩ := q1
    obtain ⟨l2, h2, c2⟩ := q2
    obtain ⟨t, rfl, _⟩ := asStr_ok e1 g1
    obtain ⟨u, rfl, _⟩ := asStr_ok e2 g2
    exact fin _ rfl (fun i j h => by cases h.1)
  · simp only [Bool.and_eq_true, Bool.or_eq_true, decide_eq_true_eq] at h
    obtain ⟨⟨⟨h1, h2⟩, h3⟩, h4⟩ := h
    obtain ⟨p1, p2⟩ := plB_ok h1 g1
    obtain ⟨q1, _⟩ := plB_ok h3 g2
    have hd : D.dep x ≤ 60 := by omega
    rcases h4 with h4 | h4
    · obtain ⟨q, e⟩ := Option.isSome_iff_exists.mp h4
      obtain ⟨ds, rfl, _⟩ := asTup_ok e g2
      refine fin (inD x ds) ?_ (fun i j h => by cases h.2)
      show (if D.pl x && D.pls ds && decide (D.dep x ≤ 60) then some (inD x ds) else none) = _
      have : D.pls ds = true := q1
      rw [p1, this, decide_eq_true hd]
      rfl
    · obtain ⟨q, e⟩ := Option.isSome_iff_exists.mp h4
      obtain ⟨ds, rfl, _⟩ := asLst_ok e g2
      refine fin (inD x ds) ?_ (fun i j h => by cases h.2)
      show (if D.pl x && D.pls ds && decide (D.dep x ≤ 60) then some (inD x ds) else none) = _
      have : D.pls ds = true := q1
      rw [p1, this, decide_eq_true hd]
      rfl
theorem cmpSh_ok {p : PT} {o : Cop} {a b : Sh} {x y : D} {r : Option Bool} (h : cmpSh o a b = some r) (g1 : a.has p x) (g2 : b.has p y) : ∃ c, cmpD o x y = some c ∧ ∀ k, r = some k → c = k := by
  unfold cmpSh at h
  split at h
  · rename_i x' y' u v e1 e2
    obtain ⟨i, rfl, h1, h2⟩ := asInt_ok e1 g1
    obtain ⟨j, rfl, k1, k2⟩ := asInt_ok e2 g2
    obtain ⟨c, hc, hr⟩ := cmpAI_ok h h1 h2 k1 k2
    exact ⟨c, hc, hr⟩
  · split at h
    · obtain ⟨c, h1, _, h3⟩ := eqS_ok h g1 g2
      exact ⟨c, h1, h3⟩
    · obtain ⟨q, e1, rfl⟩ := Option.map_eq_some_iff.mp h
      obtain ⟨c, _, h2, h3⟩ := eqS_ok e1 g1 g2
      refine ⟨!c, h2, fun k hk => ?_⟩
      obtain ⟨k', rfl, rfl⟩ := Option.map_eq_some_iff.mp hk
      rw [h3 k' rfl]
    · obtain ⟨c, h1, _, h3⟩ := isS_ok h g1 g2
      exact ⟨c, h1, h3⟩
    · obtain ⟨q, e1, rfl⟩ := Option.map_eq_some_iff.mp h
      obtain ⟨c, _, h2, h3⟩ := isS_ok e1 g1 g2
      refine ⟨!c, h2, fun k hk => ?_⟩
      obtain ⟨k', rfl, rfl⟩ := Option.map_eq_some_iff.mp hk
      rw [h3 k' rfl]
    · split at h
      · rename_i hi
        obtain ⟨c, h1, _⟩ := inS_ok hi g1 g2
        cases h
        exact ⟨c, h1, fun k hk => by cases hk⟩
      · cases h
    · split at h
      · rename_i hi
        obtain ⟨c, _, h1⟩ := inS_ok hi g1 g2
        cases h
        exact ⟨_, h1, fun k hk => by cases hk⟩
      · cases h
    · cases h
def aCmp (o : Cop) (a b : AV) : Option (Option Bool) :=
  match a, b with
  | .sh a, .sh b => cmpSh o a b
  | _, _ => none
theorem aCmp_ok {F : Fam} {p : PT} {ρ : List Nat} {m : Mem} {o : Cop} {a b : AV} {x y : Val} {r : Option Bool} (h : aCmp o a b = some r) (g1 : a.has F p ρ x) (g2 : b.has F p ρ y) : ∃ c, cmpV o x y m = .ok c m ∧ ∀ k, r = some k → c = k := by
  unfold aCmp at h
  split at h
  · obtain ⟨x, rfl, g1⟩ := g1
    obtain ⟨y, rfl, g2⟩ := g2
    obtain ⟨c, h1, h2⟩ := cmpSh_ok h g1 g2
    refine ⟨c, ?_, h2⟩
    show R.opt (cmpD o x y) m = _
    rw [h1]
    rfl
  · cases h

/-! ### items, stretches -/
def allBits : Nat := 2 ^ 128 - 1
def aIdx (a i : AV) (P : APl) : Option Sh :=
  match i with
  | .sh i => match i.asInt with
    | some (x, y) => match asL a P with
      | some q => q.at x y
      | none => match a with
        | .sh s => match s.asStr with
          | some (l, _, c) => if -(l : Int) ≤ x ∧ y < (l : Int) ∧ x ≤ y then
              (match s with
              | .con (.str t) => if x = y ∧ 0 ≤ x then (t[x.toNat]?).map fun c => .con (.str [c]) else some (.str 1 1 c)
              | _ => some (.str 1 1 c))
            else none
          | none => match s.asTup with
            | some q => q.at x y
            | none => none
        | _ => none
    | none => none
  | _ => none
def aPart (b : Bool) (a : AV) : Option (Option (Int × Int)) :=
  match b with
  | true => match a with
    | .sh s => (s.asInt).map some
    | _ => none
  | false => some none
def aSlc (z : Bool) (a : AV) (lo hi : Option (Int × Int)) (P : APl) : Option (AV × APl) :=
  match asL a P with
  | some q => some (mkA z (q.cut lo hi) P)
  | none => match a with
    | .sh s => match s.asStr with
      | some (l, h, c) => some (.sh (.str (cutN l h lo hi).1 (cutN l h lo hi).2 c), P)
      | none => match s.asTup with
        | some q => some (.sh (q.cut lo hi).tup, P)
        | none => none
    | _ => none
def aRev (z : Bool) (a : AV) (P : APl) : Option (AV × APl) :=
  match asL a P with
  | some q => some (mkA z q.rev P)
  | none => match a with
    | .sh s => match s.asTup with
      | some q => some (.sh q.rev.tup, P)
      | none => none
    | _ => none
section
variable {F : Fam} {p : PT} {r0 : Mem} {ρ ρ' : List Nat} {P P' : APl} {m : Mem} {n : Nat} {z : Bool}
theorem idx_lst {v : Val} {xs : List Val} {k : Int} (h : lstOf m v = some xs) : idxK m v (.d (.int k)) = atL xs k := by
  cases v with
  | d d =>
    cases d with
    | lst ds =>
      cases h
      show (atL ds k).map Val.d = atL (ds.map Val.d) k
      unfold atL
      rw [List.length_map]
      cases ixOf ds.length k with
      | none => rfl
      | some j => simp
    | non => cases h
    | bl b => cases h
    | int i => cases h
    | str s => cases h
    | tup _ => cases h
    | dct _ => cases h
    | set _ => cases h
    | scr _ => cases h
    | fn _ => cases h
    | obj _ _ => cases h
  | r i =>
    have h' : (match m[i]? with
      | some (.lst vs) => some vs
      | _ => none) = some xs := h
    show (match m[i]? with
      | some (.lst vs) => atL vs k
      | _ => none) = _
    split at h'
    · cases h'; rfl
    · cases h'
theorem atL_map {α β : Type} {f : α → β} {xs : List α} {k : Int} : atL (xs.map f) k = (atL xs k).map f := by
  unfold atL
  rw [List.length_map]
  cases ixOf xs.length k with
  | none => rfl
  | some j => simp
theorem aIdx_ok {a i : AV} {x y : Val} {s : Sh} (h : aIdx a i P = some s) (hm : MR F p r0 ρ P m n) (g1 : a.has F p ρ x) (g2 : i.has F p ρ y) : ∃ d, idxK m x y = some (.d d) ∧ s.has p d := by
  unfold aIdx at h
  split at h
  · rename_i i
    obtain ⟨y, rfl, g2⟩ := g2
    split at h
    · rename_i u v e1
      obtain ⟨k, rfl, k1, k2⟩ := asInt_ok e1 g2
      split at h
      · rename_i q e2
        obtain ⟨ds, e3, q1⟩ := asL_ok e2 hm g1
        obtain ⟨d, e4, hd⟩ := Sq.at_ok q1 h k1 k2
        refine ⟨d, ?_, hd⟩
        rw [idx_lst e3, atL_map, e4]
        rfl
      · split at h
        · rename_i s'
          obtain ⟨x, rfl, g1⟩ := g1
          split at h
          · rename_i l hh c e2
            obtain ⟨t, rfl, t1, t2, t3⟩ := asStr_ok e2 g1
            split at h
            · rename_i hc
              obtain ⟨j, ch, e4, e5, e6⟩ := atL_in (xs := t) (i := k) (by omega) (by omega)
              have hin := t3 ch (List.mem_of_getElem? e5)
              have e7 : idxK m (.d (.str t)) (.d (.int k)) = some (.d (.str [ch])) := by
                show (atL t k).map (fun c => Val.d (.str [c])) = _
                rw [e4]
                rfl
              have gen : Sh.has p (.str 1 1 c) (.str [ch]) := by
                unfold Sh.has
                exact ⟨[ch], rfl, Nat.le_refl _, Nat.le_refl _, fun w hw => by rw [List.mem_singleton.mp hw]; exact hin⟩
              refine ⟨_, e7, ?_⟩
              split at h
              · split at h
                · rename_i hx
                  obtain ⟨w, hw, hw2⟩ := Option.map_eq_some_iff.mp h
                  subst hw2
                  unfold Sh.has at g1
                  cases g1
                  have : j = u.toNat := by rcases e6 with e6 | e6 <;> omega
                  rw [this, hw] at e5
                  cases e5
                  unfold Sh.has
                  rfl
                · cases h; exact gen
              · cases h; exact gen
            · cases h
          · split at h
            · rename_i q e2
              obtain ⟨ds, rfl, q1⟩ := asTup_ok e2 g1
              obtain ⟨d, e4, hd⟩ := Sq.at_ok q1 h k1 k2
              refine ⟨d, ?_, hd⟩
              show (atL ds k).map Val.d = _
              rw [e4]
              rfl
            · cases h
        · cases h
    · cases h
  · cases h
theorem aPart_ok {b : Bool} {a : AV} {v : Val} {r : Option (Int × Int)} (h : aPart b a = some r) (g : a.has F p ρ v) : ∃ w, partV b v = some w ∧ inR r w := by
  cases b with
  | false =>
    cases h
    exact ⟨none, pv_f, trivial⟩
  | true =>
    cases a with
    | sh s =>
      obtain ⟨⟨x, y⟩, e, rfl⟩ := Option.map_eq_some_iff.mp (show (s.asInt).map some = some r from h)
      obtain ⟨d, rfl, g⟩ := g
      obtain ⟨k, rfl, k1, k2⟩ := asInt_ok e g
      exact ⟨some k, rfl, k1, k2⟩
    | dk => cases h
    | pl _ => cases h
theorem slc_lst {v : Val} {xs : List Val} {l h : Option Int} (e : lstOf m v = some xs) : slcV z v l h m = mkL z (cut xs l h) m := by
  cases v with
  | d d =>
    cases d with
    | lst ds => cases e; rfl
    | non => cases e
    | bl b => cases e
    | int i => cases e
    | str s => cases e
    | tup _ => cases e
    | dct _ => cases e
    | set _ => cases e
    | scr _ => cases e
    | fn _ => cases e
    | obj _ _ => cases e
  | r i =>
    show (match lstOf m (.r i) with
      | some vs => mkL z (cut vs l h) m
      | none => .no) = _
    rw [e]
theorem rev_lst {v : Val} {xs : List Val} (e : lstOf m v = some xs) : revV z v m = mkL z xs.reverse m := by
  cases v with
  | d d =>
    cases d with
    | lst ds => cases e; rfl
    | non => cases e
    | bl b => cases e
    | int i => cases e
    | str s => cases e
    | tup _ => cases e
    | dct _ => cases e
    | set _ => cases e
    | scr _ => cases e
    | fn _ => cases e
    | obj _ _ => cases e
  | r i =>
    show (match lstOf m (.r i) with
      | some vs => mkL z vs.reverse m
      | none => .no) = _
    rw [e]
theorem aSlc_ok {a c : AV} {x : Val} {lo hi : Option (Int × Int)} {l h : Option Int} {δ : Nat} (e : aSlc z a lo hi P = some (c, P')) (hm : MR F p r0 ρ P m n) (g : a.has F p ρ x) (h1 : inR lo l) (h2 : inR hi h) :
    Po F p r0 ρ n (slcV z x l h m) P' δ (fun ρ' v => c.has F p ρ' v) := by
  unfold aSlc at e
  split at e
  · rename_i q e1
    obtain ⟨ds, e3, q1⟩ := asL_ok e1 hm g
    have e5 : mkA z (q.cut lo hi) P = (c, P') := Option.some.inj e
    rw [slc_lst e3, cut_map]
    have := mkA_ok (z := z) (δ := δ) (Sq.cut_ok q1 h1 h2) hm
    rw [e5] at this
    exact this
  · split at e
    · obtain ⟨x, rfl, g⟩ := g
      split at e
      · rename_i l' h' c' e2
        obtain ⟨t, rfl, t1, t2, t3⟩ := asStr_ok e2 g
        cases e
        have hl := cutN_ok (xs := t) t1 t2 h1 h2
        refine .ret hm ⟨.str (cut t l h), rfl, ?_⟩
        unfold Sh.has
        exact ⟨_, rfl, hl.1, hl.2, fun k hk => t3 k (cut_memA hk)⟩
      · split at e
        · rename_i q e2
          obtain ⟨ds, rfl, q1⟩ := asTup_ok e2 g
          cases e
          exact .ret hm ⟨.tup (cut ds l h), rfl, Sq.tup_ok (Sq.cut_ok q1 h1 h2)⟩
        · cases e
    · cases e
theorem aRev_ok {a c : AV} {x : Val} {δ : Nat} (e : aRev z a P = some (c, P')) (hm : MR F p r0 ρ P m n) (g : a.has F p ρ x) :
    Po F p r0 ρ n (revV z x m) P' δ (fun ρ' v => c.has F p ρ' v) := by
  unfold aRev at e
  split at e
  · rename_i q e1
    obtain ⟨ds, e3, q1⟩ := asL_ok e1 hm g
    have e5 : mkA z q.rev P = (c, P') := Option.some.inj e
    rw [rev_lst e3, ← List.map_reverse]
    have := mkA_ok (z := z) (δ := δ) (Sq.rev_ok q1) hm
    rw [e5] at this
    exact this
  · split at e
    · obtain ⟨x, rfl, g⟩ := g
      split at e
      · rename_i q e2
        obtain ⟨ds, rfl, q1⟩ := asTup_ok e2 g
        cases e
        exact .ret hm ⟨.tup ds.reverse, rfl, Sq.tup_ok (Sq.rev_ok q1)⟩
      · cases e
    · cases e
end
end Rf

namespace Rf
/-! ### built-ins and methods -/
theorem ints_ofA {p : PT} {s : Sh} {x y : Int} (h : s.asInt = some (x, y)) : ∀ {ds : List D}, (∀ d ∈ ds, s.has p d) → ∃ ns : List Int, ds = ns.map .int ∧ ∀ i ∈ ns, x ≤ i ∧ i ≤ y
  | [], _ => ⟨[], rfl, fun _ h => by cases h⟩
  | d :: ds, g => by
    obtain ⟨i, rfl, h1, h2⟩ := asInt_ok h (g d List.mem_cons_self)
    obtain ⟨ns, rfl, h3⟩ := ints_ofA h fun d hd => g d (List.mem_cons_of_mem _ hd)
    refine ⟨i :: ns, rfl, fun j hj => ?_⟩
    rcases List.mem_cons.mp hj with rfl | hj
    · exact ⟨h1, h2⟩
    · exact h3 j hj
theorem strs_ofA {p : PT} {s : Sh} {l u c : Nat} (h : s.asStr = some (l, u, c)) : ∀ {ds : List D}, (∀ d ∈ ds, s.has p d) → ∃ ts : List (List Nat), ds = ts.map .str ∧ ∀ t ∈ ts, l ≤ t.length ∧ t.length ≤ u ∧ (∀ k ∈ t, inC c k = true) ∧ s.has p (.str t)
  | [], _ => ⟨[], rfl, fun _ h => by cases h⟩
  | d :: ds, g => by
    obtain ⟨t, rfl, h1, h2, h3⟩ := asStr_ok h (g d List.mem_cons_self)
    obtain ⟨ts, rfl, h4⟩ := strs_ofA h fun d hd => g d (List.mem_cons_of_mem _ hd)
    refine ⟨t :: ts, rfl, fun j hj => ?_⟩
    rcases List.mem_cons.mp hj with rfl | hj
    · exact ⟨h1, h2, h3, g _ List.mem_cons_self⟩
    · exact h4 j hj
theorem bls_ofA {p : PT} {s : Sh} (h : s.asBl = true) : ∀ {ds : List D}, (∀ d ∈ ds, s.has p d) → ∃ ts : List Bool, ds = ts.map .bl
  | [], _ => ⟨[], rfl⟩
  | d :: ds, g => by
    obtain ⟨t, rfl⟩ := asBl_ok h (g d List.mem_cons_self)
    obtain ⟨ts, rfl⟩ := bls_ofA h fun d hd => g d (List.mem_cons_of_mem _ hd)
    exact ⟨t :: ts, rfl⟩
theorem sum_range {x y : Int} : ∀ {ns : List Int}, (∀ i ∈ ns, x ≤ i ∧ i ≤ y) → (ns.length : Int) * x ≤ ns.sum ∧ ns.sum ≤ (ns.length : Int) * y
  | [], _ => by simp
  | i :: ns, h => by
    obtain ⟨a, b⟩ := sum_range fun j hj => h j (List.mem_cons_of_mem _ hj)
    obtain ⟨c, d⟩ := h i List.mem_cons_self
    rw [List.length_cons, List.sum_cons, Int.natCast_add, Int.add_mul, Int.add_mul]
    omega
theorem insS_len {x : List Nat} : ∀ {l : List (List Nat)}, (insS x l).length = l.length + 1
  | [] => rfl
  | y :: ys => by
    unfold insS
    split
    · rw [List.length_cons, insS_len]; rfl
    · rfl
theorem insS_mem {x t : List Nat} : ∀ {l : List (List Nat)}, t ∈ insS x l → t = x ∨ t ∈ l
  | [], h => .inl (List.mem_singleton.mp h)
  | y :: ys, h => by
    unfold insS at h
    split at h
    · rcases List.mem_cons.mp h with rfl | h
      · exact .inr List.mem_cons_self
      · exact (insS_mem h).imp id (List.mem_cons_of_mem _)
    · exact List.mem_cons.mp h
theorem sortS_len : ∀ {l : List (List Nat)}, (sortS l).length = l.length
  | [] => rfl
  | x :: xs => by
    show (insS x (sortS xs)).length = _
    rw [insS_len, sortS_len]
    rfl
theorem sortS_mem {t : List Nat} : ∀ {l : List (List Nat)}, t ∈ sortS l → t ∈ l
  | [], h => h
  | x :: xs, h => by
    rcases insS_mem (show t ∈ insS x (sortS xs) from h) with rfl | h
    · exact List.mem_cons_self
    · exact List.mem_cons_of_mem _ (sortS_mem h)
theorem joinL_len {sep : List Nat} : ∀ {ts : List (List Nat)}, (ts.map List.length).sum ≤ (joinL sep ts).length ∧ (joinL sep ts).length ≤ (ts.map List.length).sum + ts.length * sep.length
  | [] => by simp [joinL]
  | [x] => by simp [joinL]
  | x :: y :: r => by
    have ih := joinL_len (sep := sep) (ts := y :: r)
    show _ ≤ (x ++ sep ++ joinL sep (y :: r)).length ∧ (x ++ sep ++ joinL sep (y :: r)).length ≤ _
    rw [List.map_cons, List.sum_cons, List.length_append, List.length_append, List.length_cons, Nat.add_mul]
    omega
theorem joinL_mem {sep : List Nat} {c : Nat} : ∀ {ts : List (List Nat)}, c ∈ joinL sep ts → c ∈ sep ∨ ∃ t ∈ ts, c ∈ t
  | [], h => by simp [joinL] at h
  | [x], h => .inr ⟨x, List.mem_singleton_self _, h⟩
  | x :: y :: r, h => by
    have h' : c ∈ x ++ sep ++ joinL sep (y :: r) := h
    rcases List.mem_append.mp h' with h | h
    · rcases List.mem_append.mp h with h | h
      · exact .inr ⟨x, List.mem_cons_self, h⟩
      · exact .inl h
    · rcases joinL_mem h with h | ⟨t, h1, h2⟩
      · exact .inl h
      · exact .inr ⟨t, List.mem_cons_of_mem _ h1, h2⟩
theorem lens_sum {l u : Nat} : ∀ {ts : List (List Nat)}, (∀ t ∈ ts, l ≤ t.length ∧ t.length ≤ u) → ts.length * l ≤ (ts.map List.length).sum ∧ (ts.map List.length).sum ≤ ts.length * u
  | [], _ => by simp
  | x :: r, h => by
    have ih := lens_sum fun t ht => h t (List.mem_cons_of_mem _ ht)
    have := h x List.mem_cons_self
    rw [List.map_cons, List.sum_cons, List.length_cons, Nat.add_mul, Nat.add_mul]
    omega
theorem minL_mem : ∀ {ns : List Int}, ns ≠ [] → ∃ i, minL ns = some i ∧ i ∈ ns
  | [], h => (h rfl).elim
  | x :: xs, _ => by
    refine ⟨_, rfl, ?_⟩
    have : ∀ (l : List Int) (a : Int), l.foldl (fun a b => if b < a then b else a) a ∈ a :: l := by
      intro l
      induction l with
      | nil => intro a; exact List.mem_cons_self
      | cons b l ih =>
        intro a
        rw [List.foldl_cons]
        rcases List.mem_cons.mp (ih (if b < a then b else a)) with h | h
        · rw [h]
          split
          · exact List.mem_cons_of_mem _ List.mem_cons_self
          · exact List.mem_cons_self
        · exact List.mem_cons_of_mem _ (List.mem_cons_of_mem _ h)
    exact this xs x
theorem maxL_mem : ∀ {ns : List Int}, ns ≠ [] → ∃ i, maxL ns = some i ∧ i ∈ ns
  | [], h => (h rfl).elim
  | x :: xs, _ => by
    refine ⟨_, rfl, ?_⟩
    have : ∀ (l : List Int) (a : Int), l.foldl (fun a b => if a < b then b else a) a ∈ a :: l := by
      intro l
      induction l with
      | nil => intro a; exact List.mem_cons_self
      | cons b l ih =>
        intro a
        rw [List.foldl_cons]
        rcases List.mem_cons.mp (ih (if a < b then b else a)) with h | h
        · rw [h]
          split
          · exact List.mem_cons_of_mem _ List.mem_cons_self
          · exact List.mem_cons_self
        · exact List.mem_cons_of_mem _ (List.mem_cons_of_mem _ h)
    exact this xs x
theorem bls_map (ns : List Bool) : blsD (ns.map fun n => Val.d (.bl n)) = some ns := by
  induction ns with
  | nil => rfl
  | cons d ds ih =>
    show (blsD (ds.map fun n => Val.d (.bl n))).map (d :: ·) = _
    rw [ih]
    rfl
theorem codes_num (i : Int) : (∀ c ∈ numText i, inC (2 ^ 45 ||| (2 ^ 58 - 2 ^ 48)) c = true) ∧ 1 ≤ (numText i).length ∧ (i.natAbs < 10 ^ 45 → (numText i).length ≤ 46) := by
  have dig : ∀ {c}, 48 ≤ c ∧ c ≤ 57 → inC (2 ^ 45 ||| (2 ^ 58 - 2 ^ 48)) c = true := by
    intro c hc
    have : c = 48 ∨ c = 49 ∨ c = 50 ∨ c = 51 ∨ c = 52 ∨ c = 53 ∨ c = 54 ∨ c = 55 ∨ c = 56 ∨ c = 57 := by omega
    rcases this with rfl | rfl | rfl | rfl | rfl | rfl | rfl | rfl | rfl | rfl <;> decide
  cases i with
  | ofNat k =>
    have e : numText (Int.ofNat k) = nd k := numText_nd k
    rw [e]
    refine ⟨fun c hc => dig (nd_dig k c hc), List.length_pos_iff.mpr (nd_ne k), fun h => ?_⟩
    have := nd_len k 44 (by simpa using h)
    omega
  | negSucc k =>
    have e : numText (Int.negSucc k) = 45 :: nd (k + 1) := by
      rw [← toDigits_nd]
      unfold numText
      simp [toString, Int.repr, Nat.repr, String.toList_append]
    rw [e]
    refine ⟨fun c hc => ?_, by simp, fun h => ?_⟩
    · rcases List.mem_cons.mp hc with rfl | hc
      · decide
      · exact dig (nd_dig _ c hc)
    · have := nd_len (k + 1) 44 (by simpa using h)
      rw [List.length_cons]
      omega
theorem up_s {m : Mem} {t : List Nat} (h : t.length ≤ 1000000) (h2 : ∀ c ∈ t, c < 128) : mtV .upper (.d (.str t)) [] m = .ok (.d (.str (t.map upC))) m := if_pos ⟨h, h2⟩
def aBi (z : Bool) (b : Bi) (as : List AV) (P : APl) : Option (AV × APl) :=
  match b, as with
  | .len, [a] => match asL a P with
    | some q => some (.sh (.int q.lo q.hi), P)
    | none => match a with
      | .sh s => match s.asStr with
        | some (l, h, _) => some (.sh (.int l h), P)
        | none => match s.asTup with
          | some q => some (.sh (.int q.lo q.hi), P)
          | none => none
      | _ => none
  | .int, [.sh s] => match s.asInt with
    | some (x, y) => some (.sh (.int x y), P)
    | none => match s with
      | .con (.bl c) => some (.sh (.int (if c then 1 else 0) (if c then 1 else 0)), P)
      | s => if s.asBl then some (.sh (.int 0 1), P) else none
  | .abs, [.sh s] => match s.asInt with
    | some (x, y) => some (.sh (if 0 ≤ x then .int x y else .int 0 (max (-x) y)), P)
    | none => none
  | .str, [.sh s] => match s.asInt with
    | some (x, y) => if -(10 ^ 45) < x ∧ y < 10 ^ 45 then some (.sh (.str 1 46 (2 ^ 45 ||| (2 ^ 58 - 2 ^ 48))), P) else none
    | none => none
  | .tuple, [a] => match asL a P with
    | some q => some (.sh q.tup, P)
    | none => match a with
      | .sh s => match s.asTup with
        | some q => some (.sh q.tup, P)
        | none => none
      | _ => none
  | .list, [a] => match asL a P with
    | some q => some (mkA z q P)
    | none => match a with
      | .sh s => match s.asTup with
        | some q => some (mkA z q P)
        | none => none
      | _ => none
  | .sum, [a] => match asL a P with
    | some q => if q.hi = 0 then some (.sh (.int 0 0), P) else match q.el.asInt with
      | some (x, y) => some (.sh (.int (if 0 ≤ x then q.lo * x else q.hi * x) (if 0 ≤ y then q.hi * y else q.lo * y)), P)
      | none => none
    | none => none
  | .all, [a] => match asL a P with
    | some q => if q.el.asBl || q.hi == 0 then some (.sh .bl, P) else none
    | none => none
  | .any, [a] => match asL a P with
    | some q => if q.el.asBl || q.hi == 0 then some (.sh .bl, P) else none
    | none => none
  | .min2, [.sh a, .sh b] => match a.asInt, b.asInt with
    | some (x, y), some (u, v) => some (.sh (.int (min x u) (min y v)), P)
    | _, _ => none
  | .max2, [.sh a, .sh b] => match a.asInt, b.asInt with
    | some (x, y), some (u, v) => some (.sh (.int (max x u) (max y v)), P)
    | _, _ => none
  | .min, [a] => match asL a P with
    | some q => if 0 < q.lo then match q.el.asInt with
      | some (x, y) => some (.sh (.int x y), P)
      | none => none else none
    | none => none
  | .max, [a] => match asL a P with
    | some q => if 0 < q.lo then match q.el.asInt with
      | some (x, y) => some (.sh (.int x y), P)
      | none => none else none
    | none => none
  | .ord, [.sh s] => match s.asStr with
    | some (l, h, _) => if l = 1 ∧ h = 1 then some (.sh (.int 0 127), P) else none
    | none => none
  | .sorted, [a] => match asL a P with
    | some q => if q.hi = 0 then some (mkA z (.fix []) P) else match q.el.asStr with
      | some _ => if q.hi < 64 then some (mkA z (.hom q.lo q.hi q.el) P) else none
      | none => none
    | none => none
  | _, _ => none
section
variable {F : Fam} {p : PT} {r0 : Mem} {ρ ρ' : List Nat} {P P' : APl} {m : Mem} {n : Nat} {z : Bool}
theorem hV1 {a : AV} {vs : List Val} (h : hasVs F p ρ [a] vs) : ∃ v, vs = [v] ∧ a.has F p ρ v := by
  obtain ⟨v, r, rfl, h1, h2⟩ := h
  have h2 : r = [] := h2
  subst h2
  exact ⟨v, rfl, h1⟩
theorem hV2 {a b : AV} {vs : List Val} (h : hasVs F p ρ [a, b] vs) : ∃ v w, vs = [v, w] ∧ a.has F p ρ v ∧ b.has F p ρ w := by
  obtain ⟨v, r, rfl, h1, h2⟩ := h
  obtain ⟨w, rfl, h3⟩ := hV1 h2
  exact ⟨v, w, rfl, h1, h3⟩
theorem len_lst {v : Val} {xs : List Val} (h : lstOf m v = some xs) : lenV m v = some xs.length := by
  cases v with
  | d d =>
    cases d with
    | lst ds => cases h; show some ds.length = _; rw [List.length_map]
    | _ => cases h
  | r i =>
    have h' : (match m[i]? with
      | some (.lst vs) => some vs
      | _ => none) = some xs := h
    show (match m[i]? with
      | some (.lst vs) => some vs.length
      | _ => none) = _
    split at h'
    · cases h'; rfl
    · cases h'
theorem list_lst {v : Val} {xs : List Val} (h : lstOf m v = some xs) : biV z .list [v] m = mkL z xs m := by
  cases v with
  | d d =>
    cases d with
    | lst ds => cases h; rfl
    | _ => cases h
  | r i =>
    show (match lstOf m (.r i) with
      | some us => mkL z us m
      | none => .no) = _
    rw [h]
theorem tup_lst {v : Val} {ds : List D} (h : lstOf m v = some (ds.map .d)) : biV z .tuple [v] m = .ok (.d (.tup ds)) m := by
  cases v with
  | d d =>
    cases d with
    | lst es =>
      have h' : es.map Val.d = ds.map Val.d := Option.some.inj h
      have : es = ds := by
        have := congrArg datas h'
        rw [datas_map, datas_map] at this
        exact Option.some.inj this
      subst this
      exact tu_l
    | _ => cases h
  | r i =>
    show (match lstOf m (.r i) with
      | some us => match datas us with
        | some ds => R.ok (Val.d (.tup ds)) m
        | none => .no
      | none => .no) = _
    rw [h]
    show (match datas (ds.map Val.d) with
        | some ds => R.ok (Val.d (.tup ds)) m
        | none => .no) = _
    rw [datas_map]
theorem bi_rows {v : Val} {ds : List D} (h : lstOf m v = some (ds.map .d)) {α : Type} {g : List Val → Option α} {f : α → Mem → R Val} {a : α} (e : g (ds.map .d) = some a) : (R.opt ((lstOf m v).bind g) m).bind f = f a m := by
  rw [h]
  show (R.opt (g (ds.map .d)) m).bind f = _
  rw [e]
  rfl
theorem ints_dm {ns : List Int} : intsD ((ns.map D.int).map .d) = some ns := by
  rw [List.map_map]; exact ints_map ns
theorem strs_dm {ns : List (List Nat)} : strsD ((ns.map D.str).map .d) = some ns := by
  rw [List.map_map]; exact strs_map ns
theorem bls_dm {ns : List Bool} : blsD ((ns.map D.bl).map .d) = some ns := by
  rw [List.map_map]; exact bls_map ns
theorem hasInt {x y k : Int} (h1 : x ≤ k) (h2 : k ≤ y) : Sh.has p (.int x y) (.int k) := by unfold Sh.has; exact ⟨k, rfl, h1, h2⟩
theorem hasBl {b : Bool} : Sh.has p .bl (.bl b) := by unfold Sh.has; exact ⟨b, rfl⟩
theorem nil_of {q : Sq} {ds : List D} (h : q.has p ds) (e : q.hi = 0) : ds = [] := by
  have := (Sq.len h).2
  exact List.length_eq_zero_iff.mp (by omega)
theorem bl_rows {q : Sq} {ds : List D} (h : q.has p ds) (e : (q.el.asBl || q.hi == 0) = true) : ∃ bs : List Bool, ds = bs.map .bl := by
  rcases Bool.or_eq_true _ _ ▸ e with e | e
  · exact bls_ofA e (Sq.mem h)
  · exact ⟨[], by rw [nil_of h (beq_iff_eq.mp e)]; rfl⟩
theorem aBi_ok {b : Bi} {as : List AV} {vs : List Val} {c : AV} {δ : Nat} (h : aBi z b as P = some (c, P')) (hm : MR F p r0 ρ P m n) (g0 : hasVs F p ρ as vs) :
    Po F p r0 ρ n (biV z b vs m) P' δ (fun ρ' v => c.has F p ρ' v) := by
  unfold aBi at h
  split at h
  · -- len
    obtain ⟨v, rfl, g⟩ := hV1 g0
    have go : ∀ k : Nat, lenV m v = some k → biV z .len [v] m = .ok (.d (.int k)) m := fun k e => by
      show (R.opt (lenV m v) m).bind _ = _
      rw [e]
      rfl
    split at h
    · rename_i q e1
      obtain ⟨ds, e2, q1⟩ := asL_ok e1 hm g
      have hl := Sq.len q1
      cases h
      rw [go _ (len_lst e2), List.length_map]
      exact .ret hm ⟨_, rfl, hasInt (by omega) (by omega)⟩
    · split at h
      · obtain ⟨x, rfl, g⟩ := g
        split at h
        · rename_i e2
          obtain ⟨t, rfl, t1, t2, t3⟩ := asStr_ok e2 g
          cases h
          rw [go t.length rfl]
          exact .ret hm ⟨_, rfl, hasInt (by omega) (by omega)⟩
        · split at h
          · rename_i q e2
            obtain ⟨ds, rfl, q1⟩ := asTup_ok e2 g
            have hl := Sq.len q1
            cases h
            rw [go ds.length rfl]
            exact .ret hm ⟨_, rfl, hasInt (by omega) (by omega)⟩
          · cases h
      · cases h
  · -- int
    obtain ⟨v, rfl, x, rfl, g⟩ := hV1 g0
    split at h
    · rename_i e1
      obtain ⟨k, rfl, k1, k2⟩ := asInt_ok e1 g
      cases h
      exact .ret hm ⟨_, rfl, hasInt k1 k2⟩
    · split at h
      · unfold Sh.has at g
        subst g
        cases h
        exact .ret hm ⟨_, rfl, hasInt (Int.le_refl _) (Int.le_refl _)⟩
      · split at h
        · rename_i hb
          obtain ⟨w, rfl⟩ := asBl_ok hb g
          cases h
          refine .ret hm ⟨_, rfl, ?_⟩
          cases w
          · exact hasInt (by decide) (by decide)
          · exact hasInt (by decide) (by decide)
        · cases h
  · -- abs
    obtain ⟨v, rfl, x, rfl, g⟩ := hV1 g0
    split at h
    · rename_i e1
      obtain ⟨k, rfl, k1, k2⟩ := asInt_ok e1 g
      cases h
      refine .ret hm ⟨_, rfl, ?_⟩
      split
      · split
        · omega
        · exact hasInt k1 k2
      · split
        · exact hasInt (by omega) (by omega)
        · exact hasInt (by omega) (by omega)
    · cases h
  · -- str
    obtain ⟨v, rfl, x, rfl, g⟩ := hV1 g0
    split at h
    · rename_i e1
      obtain ⟨k, rfl, k1, k2⟩ := asInt_ok e1 g
      split at h
      · rename_i hc
        cases h
        have hb : k.natAbs < 10 ^ 45 := by omega
        obtain ⟨c1, c2, c3⟩ := codes_num k
        rw [s_i (log_ok (Nat.lt_trans hb (by decide)))]
        refine .ret hm ⟨_, rfl, ?_⟩
        unfold Sh.has
        exact ⟨_, rfl, c2, c3 hb, c1⟩
      · cases h
    · cases h
  · -- tuple
    obtain ⟨v, rfl, g⟩ := hV1 g0
    split at h
    · rename_i q e1
      obtain ⟨ds, e2, q1⟩ := asL_ok e1 hm g
      cases h
      rw [tup_lst e2]
      exact .ret hm ⟨_, rfl, Sq.tup_ok q1⟩
    · split at h
      · obtain ⟨x, rfl, g⟩ := g
        split at h
        · rename_i q e2
          obtain ⟨ds, rfl, q1⟩ := asTup_ok e2 g
          cases h
          exact .ret hm ⟨_, rfl, Sq.tup_ok q1⟩
        · cases h
      · cases h
  · -- list
    obtain ⟨v, rfl, g⟩ := hV1 g0
    split at h
    · rename_i q e1
      obtain ⟨ds, e2, q1⟩ := asL_ok e1 hm g
      have e5 : mkA z q P = (c, P') := Option.some.inj h
      rw [list_lst e2]
      have := mkA_ok (z := z) (δ := δ) q1 hm
      rw [e5] at this
      exact this
    · split at h
      · obtain ⟨x, rfl, g⟩ := g
        split at h
        · rename_i q e2
          obtain ⟨ds, rfl, q1⟩ := asTup_ok e2 g
          have e5 : mkA z q P = (c, P') := Option.some.inj h
          have := mkA_ok (z := z) (δ := δ) q1 hm
          rw [e5] at this
          exact this
        · cases h
      · cases h
  · -- sum
    obtain ⟨v, rfl, g⟩ := hV1 g0
    split at h
    · rename_i q e1
      obtain ⟨ds, e2, q1⟩ := asL_ok e1 hm g
      have hl := Sq.len q1
      have go : ∀ ns : List Int, ds = ns.map .int → biV z .sum [v] m = .ok (.d (.int ns.sum)) m := by
        rintro ns rfl
        show (R.opt ((lstOf m v).bind intsD) m).bind _ = _
        rw [bi_rows e2 ints_dm]
      split at h
      · rename_i h0
        cases h
        rw [go [] (by rw [nil_of q1 h0]; rfl)]
        exact .ret hm ⟨_, rfl, hasInt (Int.le_refl _) (Int.le_refl _)⟩
      · split at h
        · rename_i x y e3
          obtain ⟨ns, rfl, hn⟩ := ints_ofA e3 (Sq.mem q1)
          cases h
          rw [go ns rfl]
          obtain ⟨s1, s2⟩ := sum_range hn
          rw [List.length_map] at hl
          refine .ret hm ⟨_, rfl, hasInt ?_ ?_⟩
          · split
            · exact Int.le_trans (Int.mul_le_mul_of_nonneg_right (by omega) (by assumption)) s1
            · exact Int.le_trans (Int.mul_le_mul_of_nonpos_right (by omega) (by omega)) s1
          · split
            · exact Int.le_trans s2 (Int.mul_le_mul_of_nonneg_right (by omega) (by assumption))
            · exact Int.le_trans s2 (Int.mul_le_mul_of_nonpos_right (by omega) (by omega))
        · cases h
    · cases h
  · -- all
    obtain ⟨v, rfl, g⟩ := hV1 g0
    split at h
    · rename_i q e1
      obtain ⟨ds, e2, q1⟩ := asL_ok e1 hm g
      split at h
      · rename_i hc
        cases h
        obtain ⟨bs, rfl⟩ := bl_rows q1 hc
        refine .eq (y := .ok (.d (.bl (bs.all id))) m) ?_ (.ret hm ⟨_, rfl, hasBl⟩)
        show (R.opt ((lstOf m v).bind blsD) m).bind _ = _
        rw [bi_rows e2 bls_dm]
      · cases h
    · cases h
  · -- any
    obtain ⟨v, rfl, g⟩ := hV1 g0
    split at h
    · rename_i q e1
      obtain ⟨ds, e2, q1⟩ := asL_ok e1 hm g
      split at h
      · rename_i hc
        cases h
        obtain ⟨bs, rfl⟩ := bl_rows q1 hc
        refine .eq (y := .ok (.d (.bl (bs.any id))) m) ?_ (.ret hm ⟨_, rfl, hasBl⟩)
        show (R.opt ((lstOf m v).bind blsD) m).bind _ = _
        rw [bi_rows e2 bls_dm]
      · cases h
    · cases h
  · -- min2
    obtain ⟨v, w, rfl, ⟨x, rfl, g1⟩, ⟨y, rfl, g2⟩⟩ := hV2 g0
    split at h
    · rename_i e1 e2
      obtain ⟨i, rfl, i1, i2⟩ := asInt_ok e1 g1
      obtain ⟨j, rfl, j1, j2⟩ := asInt_ok e2 g2
      cases h
      refine .ret hm ⟨_, rfl, ?_⟩
      split
      · exact hasInt (by omega) (by omega)
      · exact hasInt (by omega) (by omega)
    · cases h
  · -- max2
    obtain ⟨v, w, rfl, ⟨x, rfl, g1⟩, ⟨y, rfl, g2⟩⟩ := hV2 g0
    split at h
    · rename_i e1 e2
      obtain ⟨i, rfl, i1, i2⟩ := asInt_ok e1 g1
      obtain ⟨j, rfl, j1, j2⟩ := asInt_ok e2 g2
      cases h
      refine .ret hm ⟨_, rfl, ?_⟩
      split
      · exact hasInt (by omega) (by omega)
      · exact hasInt (by omega) (by omega)
    · cases h
  · -- min
    obtain ⟨v, rfl, g⟩ := hV1 g0
    split at h
    · rename_i q e1
      obtain ⟨ds, e2, q1⟩ := asL_ok e1 hm g
      have hl := Sq.len q1
      split at h
      · rename_i h0
        split at h
        · rename_i x y e3
          obtain ⟨ns, rfl, hn⟩ := ints_ofA e3 (Sq.mem q1)
          cases h
          have hne : ns ≠ [] := by
            intro e
            rw [e] at hl
            simp at hl
            omega
          obtain ⟨i, hi, him⟩ := minL_mem hne
          refine .eq (y := .ok (.d (.int i)) m) ?_ (.ret hm ⟨_, rfl, hasInt (hn i him).1 (hn i him).2⟩)
          show (R.opt ((lstOf m v).bind intsD) m).bind _ = _
          rw [bi_rows e2 ints_dm, hi]
          rfl
        · cases h
      · cases h
    · cases h
  · -- max
    obtain ⟨v, rfl, g⟩ := hV1 g0
    split at h
    · rename_i q e1
      obtain ⟨ds, e2, q1⟩ := asL_ok e1 hm g
      have hl := Sq.len q1
      split at h
      · rename_i h0
        split at h
        · rename_i x y e3
          obtain ⟨ns, rfl, hn⟩ := ints_ofA e3 (Sq.mem q1)
          cases h
          have hne : ns ≠ [] := by
            intro e
            rw [e] at hl
            simp at hl
            omega
          obtain ⟨i, hi, him⟩ := maxL_mem hne
          refine .eq (y := .ok (.d (.int i)) m) ?_ (.ret hm ⟨_, rfl, hasInt (hn i him).1 (hn i him).2⟩)
          show (R.opt ((lstOf m v).bind intsD) m).bind _ = _
          rw [bi_rows e2 ints_dm, hi]
          rfl
        · cases h
      · cases h
    · cases h
  · -- ord
    obtain ⟨v, rfl, x, rfl, g⟩ := hV1 g0
    split at h
    · rename_i e1
      obtain ⟨t, rfl, t1, t2, t3⟩ := asStr_ok e1 g
      split at h
      · rename_i hc
        cases h
        obtain ⟨k, rfl⟩ := List.length_eq_one_iff.mp (show t.length = 1 by omega)
        have hk := t3 k (List.mem_singleton_self _)
        unfold inC at hk
        rw [Bool.and_eq_true, decide_eq_true_eq] at hk
        exact .ret hm ⟨.int k, rfl, hasInt (by omega) (by omega)⟩
      · cases h
    · cases h
  · -- sorted
    obtain ⟨v, rfl, g⟩ := hV1 g0
    split at h
    · rename_i q e1
      obtain ⟨ds, e2, q1⟩ := asL_ok e1 hm g
      have hl := Sq.len q1
      have go : ∀ ns : List (List Nat), ds = ns.map .str → ns.length < 64 → biV z .sorted [v] m = mkL z (((sortS ns).map .str).map .d) m := by
        rintro ns rfl hlt
        show (R.opt ((lstOf m v).bind strsD) m).bind _ = _
        rw [bi_rows e2 strs_dm, if_pos hlt, List.map_map]
        rfl
      split at h
      · rename_i h0
        have e5 : mkA z (.fix []) P = (c, P') := Option.some.inj h
        rw [go [] (by rw [nil_of q1 h0]; rfl) (by decide)]
        have := mkA_ok (z := z) (q := .fix []) (ds := []) (δ := δ) (by show Sh.hasL p [] []; unfold Sh.hasL; rfl) hm
        rw [e5] at this
        exact this
      · split at h
        · rename_i w e3
          obtain ⟨l, u, k⟩ := w
          split at h
          · rename_i h64
            obtain ⟨ns, rfl, hn⟩ := strs_ofA e3 (Sq.mem q1)
            rw [List.length_map] at hl
            have e5 : mkA z (.hom q.lo q.hi q.el) P = (c, P') := Option.some.inj h
            rw [go ns rfl (by omega)]
            have := mkA_ok (z := z) (q := .hom q.lo q.hi q.el) (ds := (sortS ns).map .str) (δ := δ) (by
              refine ⟨by rw [List.length_map, sortS_len]; omega, by rw [List.length_map, sortS_len]; omega, fun x hx => ?_⟩
              obtain ⟨t, ht, rfl⟩ := List.mem_map.mp hx
              exact (hn t (sortS_mem ht)).2.2.2) hm
            rw [e5] at this
            exact this
          · cases h
        · cases h
    · cases h
  · cases h
/-! methods -/
/-- what a list or a tuple holds -/
def seqA (a : AV) (P : APl) : Option Sq := match asL a P with
  | some q => some q
  | none => match a with
    | .sh s => s.asTup
    | _ => none
theorem seqA_ok {a : AV} {q : Sq} {v : Val} (h : seqA a P = some q) (hm : MR F p r0 ρ P m n) (g : a.has F p ρ v) : ∃ ds, seqOf m v = some (ds.map .d) ∧ q.has p ds := by
  unfold seqA at h
  split at h
  · rename_i q' e
    cases h
    obtain ⟨ds, h1, h2⟩ := asL_ok e hm g
    refine ⟨ds, ?_, h2⟩
    cases v with
    | r i => exact h1
    | d x => cases x with
      | tup xs => cases h1
      | _ => exact h1
  · split at h
    · obtain ⟨d, rfl, g⟩ := g
      obtain ⟨ds, rfl, h2⟩ := asTup_ok h g
      exact ⟨ds, rfl, h2⟩
    · cases h
theorem bi_seq {v : Val} {ds : List D} (h : seqOf m v = some (ds.map .d)) {α : Type} {g : List Val → Option α} {f : α → Mem → R Val} {a : α} (e : g (ds.map .d) = some a) : (R.opt ((seqOf m v).bind g) m).bind f = f a m := by
  rw [h]
  show (R.opt (g (ds.map .d)) m).bind f = _
  rw [e]
  rfl
def aMt (mt : Mt) (o : AV) (as : List AV) (P : APl) : Option (AV × APl) :=
  match mt, o, as with
  | .join, .sh s, [a] => match s.asStr, seqA a P with
    | some (l, h, c), some q => if q.hi = 0 then some (.sh (.str 0 0 0), P) else match q.el.asStr with
      | some (l2, h2, c2) => if q.hi * h2 + q.hi * h ≤ LINE then some (.sh (.str (q.lo * l2) (q.hi * h2 + q.hi * h) (c ||| c2)), P) else none
      | none => none
    | _, _ => none
  | .upper, .sh s, [] => match s.asStr with
    | some (l, h, c) => if h ≤ 1000000 then some (.sh (.str l h allBits), P) else none
    | none => none
  | .append, .pl j, [.sh s] => match asL (.pl j) P with
    | some q => if q.hi < LINE then some (.sh (.con .non), P.set j (q.app (.fix [s])).lst) else none
    | none => none
  | .extend, .pl j, [a] => match asL (.pl j) P, asL a P with
    | some q, some r => if q.hi + r.hi ≤ LINE then some (.sh (.con .non), P.set j (q.app r).lst) else none
    | _, _ => none
  | .popAt, .pl j, [.sh s] => match asL (.pl j) P, s.asInt with
    | some q, some (x, y) => if -(2 ^ 62) < x ∧ y < 2 ^ 62 then match q.at x y with
      | some e => some (.sh e, P.set j (Sq.hom (q.lo - 1) (q.hi - 1) q.el).lst)
      | none => none else none
    | _, _ => none
  | .pop, .pl j, [] => match asL (.pl j) P with
    | some q => if 0 < q.lo then match q.at (-1) (-1) with
      | some e => some (.sh e, P.set j (q.cut none (some (-1, -1))).lst)
      | none => none else none
    | none => none
  | _, _, _ => none
theorem inC_all {c : Nat} (h : c < 128) : inC allBits c = true := by
  unfold inC allBits
  rw [decide_eq_true h, Nat.testBit_two_pow_sub_one, decide_eq_true h]
  rfl
theorem pl_get {j : Nat} {q : Sq} {v : Val} (h : asL (.pl j) P = some q) (hm : MR F p r0 ρ P m n) (g : (AV.pl j).has F p ρ v) : ∃ i ds, ρ[j]? = some i ∧ v = .r i ∧ m[i]? = some (.lst (ds.map .d)) ∧ q.has p ds := by
  obtain ⟨i, g1, rfl⟩ := g
  obtain ⟨s, h1, h2⟩ := Option.bind_eq_some_iff.mp (show (P[j]?).bind Sh.asLst = some q from h)
  obtain ⟨ds, h3, h4⟩ := hm.at_ j i s g1 h1
  obtain ⟨es, h5, h6⟩ := asLst_ok h2 h4
  cases h5
  exact ⟨i, ds, g1, rfl, h3, h6⟩
theorem Po.write {j i : Nat} {q : Sq} {ds : List D} {a : AV} {v : Val} {δ : Nat} (hm : MR F p r0 ρ P m n) (e : ρ[j]? = some i) (g : q.has p ds) (h : a.has F p ρ v) :
    Po F p r0 ρ n (.ok v (m.set i (.lst (ds.map .d)))) (P.set j q.lst) δ (fun ρ' v => a.has F p ρ' v) :=
  ⟨v, _, ρ, n, rfl, hm.set e g, .refl, h, Nat.le_refl _, Nat.le_add_right _ _⟩
theorem erase_map {α β : Type} {f : α → β} : ∀ {xs : List α} {k : Nat}, (xs.map f).eraseIdx k = (xs.eraseIdx k).map f
  | [], _ => by simp
  | x :: xs, 0 => rfl
  | x :: xs, k + 1 => by
    show f x :: (xs.map f).eraseIdx k = f x :: (xs.eraseIdx k).map f
    rw [erase_map]
theorem aMt_ok {mt : Mt} {o : AV} {as : List AV} {x : Val} {vs : List Val} {c : AV} {δ : Nat} (h : aMt mt o as P = some (c, P')) (hm : MR F p r0 ρ P m n) (go : o.has F p ρ x) (g0 : hasVs F p ρ as vs) :
    Po F p r0 ρ n (mtV mt x vs m) P' δ (fun ρ' v => c.has F p ρ' v) := by
  unfold aMt at h
  split at h
  · -- join
    obtain ⟨v, rfl, g⟩ := hV1 g0
    obtain ⟨x, rfl, go⟩ := go
    split at h
    · rename_i l hh k q e1 e2
      obtain ⟨t, rfl, t1, t2, t3⟩ := asStr_ok e1 go
      obtain ⟨ds, e3, q1⟩ := seqA_ok e2 hm g
      have hl := Sq.len q1
      have run : ∀ ss : List (List Nat), ds = ss.map .str → (ss.map List.length).sum + ss.length * t.length ≤ LINE → mtV .join (.d (.str t)) [v] m = .ok (.d (.str (joinL t ss))) m := by
        rintro ss rfl hs
        show (R.opt ((seqOf m v).bind strsD) m).bind _ = _
        rw [bi_seq e3 strs_dm, if_pos hs]
      split at h
      · rename_i h0
        cases h
        rw [run [] (by rw [nil_of q1 h0]; rfl) (by simp)]
        refine .ret hm ⟨_, rfl, ?_⟩
        unfold Sh.has
        exact ⟨[], rfl, Nat.le_refl _, Nat.le_refl _, fun _ h => by cases h⟩
      · split at h
        · rename_i l2 h2 c2 e4
          split at h
          · rename_i hc
            cases h
            obtain ⟨ts, rfl, ht⟩ := strs_ofA e4 (Sq.mem q1)
            rw [List.length_map] at hl
            have s1 := lens_sum fun t h => ⟨(ht t h).1, (ht t h).2.1⟩
            have s2 := joinL_len (sep := t) (ts := ts)
            have b1 : ts.length * h2 ≤ q.hi * h2 := Nat.mul_le_mul_right _ hl.2
            have b2 : ts.length * t.length ≤ q.hi * hh := Nat.mul_le_mul hl.2 t2
            have b3 : q.lo * l2 ≤ ts.length * l2 := Nat.mul_le_mul_right _ hl.1
            rw [run ts rfl (by omega)]
            refine .ret hm ⟨_, rfl, ?_⟩
            unfold Sh.has
            refine ⟨_, rfl, by omega, by omega, fun y hy => ?_⟩
            rcases joinL_mem hy with hy | ⟨w, hw, hy⟩
            · exact inC_l (t3 y hy)
            · exact inC_r ((ht w hw).2.2.1 y hy)
          · cases h
        · cases h
    · cases h
  · -- upper
    have g : vs = [] := g0
    subst g
    obtain ⟨x, rfl, go⟩ := go
    split at h
    · rename_i l hh k e1
      obtain ⟨t, rfl, t1, t2, t3⟩ := asStr_ok e1 go
      split at h
      · rename_i hc
        cases h
        have ht : ∀ y ∈ t, y < 128 := fun y hy => by
          have := t3 y hy
          unfold inC at this
          rw [Bool.and_eq_true, decide_eq_true_eq] at this
          exact this.1
        refine .eq (y := .ok (.d (.str (t.map upC))) m) (up_s (by omega) ht) (.ret hm ⟨_, rfl, ?_⟩)
        unfold Sh.has
        refine ⟨_, rfl, by rw [List.length_map]; exact t1, by rw [List.length_map]; exact t2, fun y hy => ?_⟩
        obtain ⟨w, hw, rfl⟩ := List.mem_map.mp hy
        have := ht w hw
        refine inC_all ?_
        unfold upC
        split <;> omega
      · cases h
    · cases h
  · -- append
    obtain ⟨v, rfl, y, rfl, g⟩ := hV1 g0
    split at h
    · rename_i q e1
      obtain ⟨i, ds, r1, rfl, r2, q1⟩ := pl_get e1 hm go
      have hl := Sq.len q1
      split at h
      · rename_i hc
        cases h
        have q2 : Sq.has p (.fix [_]) [y] := hasL_app (ss := [_]) (tt := []) (ds := [y]) (es := []) (by unfold Sh.hasL; exact ⟨y, [], rfl, g, by unfold Sh.hasL; rfl⟩) (by unfold Sh.hasL; rfl)
        rw [ap_r r2 (by rw [List.length_map]; have : LINE = 16777216 := rfl; omega)]
        have e : ds.map Val.d ++ [Val.d y] = (ds ++ [y]).map Val.d := by simp
        rw [e]
        exact .write hm r1 (Sq.app_ok q1 q2) ⟨.non, rfl, by unfold Sh.has; rfl⟩
      · cases h
    · cases h
  · -- extend
    obtain ⟨v, rfl, g⟩ := hV1 g0
    split at h
    · rename_i q r e1 e2
      obtain ⟨i, ds, r1, rfl, r2, q1⟩ := pl_get e1 hm go
      obtain ⟨es, e3, q2⟩ := asL_ok e2 hm g
      have hl := Sq.len q1
      have hl2 := Sq.len q2
      split at h
      · rename_i hc
        cases h
        have e : mtV .extend (.r i) [v] m = .ok (.d .non) (m.set i (.lst ((ds ++ es).map .d))) := by
          show (match m[i]? with
            | some (.lst us) => match lstOf m v with
              | some ys => if us.length + ys.length ≤ LINE then R.ok (Val.d .non) (m.set i (.lst (us ++ ys))) else .no
              | none => .no
            | _ => .no) = _
          rw [r2, e3]
          show (if (ds.map Val.d).length + (es.map Val.d).length ≤ LINE then R.ok (Val.d .non) (m.set i (.lst (ds.map Val.d ++ es.map Val.d))) else .no) = _
          rw [if_pos (by rw [List.length_map, List.length_map]; omega), List.map_append]
        rw [e]
        exact .write hm r1 (Sq.app_ok q1 q2) ⟨.non, rfl, by unfold Sh.has; rfl⟩
      · cases h
    · cases h
  · -- popAt
    obtain ⟨v, rfl, y, rfl, g⟩ := hV1 g0
    split at h
    · rename_i q a b e1 e2
      obtain ⟨i, ds, r1, rfl, r2, q1⟩ := pl_get e1 hm go
      obtain ⟨k, rfl, k1, k2⟩ := asInt_ok e2 g
      have hl := Sq.len q1
      split at h
      · rename_i hc
        split at h
        · rename_i s e3
          cases h
          have hin : -(q.lo : Int) ≤ a ∧ b < (q.lo : Int) ∧ a ≤ b := by
            unfold Sq.at at e3
            split at e3
            · assumption
            · cases e3
          obtain ⟨w, f1, f2⟩ := Sq.at_ok q1 e3 k1 k2
          obtain ⟨jj, w', f3, f4, f5⟩ := atL_in (xs := ds) (i := k) (by omega) (by omega)
          rw [f1] at f3
          cases f3
          have ix : ixOf ds.length k = some jj := by
            unfold ixOf
            rcases f5 with ⟨f6, f7⟩ | ⟨f6, f7⟩
            · rw [if_pos f6, if_pos (by omega), f7]
            · rw [if_neg (by omega), if_pos (by omega), f7]
          have hj : jj < ds.length := (List.getElem?_eq_some_iff.mp f4).1
          have e : mtV .popAt (.r i) [.d (.int k)] m = .ok (.d w) (m.set i (.lst ((ds.eraseIdx jj).map .d))) := by
            show (match m[i]? with
              | some (.lst us) => if k < 2 ^ 62 ∧ -(2 ^ 62) < k then (R.opt ((ixOf us.length k).bind fun j => (us[j]?).map fun v => (j, v)) m).bind fun p m => R.ok p.2 (m.set i (.lst (us.eraseIdx p.1))) else .no
              | _ => .no) = _
            rw [r2]
            show (if k < 2 ^ 62 ∧ -(2 ^ 62) < k then (R.opt ((ixOf (ds.map Val.d).length k).bind fun j => ((ds.map Val.d)[j]?).map fun v => (j, v)) m).bind fun p m => R.ok p.2 (m.set i (.lst ((ds.map Val.d).eraseIdx p.1))) else .no) = _
            rw [if_pos (by omega), List.length_map, ix]
            show (R.opt (((ds.map Val.d)[jj]?).map fun v => (jj, v)) m).bind _ = _
            rw [List.getElem?_map, f4]
            show R.ok (Val.d w) (m.set i (.lst ((ds.map Val.d).eraseIdx jj))) = _
            rw [erase_map]
          rw [e]
          refine .write hm r1 ⟨?_, ?_, fun x hx => Sq.mem q1 x (List.mem_of_mem_eraseIdx hx)⟩ ⟨w, rfl, f2⟩
          · rw [List.length_eraseIdx_of_lt hj]; omega
          · rw [List.length_eraseIdx_of_lt hj]; omega
        · cases h
      · cases h
    · cases h
  · -- pop
    have g : vs = [] := g0
    subst g
    split at h
    · rename_i q e1
      obtain ⟨i, ds, r1, rfl, r2, q1⟩ := pl_get e1 hm go
      have hl := Sq.len q1
      split at h
      · rename_i hc
        split at h
        · rename_i s e3
          cases h
          obtain ⟨w, f1, f2⟩ := Sq.at_ok q1 e3 (Int.le_refl _) (Int.le_refl _)
          have hne : ds ≠ [] := by intro e; rw [e] at hl; simp at hl; omega
          have fl : ds.getLast? = some w := by
            obtain ⟨jj, w', f3, f4, f5⟩ := atL_in (xs := ds) (i := -1) (by omega) (by omega)
            rw [f1] at f3
            cases f3
            rw [List.getLast?_eq_getElem?]
            rw [show ds.length - 1 = jj by rcases f5 with f5 | f5 <;> omega]
            exact f4
          have fc : cut ds none (some (-1)) = ds.dropLast := by
            show (ds.drop 0).take ((if (-1 : Int) < 0 then ((-1 : Int) + (ds.length : Int)).toNat else min (-1 : Int).toNat ds.length) - 0) = _
            rw [if_pos (by decide), List.dropLast_eq_take, List.drop_zero, Nat.sub_zero]
            congr 1
            omega
          have e : mtV .pop (.r i) [] m = .ok (.d w) (m.set i (.lst ((ds.dropLast).map .d))) := by
            show (match m[i]? with
              | some (.lst us) => (R.opt us.getLast? m).bind fun v m => R.ok v (m.set i (.lst us.dropLast))
              | _ => .no) = _
            rw [r2]
            show (R.opt (ds.map Val.d).getLast? m).bind (fun v m => R.ok v (m.set i (.lst (ds.map Val.d).dropLast))) = _
            rw [List.getLast?_map, fl, ← List.map_dropLast]
            rfl
          rw [e, ← fc]
          exact .write hm r1 (Sq.cut_ok q1 trivial ⟨Int.le_refl _, Int.le_refl _⟩) ⟨w, rfl, f2⟩
        · cases h
      · cases h
    · cases h
  · cases h
end
end Rf

namespace Rf
/-! ### states and their joins -/
def jPl (a b : Sh) : Sh := match a.asLst, b.asLst with
  | some q, some r => (q.join r).lst
  | _, _ => a.J b
def zipP : APl → APl → APl
  | x :: xs, y :: ys => jPl x y :: zipP xs ys
  | _, _ => []
def jAV (k : Nat) : AV → AV → Option AV
  | .sh a, .sh b => some (.sh (a.J b))
  | .dk, .dk => some .dk
  | .pl i, .pl j => if i = j ∧ i < k then some (.pl i) else none
  | _, _ => none
def jO (k : Nat) : Option AV → Option AV → Option AV
  | some a, some b => jAV k a b
  | _, _ => none
def jS (k : Nat) : ASl → ASl → ASl
  | x :: xs, y :: ys => jO k x y :: jS k xs ys
  | _, _ => []
abbrev ASt := Option (ASl × APl)
abbrev ART := Option (Option AV × APl)
def lnP (a : ASt) (k : Nat) : Bool := match a with
  | none => true
  | some x => decide (k ≤ x.2.length)
def lnR (a : ART) (k : Nat) : Bool := match a with
  | none => true
  | some x => decide (k ≤ x.2.length)
def jSt0 : ASt → ASt → ASt
  | none, b => b
  | a, none => a
  | some a, some b => some (jS (zipP a.2 b.2).length a.1 b.1, zipP a.2 b.2)
def jSt (k : Nat) (a b : ASt) : Option ASt := match lnP a k && lnP b k with
  | true => some (jSt0 a b)
  | false => none
def jRt0 : ART → ART → ART
  | none, b => b
  | a, none => a
  | some a, some b => some (jO (zipP a.2 b.2).length a.1 b.1, zipP a.2 b.2)
def jRt (k : Nat) (a b : ART) : Option ART := match lnR a k && lnR b k with
  | true => some (jRt0 a b)
  | false => none
section
variable {F : Fam} {p : PT} {r0 : Mem} {ρ ρ' ρ0 : List Nat} {P P' Q : APl} {m : Mem} {n : Nat} {z : Bool}
theorem jPl_l {a b : Sh} {ds : List D} (h : a.has p (.lst ds)) : (jPl a b).has p (.lst ds) := by
  unfold jPl
  split
  · rename_i q r e1 e2
    obtain ⟨es, h1, h2⟩ := asLst_ok e1 h
    cases h1
    exact Sq.lst_ok (Sq.join_ok (.inl h2))
  · exact J_l h
theorem jPl_r {a b : Sh} {ds : List D} (h : b.has p (.lst ds)) : (jPl a b).has p (.lst ds) := by
  unfold jPl
  split
  · rename_i q r e1 e2
    obtain ⟨es, h1, h2⟩ := asLst_ok e2 h
    cases h1
    exact Sq.lst_ok (Sq.join_ok (.inr h2))
  · exact J_r h
theorem zipP_len : ∀ {P Q : APl}, (zipP P Q).length = min P.length Q.length
  | [], _ => by simp [zipP]
  | _ :: _, [] => by simp [zipP]
  | x :: xs, y :: ys => by
    show (jPl x y :: zipP xs ys).length = _
    rw [List.length_cons, zipP_len, List.length_cons, List.length_cons]
    omega
theorem zipP_get : ∀ {P Q : APl} {j : Nat} {s : Sh}, (zipP P Q)[j]? = some s → ∃ a b, P[j]? = some a ∧ Q[j]? = some b ∧ s = jPl a b
  | [], _, j, s, h => by simp [zipP] at h
  | _ :: _, [], j, s, h => by simp [zipP] at h
  | x :: xs, y :: ys, 0, s, h => by
    have h' : some (jPl x y) = some s := h
    cases h'
    exact ⟨x, y, rfl, rfl, rfl⟩
  | x :: xs, y :: ys, j + 1, s, h => by
    obtain ⟨a, b, h1, h2, h3⟩ := zipP_get (P := xs) (Q := ys) (j := j) (s := s) (by simpa [zipP] using h)
    exact ⟨a, b, by simpa using h1, by simpa using h2, h3⟩
theorem MR.weak (h : MR F p r0 ρ P m n) {Q : APl} (hl : Q.length ≤ P.length) (hq : ∀ (j : Nat) (s : Sh), Q[j]? = some s → ∃ a : Sh, P[j]? = some a ∧ ∀ ds, a.has p (.lst ds) → s.has p (.lst ds)) : MR F p r0 (ρ.take Q.length) Q m n := by
  refine ⟨h.ex, by rw [List.length_take, h.len]; omega, h.nd.sublist (List.take_sublist _ _), fun i hi => h.ge i (List.mem_of_mem_take hi), fun j i s e1 e2 => ?_⟩
  obtain ⟨a, ha, hs⟩ := hq j s e2
  have e1' : ρ[j]? = some i := by
    rw [List.getElem?_take] at e1
    split at e1
    · exact e1
    · cases e1
  obtain ⟨ds, h1, h2⟩ := h.at_ j i a e1' ha
  exact ⟨ds, h1, hs ds h2⟩
theorem MR.zl (h : MR F p r0 ρ P m n) : MR F p r0 (ρ.take (zipP P Q).length) (zipP P Q) m n :=
  h.weak (by rw [zipP_len]; omega) fun j s e => let ⟨a, b, h1, h2, h3⟩ := zipP_get e; ⟨a, h1, fun ds g => h3 ▸ jPl_l g⟩
theorem MR.zr (h : MR F p r0 ρ Q m n) : MR F p r0 (ρ.take (zipP P Q).length) (zipP P Q) m n :=
  h.weak (by rw [zipP_len]; omega) fun j s e => let ⟨a, b, h1, h2, h3⟩ := zipP_get e; ⟨b, h2, fun ds g => h3 ▸ jPl_r g⟩
theorem MR.tk (h : MR F p r0 ρ P m n) (k : Nat) : MR F p r0 (ρ.take k) (P.take k) m n := by
  by_cases hk : k ≤ P.length
  · have := h.weak (Q := P.take k) (by rw [List.length_take]; omega) fun j s e => by
      rw [List.getElem?_take] at e
      split at e
      · exact ⟨s, e, fun ds g => g⟩
      · cases e
    rw [List.length_take, Nat.min_eq_left hk] at this
    exact this
  · rw [List.take_of_length_le (by rw [h.len]; omega), List.take_of_length_le (by omega)]
    exact h
theorem Ext.tk {a b : List Nat} (h : Ext a b) {k : Nat} (hk : a.length ≤ k) : Ext a (b.take k) := by
  obtain ⟨t, rfl⟩ := h
  rw [List.take_append, List.take_of_length_le hk]
  exact ⟨_, rfl⟩
theorem jAV_l {k : Nat} {a b c : AV} {v : Val} (h : jAV k a b = some c) (g : a.has F p ρ v) : c.has F p (ρ.take k) v := by
  unfold jAV at h
  split at h
  · cases h; obtain ⟨d, e, g⟩ := g; exact ⟨d, e, J_l g⟩
  · cases h; exact g
  · split at h
    · rename_i hc
      cases h
      obtain ⟨i, g1, g2⟩ := g
      exact ⟨i, by rw [List.getElem?_take, if_pos hc.2]; exact g1, g2⟩
    · cases h
  · cases h
theorem jAV_r {k : Nat} {a b c : AV} {v : Val} (h : jAV k a b = some c) (g : b.has F p ρ v) : c.has F p (ρ.take k) v := by
  unfold jAV at h
  split at h
  · cases h; obtain ⟨d, e, g⟩ := g; exact ⟨d, e, J_r g⟩
  · cases h; exact g
  · split at h
    · rename_i hc
      cases h
      obtain ⟨i, g1, g2⟩ := g
      exact ⟨i, by rw [List.getElem?_take, if_pos hc.2, hc.1]; exact g1, g2⟩
    · cases h
  · cases h
theorem jS_get {k : Nat} : ∀ {S T : ASl} {i : Nat} {a : AV}, (jS k S T)[i]? = some (some a) → ∃ b c, S[i]? = some (some b) ∧ T[i]? = some (some c) ∧ jAV k b c = some a
  | [], _, i, a, h => by simp [jS] at h
  | _ :: _, [], i, a, h => by simp [jS] at h
  | x :: xs, y :: ys, 0, a, h => by
    have h' : some (jO k x y) = some (some a) := h
    have h' := Option.some.inj h'
    cases x with
    | none => cases h'
    | some b => cases y with
      | none => cases h'
      | some c => exact ⟨b, c, rfl, rfl, h'⟩
  | x :: xs, y :: ys, i + 1, a, h => jS_get (S := xs) (T := ys) (i := i) h
theorem jS_len {k : Nat} : ∀ {S T : ASl}, (jS k S T).length ≤ S.length ∧ (jS k S T).length ≤ T.length
  | [], _ => by simp [jS]
  | _ :: _, [] => by simp [jS]
  | x :: xs, y :: ys => by
    show (jO k x y :: jS k xs ys).length ≤ _ ∧ (jO k x y :: jS k xs ys).length ≤ _
    rw [List.length_cons, List.length_cons, List.length_cons]
    have := jS_len (k := k) (S := xs) (T := ys)
    omega
theorem SlR.jl {S T : ASl} {s : Slots} {k : Nat} (h : SlR F p ρ S s) : SlR F p (ρ.take k) (jS k S T) s :=
  ⟨Nat.le_trans jS_len.1 h.len, fun i a e => let ⟨b, c, h1, h2, h3⟩ := jS_get e; let ⟨v, g1, g2⟩ := h.at_ i b h1; ⟨v, g1, jAV_l h3 g2⟩⟩
theorem SlR.jr {S T : ASl} {s : Slots} {k : Nat} (h : SlR F p ρ T s) : SlR F p (ρ.take k) (jS k S T) s :=
  ⟨Nat.le_trans jS_len.2 h.len, fun i a e => let ⟨b, c, h1, h2, h3⟩ := jS_get e; let ⟨v, g1, g2⟩ := h.at_ i c h2; ⟨v, g1, jAV_r h3 g2⟩⟩
theorem SlR.set {S : ASl} {s : Slots} (h : SlR F p ρ S s) (i : Nat) {a : AV} {v : Val} (g : a.has F p ρ v) : SlR F p ρ (S.set i (some a)) (s.set i (some v)) := by
  refine ⟨by rw [List.length_set, List.length_set]; exact h.len, fun j b e => ?_⟩
  by_cases hj : i = j
  · subst hj
    have hi : i < S.length := by
      have := (List.getElem?_eq_some_iff.mp e).1
      rwa [List.length_set] at this
    rw [List.getElem?_set_self hi] at e
    cases e
    exact ⟨v, List.getElem?_set_self (by have := h.len; omega), g⟩
  · rw [List.getElem?_set_ne hj] at e ⊢
    exact h.at_ j b e
theorem SlR.wipe1 {S : ASl} {s : Slots} (h : SlR F p ρ S s) (i : Nat) : SlR F p ρ (S.set i none) (s.set i none) := by
  refine ⟨by rw [List.length_set, List.length_set]; exact h.len, fun j b e => ?_⟩
  by_cases hj : i = j
  · subst hj
    have hi : i < S.length := by
      have := (List.getElem?_eq_some_iff.mp e).1
      rwa [List.length_set] at this
    rw [List.getElem?_set_self hi] at e
    cases e
  · rw [List.getElem?_set_ne hj] at e ⊢
    exact h.at_ j b e
/-! what a state has, what a result has -/
def StR (F : Fam) (p : PT) (r0 : Mem) (X : ASt) (s : Slots) (m : Mem) (n : Nat) (ρ : List Nat) : Prop := ∃ S P, X = some (S, P) ∧ MR F p r0 ρ P m n ∧ SlR F p ρ S s
def RtR (F : Fam) (p : PT) (r0 : Mem) (X : ART) (v : Val) (m : Mem) (n : Nat) (ρ : List Nat) : Prop := ∃ A P, X = some (A, P) ∧ MR F p r0 ρ P m n ∧ ∀ a, A = some a → a.has F p ρ v
theorem jSt_l {k : Nat} {X Y Z : ASt} {s : Slots} (h : jSt k X Y = some Z) (g : StR F p r0 X s m n ρ) (e : Ext ρ0 ρ) (hk : ρ0.length ≤ k) : ∃ ρ', Ext ρ0 ρ' ∧ StR F p r0 Z s m n ρ' := by
  unfold jSt at h
  split at h
  · rename_i hb
    rw [Bool.and_eq_true] at hb
    cases h
    obtain ⟨S, P, rfl, h1, h2⟩ := g
    cases Y with
    | none => exact ⟨ρ, e, S, P, rfl, h1, h2⟩
    | some y =>
      have l1 : k ≤ P.length := by simpa [lnP] using hb.1
      have l2 : k ≤ y.2.length := by simpa [lnP] using hb.2
      exact ⟨_, e.tk (by rw [zipP_len]; omega), _, _, rfl, h1.zl, h2.jl⟩
  · cases h
theorem jSt_r {k : Nat} {X Y Z : ASt} {s : Slots} (h : jSt k X Y = some Z) (g : StR F p r0 Y s m n ρ) (e : Ext ρ0 ρ) (hk : ρ0.length ≤ k) : ∃ ρ', Ext ρ0 ρ' ∧ StR F p r0 Z s m n ρ' := by
  unfold jSt at h
  split at h
  · rename_i hb
    rw [Bool.and_eq_true] at hb
    cases h
    obtain ⟨S, P, rfl, h1, h2⟩ := g
    cases X with
    | none => exact ⟨ρ, e, S, P, rfl, h1, h2⟩
    | some y =>
      have l1 : k ≤ P.length := by simpa [lnP] using hb.2
      have l2 : k ≤ y.2.length := by simpa [lnP] using hb.1
      exact ⟨_, e.tk (by rw [zipP_len]; omega), _, _, rfl, h1.zr, h2.jr⟩
  · cases h
theorem jO_l {k : Nat} {A B : Option AV} {v : Val} (g : ∀ a, A = some a → a.has F p ρ v) : ∀ a, jO k A B = some a → a.has F p (ρ.take k) v := by
  intro a h
  cases A with
  | none => cases h
  | some x => cases B with
    | none => cases h
    | some y => exact jAV_l h (g x rfl)
theorem jO_r {k : Nat} {A B : Option AV} {v : Val} (g : ∀ a, B = some a → a.has F p ρ v) : ∀ a, jO k A B = some a → a.has F p (ρ.take k) v := by
  intro a h
  cases A with
  | none => cases h
  | some x => cases B with
    | none => cases h
    | some y => exact jAV_r h (g y rfl)
theorem jRt_l {k : Nat} {X Y Z : ART} {v : Val} (h : jRt k X Y = some Z) (g : RtR F p r0 X v m n ρ) (e : Ext ρ0 ρ) (hk : ρ0.length ≤ k) : ∃ ρ', Ext ρ0 ρ' ∧ RtR F p r0 Z v m n ρ' := by
  unfold jRt at h
  split at h
  · rename_i hb
    rw [Bool.and_eq_true] at hb
    cases h
    obtain ⟨A, P, rfl, h1, h2⟩ := g
    cases Y with
    | none => exact ⟨ρ, e, A, P, rfl, h1, h2⟩
    | some y =>
      have l1 : k ≤ P.length := by simpa [lnR] using hb.1
      have l2 : k ≤ y.2.length := by simpa [lnR] using hb.2
      exact ⟨_, e.tk (by rw [zipP_len]; omega), _, _, rfl, h1.zl, jO_l h2⟩
  · cases h
theorem jRt_r {k : Nat} {X Y Z : ART} {v : Val} (h : jRt k X Y = some Z) (g : RtR F p r0 Y v m n ρ) (e : Ext ρ0 ρ) (hk : ρ0.length ≤ k) : ∃ ρ', Ext ρ0 ρ' ∧ RtR F p r0 Z v m n ρ' := by
  unfold jRt at h
  split at h
  · rename_i hb
    rw [Bool.and_eq_true] at hb
    cases h
    obtain ⟨A, P, rfl, h1, h2⟩ := g
    cases X with
    | none => exact ⟨ρ, e, A, P, rfl, h1, h2⟩
    | some y =>
      have l1 : k ≤ P.length := by simpa [lnR] using hb.2
      have l2 : k ≤ y.2.length := by simpa [lnR] using hb.1
      exact ⟨_, e.tk (by rw [zipP_len]; omega), _, _, rfl, h1.zr, jO_r h2⟩
  · cases h
end
/-! ### what a test tells -/
def Cop.neg : Cop → Cop
  | .lt => .ge
  | .le => .gt
  | .gt => .le
  | .ge => .lt
  | .eq => .ne
  | .ne => .eq
  | o => o
def clampI (o : Cop) (k lo hi : Int) : Int × Int :=
  match o with
  | .lt => (lo, min hi (k - 1))
  | .le => (lo, min hi k)
  | .gt => (max lo (k + 1), hi)
  | .ge => (max lo k, hi)
  | .eq => (max lo k, min hi k)
  | .ne => (if lo = k then lo + 1 else lo, if hi = k then hi - 1 else hi)
  | _ => (lo, hi)
theorem clampI_ok {o : Cop} {k lo hi i : Int} {b : Bool} (h1 : lo ≤ i) (h2 : i ≤ hi) (h : cmpI o i k = some b) : (clampI (if b then o else o.neg) k lo hi).1 ≤ i ∧ i ≤ (clampI (if b then o else o.neg) k lo hi).2 := by
  cases o with
  | isIn => cases h
  | notIn => cases h
  | is => cases h
  | isNot => cases h
  | lt => cases h; by_cases hc : i < k <;> simp [hc, clampI, Cop.neg] <;> omega
  | le => cases h; by_cases hc : i ≤ k <;> simp [hc, clampI, Cop.neg] <;> omega
  | gt => cases h; by_cases hc : k < i <;> simp [hc, clampI, Cop.neg] <;> omega
  | ge => cases h; by_cases hc : k ≤ i <;> simp [hc, clampI, Cop.neg] <;> omega
  | eq => cases h; by_cases hc : i = k <;> simp [hc, clampI, Cop.neg] <;> omega
  | ne => cases h; by_cases hc : i = k <;> simp [hc, clampI, Cop.neg] <;> omega
def selI (o : Cop) (k : Int) : Sh → Option Sh
  | .int lo hi => if (clampI o k lo hi).1 ≤ (clampI o k lo hi).2 then some (.int (clampI o k lo hi).1 (clampI o k lo hi).2) else none
  | s => some s
def selL (o : Cop) (k : Int) : Sh → Option Sh
  | .str lo hi c => if (clampI o k lo hi).1 ≤ (clampI o k lo hi).2 then some (.str (clampI o k lo hi).1.toNat (clampI o k lo hi).2.toNat c) else none
  | .tups lo hi s => if (clampI o k lo hi).1 ≤ (clampI o k lo hi).2 then some (.tups (clampI o k lo hi).1.toNat (clampI o k lo hi).2.toNat s) else none
  | .lsts lo hi s => if (clampI o k lo hi).1 ≤ (clampI o k lo hi).2 then some (.lsts (clampI o k lo hi).1.toNat (clampI o k lo hi).2.toNat s) else none
  | .tup ss => if (clampI o k ss.length ss.length).1 ≤ (clampI o k ss.length ss.length).2 then some (.tup ss) else none
  | .lst ss => if (clampI o k ss.length ss.length).1 ≤ (clampI o k ss.length ss.length).2 then some (.lst ss) else none
  | .con (.str s) => if (clampI o k s.length s.length).1 ≤ (clampI o k s.length s.length).2 then some (.con (.str s)) else none
  | .con (.tup s) => if (clampI o k s.length s.length).1 ≤ (clampI o k s.length s.length).2 then some (.con (.tup s)) else none
  | .con (.lst s) => if (clampI o k s.length s.length).1 ≤ (clampI o k s.length s.length).2 then some (.con (.lst s)) else none
  | s => some s
def selT (ts : List Ty) (b : Bool) (s : Sh) : Option Sh := match s.isT ts with
  | some (some c) => if c = b then some s else none
  | _ => some s
def selN (b : Bool) (s : Sh) : Option Sh := match b with
  | true => if s.noNon then none else some s
  | false => match s with
    | .con .non => none
    | s => some s
def selB (b : Bool) (s : Sh) : Option Sh := match s.tr with
  | some (some c) => if c = b then some s else none
  | _ => if s.asBl then some (.con (.bl b)) else some s
def Sh.sel (f : Sh → Option Sh) (s : Sh) : Sh := Sh.ofAlts (s.alts.filterMap f)
theorem sel_ok {p : PT} {f : Sh → Option Sh} {s : Sh} {d : D} (h : s.has p d) (g : ∀ a, a.has p d → ∃ b, f a = some b ∧ b.has p d) : (s.sel f).has p d := by
  obtain ⟨a, h1, h2⟩ := alts_ok h
  obtain ⟨b, e, h3⟩ := g a h2
  exact ofAlts_ok ⟨b, List.mem_filterMap.mpr ⟨a, h1, e⟩, h3⟩
def upd (f : Sh → Option Sh) (i : Nat) (S : ASl) : ASl := match S[i]? with
  | some (some (.sh s)) => S.set i (some (.sh (s.sel f)))
  | _ => S
/-- may it be this text -/
def Sh.mayS (t : List Nat) : Sh → Bool
  | .con (.str u) => u == t
  | .con .non => false
  | .con (.int _) => false
  | .con (.bl _) => false
  | .con (.tup _) => false
  | .con (.lst _) => false
  | .str lo hi _ => decide (lo ≤ t.length) && decide (t.length ≤ hi)
  | .int _ _ => false
  | .bl => false
  | .tup _ => false
  | .lst _ => false
  | .tups _ _ _ => false
  | .lsts _ _ _ => false
  | .bot => false
  | .or a b => a.mayS t || b.mayS t
  | _ => true
/-- is it just this text -/
def Sh.isS (t : List Nat) : Sh → Bool
  | .con (.str u) => u == t
  | .bot => true
  | .or a b => a.isS t && b.isS t
  | _ => false
def selX (k : Int) (t : List Nat) (b : Bool) (s : Sh) : Option Sh := match aIdx (.sh s) (.sh (.int k k)) [] with
  | none => some s
  | some r => if (if b then r.mayS t else !r.isS t) then some s else none
def selS (t : List Nat) (b : Bool) (s : Sh) : Option Sh := if (if b then s.mayS t else !s.isS t) then some s else none
/-- held against the empty tuple -/
def selE (b : Bool) (s : Sh) : Option Sh := match s with
  | .tup [] => if b then some s else none
  | .tup (_ :: _) => if b then none else some s
  | .con (.tup []) => if b then some s else none
  | .con (.tup (_ :: _)) => if b then none else some s
  | .tups lo hi e => if b then (if lo = 0 then some (.tup []) else none) else (if hi = 0 then none else some (.tups (max lo 1) hi e))
  | .lst _ => if b then none else some s
  | .lsts _ _ _ => if b then none else some s
  | .str _ _ _ => if b then none else some s
  | .con (.str _) => if b then none else some s
  | .int _ _ => if b then none else some s
  | _ => some s
def ref : Ex → Bool → ASl → ASl
  | .var i, b, S => upd (selB b) i S
  | .isi (.var i) ts, b, S => upd (selT ts b) i S
  | .not a, b, S => ref a (!b) S
  | .and x y, b, S => match b with
    | true => ref y true (ref x true S)
    | false => S
  | .or x y, b, S => match b with
    | true => S
    | false => ref y false (ref x false S)
  | .cmp o x y, b, S => match x, y with
    | .var i, .con (.int k) => upd (selI (if b then o else o.neg) k) i S
    | .bi _ .len (.cons (.var i) .nil), .con (.int k) => upd (selL (if b then o else o.neg) k) i S
    | .var i, .con .non => match o with
      | .is => upd (selN b) i S
      | .isNot => upd (selN (!b)) i S
      | _ => S
    | .var i, .con (.str t) => match o with
      | .eq => upd (selS t b) i S
      | .ne => upd (selS t (!b)) i S
      | _ => S
    | .idx (.var i) (.con (.int k)), .con (.str t) => match o with
      | .eq => upd (selX k t b) i S
      | .ne => upd (selX k t (!b)) i S
      | _ => S
    | .var i, .tup .nil => match o with
      | .eq => upd (selE b) i S
      | .ne => upd (selE (!b)) i S
      | _ => S
    | _, _ => S
  | _, _, S => S
section
variable {F : Fam} {p : PT} {r0 : Mem} {ρ ρ' ρ0 : List Nat} {P P' Q : APl} {m m' : Mem} {n : Nat} {z : Bool} {C : Cal} {S : ASl} {s : Slots} {v : Val} {b : Bool}
theorem selT_ok {ts : List Ty} {d : D} {k : Kd} (hk : kdOf m (.d d) = some k) (hb : (ts.any fun t => tyB t k) = b) {a : Sh} (h : a.has p d) : ∃ c, selT ts b a = some c ∧ c.has p d := by
  unfold selT
  split
  · rename_i c e
    obtain ⟨k', h1, h2⟩ := isT_ok (m := m) e h
    rw [hk] at h1
    cases h1
    rw [if_pos ((h2 c rfl).symm.trans hb)]
    exact ⟨a, rfl, h⟩
  · exact ⟨a, rfl, h⟩
theorem selN_ok {d : D} (hb : isNon d = b) {a : Sh} (h : a.has p d) : ∃ c, selN b a = some c ∧ c.has p d := by
  unfold selN
  split
  · split
    · rename_i hn
      rw [noNon_ok hn h] at hb
      cases hb
    · exact ⟨a, rfl, h⟩
  · split
    · unfold Sh.has at h
      subst h
      cases hb
    · exact ⟨a, rfl, h⟩
theorem selB_ok {d : D} (hb : truth m (.d d) = some b) {a : Sh} (h : a.has p d) : ∃ c, selB b a = some c ∧ c.has p d := by
  unfold selB
  split
  · rename_i c e
    obtain ⟨k, h1, h2⟩ := tr_ok (m := m) e h
    rw [hb] at h1
    cases h1
    rw [if_pos (h2 c rfl).symm]
    exact ⟨a, rfl, h⟩
  · split
    · rename_i hbl
      obtain ⟨x, rfl⟩ := asBl_ok hbl h
      cases hb
      exact ⟨_, rfl, by unfold Sh.has; rfl⟩
    · exact ⟨a, rfl, h⟩
theorem selI_ok {o : Cop} {k i : Int} (hb : cmpI o i k = some b) {a : Sh} (h : a.has p (.int i)) : ∃ c, selI (if b then o else o.neg) k a = some c ∧ c.has p (.int i) := by
  unfold selI
  split
  · unfold Sh.has at h
    obtain ⟨j, e, h1, h2⟩ := h
    cases e
    have := clampI_ok h1 h2 hb
    rw [if_pos (by omega)]
    refine ⟨_, rfl, ?_⟩
    unfold Sh.has
    exact ⟨i, rfl, this.1, this.2⟩
  · exact ⟨a, rfl, h⟩
theorem selL_ok {o : Cop} {k : Int} {d : D} {l : Nat} (hl : lenV m (.d d) = some l) (hb : cmpI o (l : Int) k = some b) {a : Sh} (h : a.has p d) : ∃ c, selL (if b then o else o.neg) k a = some c ∧ c.has p d := by
  unfold selL
  split
  · unfold Sh.has at h
    obtain ⟨t, rfl, h1, h2, h3⟩ := h
    cases hl
    have := clampI_ok (lo := ((_ : Nat) : Int)) (hi := ((_ : Nat) : Int)) (Int.ofNat_le.mpr h1) (Int.ofNat_le.mpr h2) hb
    rw [if_pos (by omega)]
    refine ⟨_, rfl, ?_⟩
    unfold Sh.has
    exact ⟨t, rfl, by omega, by omega, h3⟩
  · unfold Sh.has at h
    obtain ⟨t, rfl, h1, h2, h3⟩ := h
    cases hl
    have := clampI_ok (lo := ((_ : Nat) : Int)) (hi := ((_ : Nat) : Int)) (Int.ofNat_le.mpr h1) (Int.ofNat_le.mpr h2) hb
    rw [if_pos (by omega)]
    refine ⟨_, rfl, ?_⟩
    unfold Sh.has
    exact ⟨t, rfl, by omega, by omega, h3⟩
  · unfold Sh.has at h
    obtain ⟨t, rfl, h1, h2, h3⟩ := h
    cases hl
    have := clampI_ok (lo := ((_ : Nat) : Int)) (hi := ((_ : Nat) : Int)) (Int.ofNat_le.mpr h1) (Int.ofNat_le.mpr h2) hb
    rw [if_pos (by omega)]
    refine ⟨_, rfl, ?_⟩
    unfold Sh.has
    exact ⟨t, rfl, by omega, by omega, h3⟩
  · have h0 := h
    unfold Sh.has at h
    obtain ⟨t, rfl, h1⟩ := h
    cases hl
    rw [hasL_len h1] at hb
    have := clampI_ok (Int.le_refl _) (Int.le_refl _) hb
    rw [if_pos (by omega)]
    exact ⟨_, rfl, h0⟩
  · have h0 := h
    unfold Sh.has at h
    obtain ⟨t, rfl, h1⟩ := h
    cases hl
    rw [hasL_len h1] at hb
    have := clampI_ok (Int.le_refl _) (Int.le_refl _) hb
    rw [if_pos (by omega)]
    exact ⟨_, rfl, h0⟩
  · have h0 := h
    unfold Sh.has at h
    subst h
    cases hl
    have := clampI_ok (Int.le_refl _) (Int.le_refl _) hb
    rw [if_pos (by omega)]
    exact ⟨_, rfl, h0⟩
  · have h0 := h
    unfold Sh.has at h
    subst h
    cases hl
    have := clampI_ok (Int.le_refl _) (Int.le_refl _) hb
    rw [if_pos (by omega)]
    exact ⟨_, rfl, h0⟩
  · have h0 := h
    unfold Sh.has at h
    subst h
    cases hl
    have := clampI_ok (Int.le_refl _) (Int.le_refl _) hb
    rw [if_pos (by omega)]
    exact ⟨_, rfl, h0⟩
  · exact ⟨a, rfl, h⟩
theorem upd_ok {f : Sh → Option Sh} {i : Nat} (h : SlR F p ρ S s) (g : ∀ d, s[i]? = some (some (.d d)) → ∀ a : Sh, a.has p d → ∃ b, f a = some b ∧ b.has p d) : SlR F p ρ (upd f i S) s := by
  unfold upd
  split
  · rename_i t e
    obtain ⟨v, h1, d, rfl, h2⟩ := h.at_ i _ e
    have := h.set i (a := .sh (t.sel f)) (v := .d d) ⟨d, rfl, sel_ok h2 (g d h1)⟩
    have hs : s.set i (some (.d d)) = s := by
      refine List.ext_getElem? fun j => ?_
      by_cases hj : i = j
      · subst hj
        rw [List.getElem?_set_self (List.getElem?_eq_some_iff.mp h1).1, h1]
      · rw [List.getElem?_set_ne hj]
    rw [hs] at this
    exact this
  · exact h
theorem var_in {i : Nat} (h : evE C (.var i) s m = .ok v m') : s[i]? = some (some v) ∧ m' = m := by
  have h' : getV s[i]? m = .ok v m' := h
  unfold getV at h'
  split at h'
  · rename_i w e
    cases h'
    exact ⟨e, rfl⟩
  · cases h'
theorem bV_ok {x : R Bool} (h : bV x = .ok v m') : ∃ c, x = .ok c m' ∧ v = .d (.bl c) := by
  unfold bV at h
  cases x with
  | ok c m1 => cases h; exact ⟨c, rfl, rfl⟩
  | ex e m1 => cases h
  | no => cases h
theorem bind_ok {α β : Type} {x : R α} {f : α → Mem → R β} {w : β} (h : x.bind f = .ok w m') : ∃ a m1, x = .ok a m1 ∧ f a m1 = .ok w m' := by
  cases x with
  | ok a m1 => exact ⟨a, m1, rfl, h⟩
  | ex e m1 => cases h
  | no => cases h
theorem opt_ok {α : Type} {x : Option α} {w : α} (h : R.opt x m = .ok w m') : x = some w ∧ m' = m := by
  cases x with
  | some a => cases h; exact ⟨rfl, rfl⟩
  | none => cases h
theorem cmpVar_ok {o : Cop} {i : Nat} {e : D} (h : evE C (.cmp o (.var i) (.con e)) s m = .ok v m') : ∃ x c, s[i]? = some (some (.d x)) ∧ v = .d (.bl c) ∧ cmpD o x e = some c := by
  have h' : ((evE C (.var i) s m).bind fun x m => (evE C (.con e) s m).bind fun y m => bV (cmpV o x y m)) = .ok v m' := h
  obtain ⟨x, m1, h1, h2⟩ := bind_ok h'
  obtain ⟨h3, rfl⟩ := var_in h1
  have h4 : bV (cmpV o x (.d e) m1) = .ok v m' := h2
  obtain ⟨c, h5, rfl⟩ := bV_ok h4
  cases x with
  | r j => cases h5
  | d x =>
    have h6 : R.opt (cmpD o x e) m1 = .ok c m' := h5
    exact ⟨x, c, h3, rfl, (opt_ok h6).1⟩
theorem cmpLen_ok {o : Cop} {i : Nat} {k : Int} {zz : Bool} (h : evE C (.cmp o (.bi zz .len (.cons (.var i) .nil)) (.con (.int k))) s m = .ok v m') : ∃ x l c, s[i]? = some (some x) ∧ lenV m x = some l ∧ v = .d (.bl c) ∧ cmpI o (l : Int) k = some c := by
  have h' : ((evE C (.bi zz .len (.cons (.var i) .nil)) s m).bind fun x m => (evE C (.con (.int k)) s m).bind fun y m => bV (cmpV o x y m)) = .ok v m' := h
  obtain ⟨x, m1, h1, h2⟩ := bind_ok h'
  have h1' : ((evEs C (.cons (.var i) .nil) s m).bind fun vs m => biV zz .len vs m) = .ok x m1 := h1
  obtain ⟨vs, m2, h3, h4⟩ := bind_ok h1'
  have h3' : ((evE C (.var i) s m).bind fun v m => (R.ok [] m).bind fun vs m => R.ok (v :: vs) m) = .ok vs m2 := h3
  obtain ⟨w, m3, h5, h6⟩ := bind_ok h3'
  obtain ⟨h7, rfl⟩ := var_in h5
  cases h6
  have h4' : ((R.opt (lenV _ w) _).bind fun n m => R.ok (Val.d (.int n)) m) = .ok x _ := h4
  obtain ⟨l, m4, h8, h9⟩ := bind_ok h4'
  obtain ⟨h10, rfl⟩ := opt_ok h8
  cases h9
  have h11 : bV (cmpV o (.d (.int l)) (.d (.int k)) _) = .ok v _ := h2
  obtain ⟨c, h12, rfl⟩ := bV_ok h11
  have h13 : R.opt (cmpI o (l : Int) k) _ = .ok c _ := h12
  exact ⟨w, l, c, h7, h10, rfl, (opt_ok h13).1⟩
theorem isVar_ok {i : Nat} {ts : List Ty} (h : evE C (.isi (.var i) ts) s m = .ok v m') : ∃ x k, s[i]? = some (some x) ∧ kdOf m x = some k ∧ v = .d (.bl (ts.any fun t => tyB t k)) := by
  have h' : ((evE C (.var i) s m).bind fun x m => (R.opt (kdOf m x) m).bind fun k m => .ok (.d (.bl (ts.any fun t => tyB t k))) m) = .ok v m' := h
  obtain ⟨x, m1, h1, h2⟩ := bind_ok h'
  obtain ⟨h3, rfl⟩ := var_in h1
  obtain ⟨k, m2, h4, h5⟩ := bind_ok h2
  obtain ⟨h6, rfl⟩ := opt_ok h4
  cases h5
  exact ⟨x, k, h3, h6, rfl⟩
theorem and_in {x y : Ex} (h : evE C (.and x y) s m = .ok v m') : ∃ w m1, evE C x s m = .ok w m1 ∧ ((truth m1 w = some true ∧ evE C y s m1 = .ok v m') ∨ (truth m1 w = some false ∧ v = w ∧ m' = m1)) := by
  have h' : ((evE C x s m).bind fun w m => match truth m w with
    | some true => evE C y s m
    | some false => .ok w m
    | none => .no) = .ok v m' := h
  obtain ⟨w, m1, h1, h2⟩ := bind_ok h'
  refine ⟨w, m1, h1, ?_⟩
  cases ht : truth m1 w with
  | none => rw [ht] at h2; cases h2
  | some c =>
    rw [ht] at h2
    cases c with
    | true => exact .inl ⟨rfl, h2⟩
    | false => cases h2; exact .inr ⟨rfl, rfl, rfl⟩
theorem or_in {x y : Ex} (h : evE C (.or x y) s m = .ok v m') : ∃ w m1, evE C x s m = .ok w m1 ∧ ((truth m1 w = some false ∧ evE C y s m1 = .ok v m') ∨ (truth m1 w = some true ∧ v = w ∧ m' = m1)) := by
  have h' : ((evE C x s m).bind fun w m => match truth m w with
    | some true => .ok w m
    | some false => evE C y s m
    | none => .no) = .ok v m' := h
  obtain ⟨w, m1, h1, h2⟩ := bind_ok h'
  refine ⟨w, m1, h1, ?_⟩
  cases ht : truth m1 w with
  | none => rw [ht] at h2; cases h2
  | some c =>
    rw [ht] at h2
    cases c with
    | false => exact .inl ⟨rfl, h2⟩
    | true => cases h2; exact .inr ⟨rfl, rfl, rfl⟩
theorem eqs_of {d : D} {t : List Nat} {c : Bool} (h : cmpD .eq d (.str t) = some c) : c = D.eq d (.str t) := by
  have h' : (if eqOk d (.str t) then some (D.eq d (.str t)) else none) = some c := by cases d <;> exact h
  split at h'
  · exact (Option.some.inj h').symm
  · cases h'
theorem nes_of {d : D} {t : List Nat} {c : Bool} (h : cmpD .ne d (.str t) = some c) : c = !D.eq d (.str t) := by
  have h' : (if eqOk d (.str t) then some (!D.eq d (.str t)) else none) = some c := by cases d <;> exact h
  split at h'
  · exact (Option.some.inj h').symm
  · cases h'
theorem mayS_ok {t : List Nat} : ∀ {s : Sh} {d : D}, s.has p d → D.eq d (.str t) = true → s.mayS t = true
  | .con e, d, h, g => by
    unfold Sh.has at h
    subst h
    cases d <;> first | (unfold D.eq at g; first | exact g | (cases g; done)) | rfl
  | .str lo hi c, d, h, g => by
    unfold Sh.has at h
    obtain ⟨u, rfl, h1, h2, _⟩ := h
    unfold D.eq at g
    have g := beq_iff_eq.mp g
    subst g
    unfold Sh.mayS
    rw [decide_eq_true h1, decide_eq_true h2]
    rfl
  | .int _ _, d, h, g => by unfold Sh.has at h; obtain ⟨u, rfl, _⟩ := h; unfold D.eq at g; cases g
  | .bl, d, h, g => by unfold Sh.has at h; obtain ⟨u, rfl⟩ := h; unfold D.eq at g; cases g
  | .tup _, d, h, g => by unfold Sh.has at h; obtain ⟨u, rfl, _⟩ := h; unfold D.eq at g; cases g
  | .lst _, d, h, g => by unfold Sh.has at h; obtain ⟨u, rfl, _⟩ := h; unfold D.eq at g; cases g
  | .tups _ _ _, d, h, g => by unfold Sh.has at h; obtain ⟨u, rfl, _⟩ := h; unfold D.eq at g; cases g
  | .lsts _ _ _, d, h, g => by unfold Sh.has at h; obtain ⟨u, rfl, _⟩ := h; unfold D.eq at g; cases g
  | .bot, d, h, g => by unfold Sh.has at h; exact h.elim
  | .or a b, d, h, g => by
    unfold Sh.has at h
    unfold Sh.mayS
    rw [Bool.or_eq_true]
    exact h.imp (fun h => mayS_ok h g) (fun h => mayS_ok h g)
  | .big, d, h, g => rfl
  | .nm _, d, h, g => rfl
theorem isSt_ok {t : List Nat} : ∀ {s : Sh} {d : D}, s.has p d → s.isS t = true → D.eq d (.str t) = true
  | .con e, d, h, g => by
    unfold Sh.has at h
    subst h
    cases d <;> first | (cases g; done) | (unfold D.eq; exact g)
  | .bot, d, h, g => by unfold Sh.has at h; exact h.elim
  | .or a b, d, h, g => by
    unfold Sh.has at h
    unfold Sh.isS at g
    rw [Bool.and_eq_true] at g
    exact h.elim (fun h => isSt_ok h g.1) (fun h => isSt_ok h g.2)
  | .str lo hi c, d, h, g => by cases g
  | .int _ _, d, h, g => by cases g
  | .bl, d, h, g => by cases g
  | .tup _, d, h, g => by cases g
  | .lst _, d, h, g => by cases g
  | .tups _ _ _, d, h, g => by cases g
  | .lsts _ _ _, d, h, g => by cases g
  | .big, d, h, g => by cases g
  | .nm _, d, h, g => by cases g
theorem selS_ok {t : List Nat} {d : D} (hb : D.eq d (.str t) = b) {a : Sh} (h : a.has p d) : ∃ c, selS t b a = some c ∧ c.has p d := by
  unfold selS
  cases b with
  | true => rw [if_pos (by rw [if_pos rfl]; exact mayS_ok h hb)]; exact ⟨a, rfl, h⟩
  | false =>
    rw [if_pos]
    · exact ⟨a, rfl, h⟩
    · show (!a.isS t) = true
      cases hi : a.isS t with
      | true => rw [isSt_ok h hi] at hb; cases hb
      | false => rfl
theorem idx_mem {d : D} {y : Val} : idxK m (.d d) y = idxK [] (.d d) y := by
  cases d <;> cases y with
  | d k => cases k <;> rfl
  | r j => rfl
theorem mrX : MR ⟨Unit, fun _ _ => [], 0, fun _ _ => rfl, 0⟩ p [] [] [] [] 0 := ⟨⟨(), [], rfl⟩, rfl, List.nodup_nil, (fun _ h => by cases h), (fun _ _ _ h => by simp at h)⟩
theorem selX_ok {k : Int} {t : List Nat} {d e : D} (he : idxK m (.d d) (.d (.int k)) = some (.d e)) (hb : D.eq e (.str t) = b) {a : Sh} (h : a.has p d) : ∃ c, selX k t b a = some c ∧ c.has p d := by
  unfold selX
  split
  · exact ⟨a, rfl, h⟩
  · rename_i r hr
    obtain ⟨e', h1, h2⟩ := aIdx_ok (x := .d d) (y := .d (.int k)) hr (mrX (p := p)) ⟨d, rfl, h⟩ ⟨_, rfl, hasInt (Int.le_refl _) (Int.le_refl _)⟩
    rw [idx_mem, h1] at he
    cases he
    have hc : (if b then r.mayS t else !r.isS t) = true := by
      obtain ⟨c, h3, _⟩ := selS_ok (b := b) hb h2
      unfold selS at h3
      by_cases hq : (if b then r.mayS t else !r.isS t) = true
      · exact hq
      · rw [if_neg hq] at h3; cases h3
    rw [if_pos hc]
    exact ⟨a, rfl, h⟩
theorem selE_ok {d : D} (hb : D.eq d (.tup []) = b) {a : Sh} (h : a.has p d) : ∃ c, selE b a = some c ∧ c.has p d := by
  have ne : ∀ {x : D} {xs : List D}, D.eq (.tup (x :: xs)) (.tup []) = false := fun {x xs} => by unfold D.eq; rfl
  have em : D.eq (.tup []) (.tup []) = true := by unfold D.eq; rfl
  have no : ∀ {c : Sh}, D.eq d (.tup []) = false → (if b then none else some c) = some c := fun h => by rw [← hb, h]; rfl
  unfold selE
  split
  · unfold Sh.has Sh.hasL at h
    obtain ⟨ds, rfl, rfl⟩ := h
    rw [em] at hb
    subst hb
    exact ⟨_, rfl, by unfold Sh.has Sh.hasL; exact ⟨_, rfl, rfl⟩⟩
  · have h0 := h
    unfold Sh.has Sh.hasL at h
    obtain ⟨ds, rfl, x, r, rfl, _⟩ := h
    rw [no ne]
    exact ⟨_, rfl, h0⟩
  · have h0 := h
    unfold Sh.has at h
    subst h
    rw [em] at hb
    subst hb
    exact ⟨_, rfl, h0⟩
  · have h0 := h
    unfold Sh.has at h
    subst h
    rw [no ne]
    exact ⟨_, rfl, h0⟩
  · rename_i lo hi e
    unfold Sh.has at h
    obtain ⟨ds, rfl, h1, h2, h3⟩ := h
    cases ds with
    | nil =>
      rw [em] at hb
      subst hb
      rw [if_pos rfl, if_pos (by simpa using h1)]
      exact ⟨_, rfl, by unfold Sh.has Sh.hasL; exact ⟨_, rfl, rfl⟩⟩
    | cons x xs =>
      rw [ne] at hb
      subst hb
      rw [if_neg (by decide), if_neg (by simp at h2; omega)]
      refine ⟨_, rfl, ?_⟩
      unfold Sh.has
      exact ⟨_, rfl, by simp at h1 ⊢; omega, h2, h3⟩
  · have h0 := h
    unfold Sh.has at h
    obtain ⟨ds, rfl, _⟩ := h
    rw [no (by unfold D.eq; rfl)]
    exact ⟨_, rfl, h0⟩
  · have h0 := h
    unfold Sh.has at h
    obtain ⟨ds, rfl, _⟩ := h
    rw [no (by unfold D.eq; rfl)]
    exact ⟨_, rfl, h0⟩
  · have h0 := h
    unfold Sh.has at h
    obtain ⟨ds, rfl, _⟩ := h
    rw [no (by unfold D.eq; rfl)]
    exact ⟨_, rfl, h0⟩
  · have h0 := h
    unfold Sh.has at h
    subst h
    rw [no (by unfold D.eq; rfl)]
    exact ⟨_, rfl, h0⟩
  · have h0 := h
    unfold Sh.has at h
    obtain ⟨ds, rfl, _⟩ := h
    rw [no (by unfold D.eq; rfl)]
    exact ⟨_, rfl, h0⟩
  · exact ⟨a, rfl, h⟩
theorem idx_in {i : Nat} {k : Int} {x : Val} {m1 : Mem} (h : evE C (.idx (.var i) (.con (.int k))) s m = .ok x m1) : ∃ w, s[i]? = some (some w) ∧ idxK m w (.d (.int k)) = some x ∧ m1 = m := by
  have h1' : ((evE C (.var i) s m).bind fun x m => (R.ok (Val.d (.int k)) m).bind fun y m => R.opt (idxK m x y) m) = .ok x m1 := h
  obtain ⟨w, m2, h3, h4⟩ := bind_ok h1'
  obtain ⟨h5, e2⟩ := var_in h3
  have h4' : R.opt (idxK m2 w (.d (.int k))) m2 = .ok x m1 := h4
  obtain ⟨h6, e3⟩ := opt_ok h4'
  rw [e2] at h6
  exact ⟨w, h5, h6, e3.trans e2⟩
theorem cmpIdx_ok {o : Cop} {i : Nat} {k : Int} {e : D} (h : evE C (.cmp o (.idx (.var i) (.con (.int k))) (.con e)) s m = .ok v m') : ∃ x y c, s[i]? = some (some x) ∧ idxK m x (.d (.int k)) = some (.d y) ∧ v = .d (.bl c) ∧ cmpD o y e = some c := by
  have h' : ((evE C (.idx (.var i) (.con (.int k))) s m).bind fun x m => (evE C (.con e) s m).bind fun y m => bV (cmpV o x y m)) = .ok v m' := h
  obtain ⟨x, m1, h1, h2⟩ := bind_ok h'
  obtain ⟨w, h5, h6, e1⟩ := idx_in h1
  have h7 : bV (cmpV o x (.d e) m1) = .ok v m' := h2
  obtain ⟨c, h8, hv⟩ := bV_ok h7
  cases x with
  | r j => cases h8
  | d x =>
    have h9 : R.opt (cmpD o x e) m1 = .ok c m' := h8
    exact ⟨w, x, c, h5, h6, hv, (opt_ok h9).1⟩
theorem cmpEmp_ok {o : Cop} {i : Nat} (h : evE C (.cmp o (.var i) (.tup .nil)) s m = .ok v m') : ∃ x c, s[i]? = some (some (.d x)) ∧ v = .d (.bl c) ∧ cmpD o x (.tup []) = some c := by
  have h' : ((evE C (.var i) s m).bind fun x m => (R.ok (Val.d (.tup [])) m).bind fun y m => bV (cmpV o x y m)) = .ok v m' := h
  obtain ⟨x, m1, h1, h2⟩ := bind_ok h'
  obtain ⟨h3, _⟩ := var_in h1
  have h4 : bV (cmpV o x (.d (.tup [])) m1) = .ok v m' := h2
  obtain ⟨c, h5, hv⟩ := bV_ok h4
  cases x with
  | r j => cases h5
  | d x =>
    have h6 : R.opt (cmpD o x (.tup [])) m1 = .ok c m' := h5
    exact ⟨x, c, h3, hv, (opt_ok h6).1⟩
theorem eqt_of {d : D} {c : Bool} (h : cmpD .eq d (.tup []) = some c) : D.eq d (.tup []) = c := by
  have h' : (if eqOk d (.tup []) then some (D.eq d (.tup [])) else none) = some c := by cases d <;> exact h
  split at h'
  · exact Option.some.inj h'
  · cases h'
theorem net_of {d : D} {c : Bool} (h : cmpD .ne d (.tup []) = some c) : D.eq d (.tup []) = !c := by
  have h' : (if eqOk d (.tup []) then some (!D.eq d (.tup [])) else none) = some c := by cases d <;> exact h
  split at h'
  · rw [← Option.some.inj h', Bool.not_not]
  · cases h'
theorem ref_ok : ∀ (c : Ex) (b : Bool) {S : ASl} {m m' : Mem} {v : Val}, evE C c s m = .ok v m' → truth m' v = some b → SlR F p ρ S s → SlR F p ρ (ref c b S) s := by
  intro c
  induction c using Ex.rec (motive_2 := fun _ => True) (motive_3 := fun _ => True) with
  | var i =>
    intro b S m m' v h ht g
    obtain ⟨h1, rfl⟩ := var_in h
    refine upd_ok g fun d e a ha => ?_
    rw [h1] at e
    cases e
    exact selB_ok ht ha
  | not a ih =>
    intro b S m m' v h ht g
    have h' : ((evE C a s m).bind fun x m => match truth m x with
      | some k => R.ok (Val.d (.bl (!k))) m
      | none => .no) = .ok v m' := h
    obtain ⟨x, m1, h1, h2⟩ := bind_ok h'
    cases hx : truth m1 x with
    | none => rw [hx] at h2; cases h2
    | some k =>
      rw [hx] at h2
      cases h2
      have : (!k) = b := Option.some.inj ht
      refine ih (!b) h1 ?_ g
      rw [hx, ← this, Bool.not_not]
  | and x y ihx ihy =>
    intro b S m m' v h ht g
    cases b with
    | false => exact g
    | true =>
      obtain ⟨w, m1, h1, h2⟩ := and_in h
      rcases h2 with ⟨h2, h3⟩ | ⟨h2, rfl, rfl⟩
      · exact ihy true h3 ht (ihx true h1 h2 g)
      · rw [h2] at ht; cases ht
  | or x y ihx ihy =>
    intro b S m m' v h ht g
    cases b with
    | true => exact g
    | false =>
      obtain ⟨w, m1, h1, h2⟩ := or_in h
      rcases h2 with ⟨h2, h3⟩ | ⟨h2, rfl, rfl⟩
      · exact ihy false h3 ht (ihx false h1 h2 g)
      · rw [h2] at ht; cases ht
  | isi a ts ih =>
    intro b S m m' v h ht g
    cases a with
    | var i =>
      obtain ⟨x, k, h1, h2, rfl⟩ := isVar_ok h
      refine upd_ok g fun d e a ha => ?_
      rw [h1] at e
      cases e
      exact selT_ok h2 (Option.some.inj ht) ha
    | _ => exact g
  | cmp o x y ihx ihy =>
    intro b S m m' v h ht g
    unfold ref
    split
    · obtain ⟨x, c, h1, rfl, h2⟩ := cmpVar_ok h
      have : c = b := Option.some.inj ht
      subst this
      refine upd_ok g fun d e a ha => ?_
      rw [h1] at e
      cases e
      cases x with
      | int i => exact selI_ok h2 ha
      | _ =>
        unfold selI
        split
        · unfold Sh.has at ha
          obtain ⟨j, e, _⟩ := ha
          cases e
        · exact ⟨a, rfl, ha⟩
    · obtain ⟨x, l, c, h1, h2, rfl, h3⟩ := cmpLen_ok h
      have : c = b := Option.some.inj ht
      subst this
      refine upd_ok g fun d e a ha => ?_
      rw [h1] at e
      cases e
      exact selL_ok h2 h3 ha
    · obtain ⟨x, c, h1, rfl, h2⟩ := cmpVar_ok h
      have : c = b := Option.some.inj ht
      subst this
      split
      · refine upd_ok g fun d e a ha => ?_
        rw [h1] at e
        cases e
        refine selN_ok ?_ ha
        have : isNon x = c := by cases x <;> exact Option.some.inj h2
        exact this
      · refine upd_ok g fun d e a ha => ?_
        rw [h1] at e
        cases e
        refine selN_ok ?_ ha
        have : (!isNon x) = c := by cases x <;> exact Option.some.inj h2
        rw [← this, Bool.not_not]
      · exact g
    · obtain ⟨x, c, h1, rfl, h2⟩ := cmpVar_ok h
      have : c = b := Option.some.inj ht
      subst this
      split
      · refine upd_ok g fun d e a ha => ?_
        rw [h1] at e
        cases e
        exact selS_ok (eqs_of h2).symm ha
      · refine upd_ok g fun d e a ha => ?_
        rw [h1] at e
        cases e
        exact selS_ok (by rw [nes_of h2, Bool.not_not]) ha
      · exact g
    · obtain ⟨x, y, c, h1, h2, rfl, h3⟩ := cmpIdx_ok h
      have : c = b := Option.some.inj ht
      subst this
      split
      · refine upd_ok g fun d e a ha => ?_
        rw [h1] at e
        cases e
        exact selX_ok h2 (eqs_of h3).symm ha
      · refine upd_ok g fun d e a ha => ?_
        rw [h1] at e
        cases e
        exact selX_ok h2 (by rw [nes_of h3, Bool.not_not]) ha
      · exact g
    · obtain ⟨x, c, h1, rfl, h2⟩ := cmpEmp_ok h
      have : c = b := Option.some.inj ht
      subst this
      split
      · refine upd_ok g fun d e a ha => ?_
        rw [h1] at e
        cases e
        exact selE_ok (eqt_of h2) ha
      · refine upd_ok g fun d e a ha => ?_
        rw [h1] at e
        cases e
        exact selE_ok (net_of h2) ha
      · exact g
    · exact g
  | _ => first | trivial | (intro b S m m' v h ht g; exact g)
def deadV : Option AV → Bool
  | some (.sh .bot) => true
  | _ => false
def dead (S : ASl) : Bool := S.any deadV
theorem dead_ok (h : SlR F p ρ S s) (hd : dead S = true) : False := by
  obtain ⟨a, ha, hb⟩ := List.any_eq_true.mp hd
  unfold deadV at hb
  split at hb
  · obtain ⟨i, hi⟩ := List.mem_iff_getElem?.mp ha
    obtain ⟨v, h1, d, _, h2⟩ := h.at_ i _ hi
    unfold Sh.has at h2
    exact h2
  · cases hb
end
end Rf

namespace Rf
/-! ### expressions, read abstractly -/
structure ACal where
  call : Nat → List AV → APl → Option (AV × APl × Nat)
  glo : Nat → Option D
  /-- names whose ways are gone through one by one -/
  sp : Nat → Bool
inductive AWv where
  | v (a : AV)
  | t (as : List AV)
inductive AWk where
  | fix (rs : List (APl → Option AWv)) (fin : APl → Bool)
  | hom (lo hi : Nat) (w : AWv)
def fixL (ws : List AWv) : AWk := .fix (ws.map fun w _ => some w) fun _ => true
def wkQ (f : Sh → AWv) : Sq → AWk
  | .fix ss => fixL (ss.map f)
  | .hom lo hi s => .hom lo hi (f s)
def vS (s : Sh) : AWv := .v (.sh s)
def plIs (j N : Nat) (P : APl) : Option Sq := (asL (.pl j) P).bind fun q => if q.lo = N ∧ q.hi = N then some q else none
def aExW (a : AV) (P : APl) : Option AWk :=
  match a with
  | .pl j => (asL (.pl j) P).bind fun q => if q.lo = q.hi then some (.fix ((List.range q.lo).map fun (k : Nat) P => (plIs j q.lo P).bind fun q => (q.at (k : Int) (k : Int)).map vS) fun P => (plIs j q.lo P).isSome) else none
  | .sh s => match s.asStr with
    | some (l, h, c) => match s with
      | .con (.str t) => some (fixL (t.map fun c => vS (.con (.str [c]))))
      | _ => some (.hom l h (vS (.str 1 1 c)))
    | none => match s.asTup with
      | some q => some (wkQ vS q)
      | none => (s.asLst).map (wkQ vS)
  | .dk => none
def aRng (a b : AV) : Option AWk :=
  match a, b with
  | .sh a, .sh b => match a.asInt, b.asInt with
    | some (x, y), some (u, v) => if -(2 ^ 40) ≤ x ∧ y < 2 ^ 40 ∧ -(2 ^ 40) ≤ u ∧ v < 2 ^ 40 ∧ v - x ≤ LINE then
        (if x = y ∧ u = v ∧ u - x ≤ 64 then some (fixL ((List.range (u - x).toNat).map fun k => vS (.int (x + (k : Nat)) (x + (k : Nat))))) else some (.hom (u - y).toNat (v - x).toNat (vS (.int x (v - 1)))))
      else none
    | _, _ => none
  | _, _ => none
def aRng3 (a b c : AV) : Option AWk :=
  match a, b, c with
  | .sh a, .sh b, .sh c => match a.asInt, b.asInt, c.asInt with
    | some (x, y), some (u, v), some (i, j) => if -(2 ^ 40) ≤ x ∧ y < 2 ^ 40 ∧ -(2 ^ 40) ≤ u ∧ v < 2 ^ 40 ∧ x = y ∧ u = v ∧ i = j ∧ 0 < i.natAbs ∧ i.natAbs < 2 ^ 30 ∧ rgN x u i ≤ 64 then
        some (fixL ((List.range (rgN x u i)).map fun k => vS (.int (x + (k : Nat) * i) (x + (k : Nat) * i))))
      else none
    | _, _, _ => none
  | _, _, _ => none
def tS (k : Nat) : List Sh → List AWv
  | [] => []
  | s :: ss => .t [.sh (.int k k), .sh s] :: tS (k + 1) ss
def aEnum (a : AV) (P : APl) : Option AWk :=
  match a with
  | .sh s => match s.asLst with
    | some (.fix ss) => some (fixL (tS 0 ss))
    | some (.hom lo hi s) => some (.hom lo hi (.t [.sh (.int 0 hi), .sh s]))
    | none => none
  | _ => none
def aZip (a b : AV) : Option AWk :=
  match a, b with
  | .sh a, .sh b => match a.asTup, b.asTup with
    | some q, some r => some (.hom (min q.lo r.lo) (min q.hi r.hi) (.t [.sh q.el, .sh r.el]))
    | _, _ => match a.asLst, b.asLst with
      | some q, some r => some (.hom (min q.lo r.lo) (min q.hi r.hi) (.t [.sh q.el, .sh r.el]))
      | _, _ => none
  | _, _ => none
/-! targets -/
def itemsA (n : Nat) (a : AV) (P : APl) : Option (List Sh) :=
  (match a with
  | .sh s => match s.asTup with
    | some q => some q
    | none => s.asLst
  | a => asL a P).bind fun q => match q with
    | .fix ss => some ss
    | .hom lo hi s => if lo = n ∧ hi = n then some (List.replicate n s) else none
def Tgs.len : Tgs → Nat
  | .nil => 0
  | .cons _ ts => ts.len + 1
mutual
def aAsg (P : APl) : Tg → AV → ASl → Option ASl
  | .nm i, a, S => some (S.set i (some a))
  | .tup ts, a, S => (itemsA ts.len a P).bind fun ss => aAsgs P ts (ss.map .sh) S
def aAsgs (P : APl) : Tgs → List AV → ASl → Option ASl
  | .nil, [], S => some S
  | .cons t ts, a :: as, S => (aAsg P t a S).bind fun S' => aAsgs P ts as S'
  | _, _, _ => none
end
def aAsgW (P : APl) (tg : Tg) (w : AWv) (S : ASl) : Option ASl :=
  match w with
  | .v a => aAsg P tg a S
  | .t as => match tg with
    | .tup ts => aAsgs P ts as S
    | _ => none
def wipeA (S : ASl) : List Nat → ASl
  | [] => S
  | v :: vs => (wipeA S vs).set v none
def allSome {α : Type} : List (Option α) → Option (List α)
  | [] => some []
  | none :: _ => none
  | some a :: r => (allSome r).map (a :: ·)
/-- an item, each way by itself where need be -/
def aIdxA (a i : AV) (P : APl) : Option Sh := match aIdx a i P with
  | some s => some s
  | none => match a with
    | .sh s => (allSome (s.alts.map fun b => aIdx (.sh b) i P)).map Sh.joinAll
    | _ => none
def leP : APl → APl → Bool
  | _, [] => true
  | x :: xs, y :: ys => Sh.le LF x y && leP xs ys
  | [], _ :: _ => false
def jP (k : Nat) (P Q : APl) : Option APl := match decide (k ≤ P.length) && decide (k ≤ Q.length) with
  | true => some (zipP P Q)
  | false => none
def jVP (k : Nat) (a b : AV × APl) : Option (AV × APl) := (jP k a.2 b.2).bind fun Q => (jAV Q.length a.1 b.1).map fun c => (c, Q)
def fals : AV → AV
  | .sh s => if s.asBl then .sh (.con (.bl false)) else .sh s
  | a => a
def trus : AV → AV
  | .sh s => if s.asBl then .sh (.con (.bl true)) else .sh s
  | a => a
def aNeg : AV → Option Sh
  | .sh s => (s.asInt).map fun q => .int (-q.2) (-q.1)
  | _ => none
def aIs (a : AV) (ts : List Ty) (P : APl) : Option (Option Bool) :=
  match a with
  | .sh s => s.isT ts
  | .pl j => ((P[j]?).bind Sh.asLst).map fun _ => some (ts.any fun t => tyB t .list)
  | .dk => none
abbrev ACr := Option Sh × Bool × APl × Nat
def aCompF (f : AWv → APl → Option ACr) (fin : APl → Bool) : List (APl → Option AWv) → Sq → APl → Option (Sq × APl × Nat)
  | [], acc, P => if fin P then some (acc, P, 0) else none
  | r :: rs, acc, P => (r P).bind fun w => (f w P).bind fun x => if acc.hi < LINE then
      (aCompF f fin rs (match x.1, x.2.1 with
        | none, _ => acc
        | some s, true => acc.app (.fix [s])
        | some s, false => acc.join (acc.app (.fix [s]))) x.2.2.1).map fun y => (y.1, y.2.1, x.2.2.2 + y.2.2)
      else none
def aComp (f : AWv → APl → Option ACr) (P : APl) : AWk → Option (Sq × APl × Nat)
  | .fix rs fin => aCompF f fin rs (.fix []) P
  | .hom lo hi w => if hi = 0 then some (.fix [], P, 0) else (f w P).bind fun x => if leP x.2.2.1 P ∧ hi ≤ LINE then
      some (match x.1 with
        | none => .fix []
        | some s => .hom (if x.2.1 then lo else 0) hi s, P, hi * x.2.2.2)
    else none
/-- which branches can be gone -/
def brs (t : Option Bool) (a b : Bool) : Bool × Bool := match t with
  | some true => (true, false)
  | some false => (false, true)
  | none => (!a, !b)
abbrev AR := Option (AV × APl × Nat)
mutual
def aE (A : ACal) : Ex → ASl → APl → AR
  | .var i, S, P => match S[i]? with
    | some (some a) => some (a, P, 0)
    | _ => none
  | .con d, _, P => some (.sh (shOf d), P, 0)
  | .glo g, _, P => (A.glo g).map fun d => (.sh (shOf d), P, 0)
  | .tup es, S, P => (aEs A es S P).bind fun r => (shs r.1).map fun ss => (.sh (.tup ss), r.2.1, r.2.2)
  | .lst z es, S, P => (aEs A es S P).bind fun r => (shs r.1).map fun ss => ((mkA z (.fix ss) r.2.1).1, (mkA z (.fix ss) r.2.1).2, r.2.2)
  | .dct _, _, _ => none
  | .bin z o a b, S, P => (aE A a S P).bind fun x => (aE A b S x.2.1).bind fun y => (aBin z o x.1 y.1 y.2.1).map fun w => (w.1, w.2, x.2.2 + y.2.2)
  | .neg a, S, P => (aE A a S P).bind fun x => (aNeg x.1).map fun s => (.sh s, x.2.1, x.2.2)
  | .cmp o a b, S, P => (aE A a S P).bind fun x => (aE A b S x.2.1).bind fun y => (aCmp o x.1 y.1).map fun r => (.sh (trS r), y.2.1, x.2.2 + y.2.2)
  | .chn o p a b c, S, P => (aE A a S P).bind fun x => (aE A b S x.2.1).bind fun y => (aCmp o x.1 y.1).bind fun r => match r with
    | some false => some (.sh (.con (.bl false)), y.2.1, x.2.2 + y.2.2)
    | some true => (aE A c S y.2.1).bind fun w => (aCmp p y.1 w.1).map fun q => (.sh (trS q), w.2.1, x.2.2 + y.2.2 + w.2.2)
    | none => (aE A c S y.2.1).bind fun w => (aCmp p y.1 w.1).bind fun q => (jVP y.2.1.length (.sh .bl, y.2.1) (.sh (trS q), w.2.1)).map fun c => (c.1, c.2, x.2.2 + y.2.2 + w.2.2)
  | .and a b, S, P => (aE A a S P).bind fun x => (aTr x.1 x.2.1).bind fun t => match t with
    | some true => (aE A b (ref a true S) x.2.1).map fun y => (y.1, y.2.1, x.2.2 + y.2.2)
    | some false => some x
    | none => match dead (ref a true S) with
      | true => some (fals x.1, x.2.1, x.2.2)
      | false => (aE A b (ref a true S) x.2.1).bind fun y => (jVP x.2.1.length (fals x.1, x.2.1) (y.1, y.2.1)).map fun c => (c.1, c.2, x.2.2 + y.2.2)
  | .or a b, S, P => (aE A a S P).bind fun x => (aTr x.1 x.2.1).bind fun t => match t with
    | some false => (aE A b (ref a false S) x.2.1).map fun y => (y.1, y.2.1, x.2.2 + y.2.2)
    | some true => some x
    | none => match dead (ref a false S) with
      | true => some (trus x.1, x.2.1, x.2.2)
      | false => (aE A b (ref a false S) x.2.1).bind fun y => (jVP x.2.1.length (trus x.1, x.2.1) (y.1, y.2.1)).map fun c => (c.1, c.2, x.2.2 + y.2.2)
  | .not a, S, P => (aE A a S P).bind fun x => (aTr x.1 x.2.1).map fun t => (.sh (trS (notT t)), x.2.1, x.2.2)
  | .ite c a b, S, P => (aE A c S P).bind fun x => (aTr x.1 x.2.1).bind fun t =>
    match brs t (dead (ref c true S)) (dead (ref c false S)) with
    | (true, false) => (aE A a (ref c true S) x.2.1).map fun y => (y.1, y.2.1, x.2.2 + y.2.2)
    | (false, true) => (aE A b (ref c false S) x.2.1).map fun y => (y.1, y.2.1, x.2.2 + y.2.2)
    | (false, false) => none
    | (true, true) => (aE A a (ref c true S) x.2.1).bind fun y => (aE A b (ref c false S) x.2.1).bind fun w => (jVP x.2.1.length (y.1, y.2.1) (w.1, w.2.1)).map fun c => (c.1, c.2, x.2.2 + (y.2.2 + w.2.2))
  | .idx a i, S, P => (aE A a S P).bind fun x => (aE A i S x.2.1).bind fun y => (aIdxA x.1 y.1 y.2.1).map fun s => (.sh s, y.2.1, x.2.2 + y.2.2)
  | .slc z pl ph a lo hi, S, P => (aE A a S P).bind fun x => (aE A lo S x.2.1).bind fun l => (aE A hi S l.2.1).bind fun h => (aPart pl l.1).bind fun l' => (aPart ph h.1).bind fun h' =>
    (aSlc z x.1 l' h' h.2.1).map fun w => (w.1, w.2, x.2.2 + (l.2.2 + h.2.2))
  | .rev z a, S, P => (aE A a S P).bind fun x => (aRev z x.1 x.2.1).map fun w => (w.1, w.2, x.2.2)
  | .call f es, S, P => (aEs A es S P).bind fun r => (A.call f r.1 r.2.1).map fun w => (w.1, w.2.1, r.2.2 + w.2.2)
  | .bi z b es, S, P => (aEs A es S P).bind fun r => (aBi z b r.1 r.2.1).map fun w => (w.1, w.2, r.2.2)
  | .mth mt o es, S, P => (aE A o S P).bind fun x => (aEs A es S x.2.1).bind fun r => (aMt mt x.1 r.1 r.2.1).map fun w => (w.1, w.2, x.2.2 + r.2.2)
  | .isi a ts, S, P => (aE A a S P).bind fun x => (aIs x.1 ts x.2.1).map fun t => (.sh (trS t), x.2.1, x.2.2)
  | .cmpr z own tg it c e, S, P => (aIt A it S P).bind fun k => (aComp (fun w P => (aAsgW P tg w (wipeA S own)).bind fun S' => (aE A c S' P).bind fun x => (aTr x.1 x.2.1).bind fun t => match t with
      | some false => some (none, false, x.2.1, x.2.2)
      | some true => (aE A e (ref c true S') x.2.1).bind fun y => (shs [y.1]).map fun ss => (ss[0]?, true, y.2.1, x.2.2 + y.2.2)
      | none => match dead (ref c true S') with
        | true => some (none, false, x.2.1, x.2.2)
        | false => (aE A e (ref c true S') x.2.1).bind fun y => (shs [y.1]).bind fun ss => (jP x.2.1.length x.2.1 y.2.1).map fun Q => (ss[0]?, false, Q, x.2.2 + y.2.2)) k.2.1 k.1).map fun r => ((mkA z r.1 r.2.1).1, (mkA z r.1 r.2.1).2, k.2.2 + r.2.2)
def aEs (A : ACal) : Exs → ASl → APl → Option (List AV × APl × Nat)
  | .nil, _, P => some ([], P, 0)
  | .cons e es, S, P => (aE A e S P).bind fun x => (aEs A es S x.2.1).map fun r => (x.1 :: r.1, r.2.1, x.2.2 + r.2.2)
def aIt (A : ACal) : It → ASl → APl → Option (AWk × APl × Nat)
  | .ex e, S, P => (aE A e S P).bind fun x => (aExW x.1 x.2.1).map fun w => (w, x.2.1, x.2.2)
  | .rng a b, S, P => (aE A a S P).bind fun x => (aE A b S x.2.1).bind fun y => (aRng x.1 y.1).map fun w => (w, y.2.1, x.2.2 + y.2.2)
  | .rng3 a b c, S, P => (aE A a S P).bind fun x => (aE A b S x.2.1).bind fun y => (aE A c S y.2.1).bind fun z => (aRng3 x.1 y.1 z.1).map fun w => (w, z.2.1, x.2.2 + (y.2.2 + z.2.2))
  | .enum e, S, P => (aE A e S P).bind fun x => (aEnum x.1 x.2.1).map fun w => (w, x.2.1, x.2.2)
  | .zip a b, S, P => (aE A a S P).bind fun x => (aE A b S x.2.1).bind fun y => (aZip x.1 y.1).map fun w => (w, y.2.1, x.2.2 + y.2.2)
end
/-! ### walks -/
inductive Fa2 {α β : Type} (R : α → β → Prop) : List α → List β → Prop
  | nil : Fa2 R [] []
  | cons {a : α} {b : β} {as : List α} {bs : List β} (h : R a b) (t : Fa2 R as bs) : Fa2 R (a :: as) (b :: bs)
def AWv.has (F : Fam) (p : PT) (ρ : List Nat) : AWv → Wv → Prop
  | .v a, .v x => a.has F p ρ x
  | .t as, .t xs => hasVs F p ρ as xs
  | _, _ => False
def FixR (F : Fam) (p : PT) (r0 : Mem) (ρ : List Nat) : List (Mem → Option Wv) → List (APl → Option AWv) → Prop
  | [], [] => True
  | r :: rs, a :: as => (∀ ρ' P m n w, Ext ρ ρ' → MR F p r0 ρ' P m n → a P = some w → ∃ v, r m = some v ∧ w.has F p ρ' v) ∧ FixR F p r0 ρ rs as
  | _, _ => False
def AWk.has (F : Fam) (p : PT) (r0 : Mem) (ρ : List Nat) : AWk → Wk → Prop
  | .fix rs fin, wk => FixR F p r0 ρ wk.rs rs ∧ ∀ ρ' P m n, Ext ρ ρ' → MR F p r0 ρ' P m n → fin P = true → wk.fin m = true
  | .hom lo hi w, wk => lo ≤ wk.rs.length ∧ wk.rs.length ≤ hi ∧ (∀ r ∈ wk.rs, ∀ ρ' m, Ext ρ ρ' → ∃ v, r m = some v ∧ w.has F p ρ' v) ∧ ∀ m, wk.fin m = true
section
variable {F : Fam} {p : PT} {r0 : Mem} {ρ ρ' ρ0 : List Nat} {P P' Q : APl} {m m' : Mem} {n : Nat} {z : Bool} {C : Cal} {A : ACal} {S : ASl} {s : Slots}
theorem AWv.has.mono {w : AWv} {v : Wv} (h : w.has F p ρ v) (e : Ext ρ ρ') : w.has F p ρ' v := by
  cases w with
  | v a => cases v with
    | v x => exact AV.has.mono h e
    | t xs => exact h
  | t as => cases v with
    | v x => exact h
    | t xs => exact hasVs.mono e h
theorem fixR_map {α β : Type} {f : α → Mem → Option Wv} {g : β → APl → Option AWv} {R : α → β → Prop} (h : ∀ a b, R a b → ∀ ρ' P m n w, Ext ρ ρ' → MR F p r0 ρ' P m n → g b P = some w → ∃ v, f a m = some v ∧ w.has F p ρ' v) :
    ∀ {xs : List α} {ys : List β}, Fa2 R xs ys → FixR F p r0 ρ (xs.map f) (ys.map g)
  | [], [], _ => trivial
  | x :: xs, y :: ys, .cons h1 h2 => ⟨h x y h1, fixR_map h h2⟩
theorem fixL_has {vs : List Wv} {ws : List AWv} (h : Fa2 (fun v (w : AWv) => w.has F p ρ v) vs ws) : (fixL ws).has F p r0 ρ ⟨vs.map fun v _ => some v, fun _ => true⟩ :=
  ⟨fixR_map (fun a b hab ρ' P m n w he _ hw => ⟨a, rfl, by cases hw; exact AWv.has.mono hab he⟩) h, fun _ _ _ _ _ _ _ => rfl⟩
theorem hasL_fa {f : D → Wv} {g : Sh → AWv} (hf : ∀ d s, s.has p d → (g s).has F p ρ (f d)) : ∀ {ss : List Sh} {ds : List D}, Sh.hasL p ss ds → Fa2 (fun v (w : AWv) => w.has F p ρ v) (ds.map f) (ss.map g)
  | [], ds, h => by unfold Sh.hasL at h; subst h; exact .nil
  | s :: ss, ds, h => by
    unfold Sh.hasL at h
    obtain ⟨x, r, rfl, h1, h2⟩ := h
    exact .cons (hf x s h1) (hasL_fa hf h2)
theorem wkQ_has {q : Sq} {ds : List D} {f : D → Wv} {g : Sh → AWv} (hf : ∀ ρ d s, s.has p d → (g s).has F p ρ (f d)) (h : q.has p ds) : (wkQ g q).has F p r0 ρ ⟨ds.map fun d _ => some (f d), fun _ => true⟩ := by
  cases q with
  | fix ss =>
    have := fixL_has (F := F) (p := p) (r0 := r0) (hasL_fa (f := f) (g := g) (hf ρ) h)
    rw [List.map_map] at this
    exact this
  | hom lo hi s =>
    refine ⟨by simpa using h.1, by simpa using h.2.1, fun r hr ρ' m he => ?_, fun _ => rfl⟩
    obtain ⟨d, hd, rfl⟩ := List.mem_map.mp hr
    exact ⟨_, rfl, hf ρ' d s (h.2.2 d hd)⟩
theorem vS_has {d : D} {s : Sh} (h : s.has p d) : (vS s).has F p ρ (.v (.d d)) := ⟨d, rfl, h⟩
theorem wkL_eq {vs : List Val} : wkL vs = ⟨vs.map fun v _ => some (.v v), fun _ => true⟩ := rfl
theorem ob {α β : Type} {o : Option α} {f : α → Option β} {b : β} (h : o.bind f = some b) : ∃ a, o = some a ∧ f a = some b := Option.bind_eq_some_iff.mp h
theorem om {α β : Type} {o : Option α} {f : α → β} {b : β} (h : o.map f = some b) : ∃ a, o = some a ∧ f a = b := Option.map_eq_some_iff.mp h
theorem allSome_get {α : Type} : ∀ {l : List (Option α)} {r : List α}, allSome l = some r → ∀ x ∈ l, ∃ a, x = some a ∧ a ∈ r
  | [], r, h, x, hx => by cases hx
  | none :: _, r, h, x, hx => by cases h
  | some a :: l, r, h, x, hx => by
    obtain ⟨r', h1, rfl⟩ := om (show (allSome l).map (a :: ·) = some r from h)
    rcases List.mem_cons.mp hx with rfl | hx
    · exact ⟨a, rfl, List.mem_cons_self⟩
    · obtain ⟨b, h2, h3⟩ := allSome_get h1 x hx
      exact ⟨b, h2, List.mem_cons_of_mem _ h3⟩
theorem aIdxA_ok {a i : AV} {x y : Val} {s : Sh} (h : aIdxA a i P = some s) (hm : MR F p r0 ρ P m n) (g1 : a.has F p ρ x) (g2 : i.has F p ρ y) : ∃ d, idxK m x y = some (.d d) ∧ s.has p d := by
  unfold aIdxA at h
  split at h
  · rename_i s' e
    cases h
    exact aIdx_ok e hm g1 g2
  · split at h
    · rename_i t
      obtain ⟨r, h1, rfl⟩ := om h
      obtain ⟨d, rfl, g1⟩ := g1
      obtain ⟨b, hb, hb2⟩ := alts_ok g1
      obtain ⟨c, h2, h3⟩ := allSome_get h1 _ (List.mem_map_of_mem hb)
      obtain ⟨e, h4, h5⟩ := aIdx_ok h2 hm (x := .d d) ⟨d, rfl, hb2⟩ g2
      exact ⟨e, h4, joinAll_ok ⟨c, h3, h5⟩⟩
    · cases h
theorem plIs_ok {j N : Nat} {q : Sq} (h : plIs j N P = some q) (hm : MR F p r0 ρ P m n) {i : Nat} (hj : ρ[j]? = some i) : ∃ ds, m[i]? = some (.lst (ds.map .d)) ∧ q.has p ds ∧ ds.length = N := by
  obtain ⟨r, h1, h2⟩ := ob h
  split at h2
  · rename_i hc
    cases h2
    obtain ⟨i', ds, e1, e2, e3, e4⟩ := pl_get h1 hm ⟨i, hj, rfl⟩
    rw [hj] at e1
    cases e1
    have := Sq.len e4
    exact ⟨ds, e3, e4, by omega⟩
  · cases h2
theorem aExW_ok {a : AV} {w : AWk} {v : Val} (h : aExW a P = some w) (hm : MR F p r0 ρ P m n) (g : a.has F p ρ v) : ∃ wk, exW v m = .ok wk m ∧ w.has F p r0 ρ wk := by
  unfold aExW at h
  split at h
  · rename_i j
    obtain ⟨q, e1, h⟩ := ob h
    split at h
    · rename_i hc
      cases h
      obtain ⟨i, ds, h1, rfl, h3, h4⟩ := pl_get e1 hm g
      have hl := Sq.len h4
      have hN : ds.length = q.lo := by omega
      refine ⟨wkR i ds.length, ?_, ?_⟩
      · show (match m[i]? with
          | some (.lst us) => R.ok (wkR i us.length) m
          | _ => .no) = _
        rw [h3]
        show R.ok (wkR i (ds.map Val.d).length) m = _
        rw [List.length_map]
      · rw [hN]
        refine ⟨?_, ?_⟩
        · refine fixR_map (R := fun a b => a = b) (fun a b hab ρ' P m n w he hm hw => ?_) ?_
          · subst hab
            obtain ⟨q', e2, hw⟩ := ob hw
            obtain ⟨s, e3, rfl⟩ := om hw
            obtain ⟨es, f1, f2, f3⟩ := plIs_ok e2 hm (he.get h1)
            obtain ⟨x, f4, f5⟩ := Sq.at_ok f2 e3 (Int.le_refl _) (Int.le_refl _)
            have f6 : es[a]? = some x := by
              have ha : (a : Int) < es.length := by
                unfold Sq.at at e3
                split at e3
                · rename_i hc
                  have := (Sq.len f2).1
                  omega
                · cases e3
              rw [at_pos (by omega) ha] at f4
              simpa using f4
            refine ⟨.v (.d x), ?_, vS_has f5⟩
            show (lstR i q.lo m).bind _ = _
            unfold lstR
            rw [f1]
            show (if (es.map Val.d).length = q.lo then some (es.map Val.d) else none).bind _ = _
            rw [if_pos (by rw [List.length_map]; exact f3)]
            show ((es.map Val.d)[a]?).map Wv.v = _
            rw [List.getElem?_map, f6]
            rfl
          · generalize List.range q.lo = l
            induction l with
            | nil => exact .nil
            | cons x l ih => exact .cons rfl ih
        · intro ρ' P m n he hm hf
          obtain ⟨q', e2⟩ := Option.isSome_iff_exists.mp hf
          obtain ⟨es, f1, f2, f3⟩ := plIs_ok e2 hm (he.get h1)
          show (lstR i q.lo m).isSome = true
          unfold lstR
          rw [f1]
          show (if (es.map Val.d).length = q.lo then some (es.map Val.d) else none).isSome = true
          rw [if_pos (by rw [List.length_map]; exact f3)]
          rfl
    · cases h
  · rename_i s'
    obtain ⟨x, rfl, g⟩ := g
    split at h
    · rename_i l hh c e1
      obtain ⟨t, rfl, t1, t2, t3⟩ := asStr_ok e1 g
      refine ⟨wkL (t.map fun c => .d (.str [c])), rfl, ?_⟩
      rw [wkL_eq, List.map_map]
      split at h
      · rename_i u
        cases h
        have hu : t = u := by unfold Sh.has at g; exact D.str.inj g
        subst hu
        have := fixL_has (F := F) (p := p) (r0 := r0) (ρ := ρ) (vs := t.map fun c => Wv.v (.d (.str [c]))) (ws := t.map fun c => vS (.con (.str [c]))) (by
          generalize t = l
          induction l with
          | nil => exact .nil
          | cons x l ih => exact .cons (vS_has (by unfold Sh.has; rfl)) ih)
        rw [List.map_map] at this
        exact this
      · cases h
        refine ⟨by simpa using t1, by simpa using t2, fun r hr ρ' m he => ?_, fun _ => rfl⟩
        obtain ⟨k, hk, rfl⟩ := List.mem_map.mp hr
        refine ⟨_, rfl, vS_has ?_⟩
        unfold Sh.has
        exact ⟨[k], rfl, Nat.le_refl _, Nat.le_refl _, fun w hw => by rw [List.mem_singleton.mp hw]; exact t3 k hk⟩
    · split at h
      · rename_i q e2
        cases h
        obtain ⟨ds, rfl, q1⟩ := asTup_ok e2 g
        refine ⟨wkL (ds.map .d), rfl, ?_⟩
        rw [wkL_eq, List.map_map]
        exact wkQ_has (f := fun d => .v (.d d)) (fun ρ d s h => vS_has h) q1
      · obtain ⟨q, e2, rfl⟩ := om h
        obtain ⟨ds, rfl, q1⟩ := asLst_ok e2 g
        refine ⟨wkL (ds.map .d), rfl, ?_⟩
        rw [wkL_eq, List.map_map]
        exact wkQ_has (f := fun d => .v (.d d)) (fun ρ d s h => vS_has h) q1
  · cases h
theorem fa_map {α : Type} {f : α → Wv} {g : α → AWv} (h : ∀ a, (g a).has F p ρ (f a)) : ∀ l : List α, Fa2 (fun v (w : AWv) => w.has F p ρ v) (l.map f) (l.map g)
  | [] => .nil
  | x :: xs => .cons (h x) (fa_map h xs)
theorem aRng_ok {a b : AV} {w : AWk} {x y : Val} (h : aRng a b = some w) (g1 : a.has F p ρ x) (g2 : b.has F p ρ y) : ∃ wk, rngW x y m = .ok wk m ∧ w.has F p r0 ρ wk := by
  unfold aRng at h
  split at h
  · obtain ⟨x, rfl, g1⟩ := g1
    obtain ⟨y, rfl, g2⟩ := g2
    split at h
    · rename_i x1 y1 u v e1 e2
      obtain ⟨i, rfl, i1, i2⟩ := asInt_ok e1 g1
      obtain ⟨j, rfl, j1, j2⟩ := asInt_ok e2 g2
      split at h
      · rename_i hc
        refine ⟨_, w_rng (by omega) (by omega) (by omega) (by omega) (by have : (LINE : Int) = 16777216 := rfl; omega), ?_⟩
        rw [wkL_eq, List.map_map]
        split at h
        · rename_i hd
          cases h
          have : i = x1 := by omega
          subst this
          have : j = u := by omega
          subst this
          have := fixL_has (F := F) (p := p) (r0 := r0) (fa_map (F := F) (p := p) (ρ := ρ) (f := fun (k : Nat) => Wv.v (.d (.int (i + (k : Int))))) (g := fun (k : Nat) => vS (.int (i + (k : Nat)) (i + (k : Nat)))) (fun k => vS_has (hasInt (Int.le_refl _) (Int.le_refl _))) (List.range (j - i).toNat))
          rw [List.map_map] at this
          exact this
        · cases h
          refine ⟨by simp; omega, by simp; omega, fun r hr ρ' m he => ?_, fun _ => rfl⟩
          obtain ⟨k, hk, rfl⟩ := List.mem_map.mp hr
          have := List.mem_range.mp hk
          exact ⟨_, rfl, vS_has (hasInt (by omega) (by omega))⟩
      · cases h
    · cases h
  · cases h
theorem aRng3_ok {a b c : AV} {w : AWk} {x y u : Val} (h : aRng3 a b c = some w) (g1 : a.has F p ρ x) (g2 : b.has F p ρ y) (g3 : c.has F p ρ u) : ∃ wk, rng3W x y u m = .ok wk m ∧ w.has F p r0 ρ wk := by
  unfold aRng3 at h
  split at h
  · obtain ⟨x, rfl, g1⟩ := g1
    obtain ⟨y, rfl, g2⟩ := g2
    obtain ⟨u, rfl, g3⟩ := g3
    split at h
    · rename_i x1 y1 u1 v1 i1 j1 e1 e2 e3
      obtain ⟨i, rfl, a1, a2⟩ := asInt_ok e1 g1
      obtain ⟨j, rfl, b1, b2⟩ := asInt_ok e2 g2
      obtain ⟨k, rfl, c1, c2⟩ := asInt_ok e3 g3
      split at h
      · rename_i hc
        obtain ⟨h1, h2, h3, h4, h5, h6, h7, h8, h9, h10⟩ := hc
        have : i = x1 := by omega
        subst this
        have : j = u1 := by omega
        subst this
        have : k = i1 := by omega
        subst this
        cases h
        refine ⟨_, if_pos ⟨h1, by omega, h3, by omega, h8, h9⟩, ?_⟩
        rw [wkL_eq, List.map_map]
        have := fixL_has (F := F) (p := p) (r0 := r0) (fa_map (F := F) (p := p) (ρ := ρ) (f := fun (q : Nat) => Wv.v (.d (.int (i + (q : Int) * k)))) (g := fun (q : Nat) => vS (.int (i + (q : Nat) * k) (i + (q : Nat) * k))) (fun q => vS_has (hasInt (Int.le_refl _) (Int.le_refl _))) (List.range (rgN i j k)))
        rw [List.map_map] at this
        exact this
      · cases h
    · cases h
  · cases h
theorem tS_has : ∀ {ss : List Sh} {ds : List D} {k : Nat}, Sh.hasL p ss ds → Fa2 (fun v (w : AWv) => w.has F p ρ v) ((enumV k (ds.map .d)).map .t) (tS k ss)
  | [], ds, k, h => by unfold Sh.hasL at h; subst h; exact .nil
  | s :: ss, ds, k, h => by
    unfold Sh.hasL at h
    obtain ⟨x, r, rfl, h1, h2⟩ := h
    refine .cons ?_ (tS_has h2)
    exact ⟨_, _, rfl, ⟨_, rfl, hasInt (Int.le_refl _) (Int.le_refl _)⟩, _, _, rfl, ⟨_, rfl, h1⟩, rfl⟩
theorem enumV_len : ∀ {vs : List Val} {k : Nat}, (enumV k vs).length = vs.length
  | [], _ => rfl
  | v :: vs, k => by
    show (enumV (k + 1) vs).length + 1 = _
    rw [enumV_len]
    rfl
theorem enumV_mem : ∀ {vs : List Val} {k : Nat} {x : List Val}, x ∈ enumV k vs → ∃ (j : Nat) (v : Val), x = [.d (.int (j : Nat)), v] ∧ v ∈ vs ∧ j < k + vs.length
  | [], _, _, h => by cases h
  | v :: vs, k, x, h => by
    rcases List.mem_cons.mp h with rfl | h
    · exact ⟨k, v, rfl, List.mem_cons_self, by rw [List.length_cons]; omega⟩
    · obtain ⟨j, w, e, h1, h2⟩ := enumV_mem h
      exact ⟨j, w, e, List.mem_cons_of_mem _ h1, by rw [List.length_cons]; omega⟩
theorem aEnum_ok {a : AV} {w : AWk} {v : Val} (h : aEnum a P = some w) (g : a.has F p ρ v) : ∃ wk, enumW v m = .ok wk m ∧ w.has F p r0 ρ wk := by
  unfold aEnum at h
  split at h
  · obtain ⟨x, rfl, g⟩ := g
    split at h
    · rename_i ss e1
      obtain ⟨ds, rfl, q1⟩ := asLst_ok e1 g
      cases h
      refine ⟨wkT (enumV 0 (ds.map .d)), rfl, ?_⟩
      have := fixL_has (F := F) (p := p) (r0 := r0) (ρ := ρ) (tS_has (F := F) (ρ := ρ) (k := 0) q1)
      rw [List.map_map] at this
      exact this
    · rename_i lo hi s e1
      obtain ⟨ds, rfl, q1, q2, q3⟩ := asLst_ok e1 g
      cases h
      refine ⟨wkT (enumV 0 (ds.map .d)), rfl, ?_⟩
      unfold wkT
      refine ⟨by rw [List.length_map, enumV_len, List.length_map]; exact q1, by rw [List.length_map, enumV_len, List.length_map]; exact q2, fun r hr ρ' m he => ?_, fun _ => rfl⟩
      obtain ⟨x, hx, rfl⟩ := List.mem_map.mp hr
      obtain ⟨j, v, rfl, h1, h2⟩ := enumV_mem hx
      obtain ⟨d, hd, rfl⟩ := List.mem_map.mp h1
      rw [List.length_map] at h2
      exact ⟨_, rfl, _, _, rfl, ⟨_, rfl, hasInt (by omega) (by omega)⟩, _, _, rfl, ⟨_, rfl, q3 d hd⟩, rfl⟩
    · cases h
  · cases h
theorem zipV_len : ∀ {xs ys : List Val}, (zipV xs ys).length = min xs.length ys.length
  | [], _ => by simp [zipV]
  | _ :: _, [] => by simp [zipV]
  | x :: xs, y :: ys => by
    show (zipV xs ys).length + 1 = _
    rw [zipV_len, List.length_cons, List.length_cons]
    omega
theorem zipV_mem : ∀ {xs ys : List Val} {x : List Val}, x ∈ zipV xs ys → ∃ a b, x = [a, b] ∧ a ∈ xs ∧ b ∈ ys
  | [], _, _, h => by simp [zipV] at h
  | _ :: _, [], _, h => by simp [zipV] at h
  | a :: xs, b :: ys, x, h => by
    rcases List.mem_cons.mp (show x ∈ [a, b] :: zipV xs ys from h) with rfl | h
    · exact ⟨a, b, rfl, List.mem_cons_self, List.mem_cons_self⟩
    · obtain ⟨c, d, e, h1, h2⟩ := zipV_mem h
      exact ⟨c, d, e, List.mem_cons_of_mem _ h1, List.mem_cons_of_mem _ h2⟩
theorem aZip_ok {a b : AV} {w : AWk} {x y : Val} (h : aZip a b = some w) (g1 : a.has F p ρ x) (g2 : b.has F p ρ y) : ∃ wk, zipW x y m = .ok wk m ∧ w.has F p r0 ρ wk := by
  have fin : ∀ {q r : Sq} {ds es : List D}, q.has p ds → r.has p es → AWk.has F p r0 ρ (.hom (min q.lo r.lo) (min q.hi r.hi) (.t [.sh q.el, .sh r.el])) (wkT (zipV (ds.map .d) (es.map .d))) := by
    intro q r ds es h1 h2
    have l1 := Sq.len h1
    have l2 := Sq.len h2
    unfold wkT
    refine ⟨by rw [List.length_map, zipV_len, List.length_map, List.length_map]; omega, by rw [List.length_map, zipV_len, List.length_map, List.length_map]; omega, fun r hr ρ' m he => ?_, fun _ => rfl⟩
    obtain ⟨x, hx, rfl⟩ := List.mem_map.mp hr
    obtain ⟨a, b, rfl, h3, h4⟩ := zipV_mem hx
    obtain ⟨d, hd, rfl⟩ := List.mem_map.mp h3
    obtain ⟨e, he, rfl⟩ := List.mem_map.mp h4
    exact ⟨_, rfl, _, _, rfl, ⟨_, rfl, Sq.mem h1 d hd⟩, _, _, rfl, ⟨_, rfl, Sq.mem h2 e he⟩, rfl⟩
  unfold aZip at h
  split at h
  · obtain ⟨x, rfl, g1⟩ := g1
    obtain ⟨y, rfl, g2⟩ := g2
    split at h
    · rename_i q r e1 e2
      obtain ⟨ds, rfl, q1⟩ := asTup_ok e1 g1
      obtain ⟨es, rfl, q2⟩ := asTup_ok e2 g2
      cases h
      exact ⟨_, rfl, fin q1 q2⟩
    · split at h
      · rename_i q r e1 e2
        obtain ⟨ds, rfl, q1⟩ := asLst_ok e1 g1
        obtain ⟨es, rfl, q2⟩ := asLst_ok e2 g2
        cases h
        exact ⟨_, rfl, fin q1 q2⟩
      · cases h
  · cases h
/-! targets -/
theorem hasVs_shs : ∀ {ss : List Sh} {ds : List D}, Sh.hasL p ss ds → hasVs F p ρ (ss.map .sh) (ds.map .d)
  | [], ds, h => by unfold Sh.hasL at h; subst h; rfl
  | s :: ss, ds, h => by
    unfold Sh.hasL at h
    obtain ⟨x, r, rfl, h1, h2⟩ := h
    exact ⟨_, _, rfl, ⟨x, rfl, h1⟩, hasVs_shs h2⟩
theorem hasL_rep1 {s : Sh} : ∀ {ds : List D}, (∀ x ∈ ds, s.has p x) → Sh.hasL p (List.replicate ds.length s) ds
  | [], _ => by show Sh.hasL p [] []; unfold Sh.hasL; rfl
  | d :: ds, h => by
    show Sh.hasL p (s :: List.replicate ds.length s) (d :: ds)
    unfold Sh.hasL
    exact ⟨d, ds, rfl, h d List.mem_cons_self, hasL_rep1 fun x hx => h x (List.mem_cons_of_mem _ hx)⟩
theorem itemsA_ok {k : Nat} {a : AV} {ss : List Sh} {v : Val} (h : itemsA k a P = some ss) (hm : MR F p r0 ρ P m n) (g : a.has F p ρ v) : ∃ ds, tgItems m v = some (ds.map .d) ∧ Sh.hasL p ss ds := by
  obtain ⟨q, h1, h2⟩ := ob h
  have fin : ∀ ds, q.has p ds → Sh.hasL p ss ds := by
    intro ds hq
    cases q with
    | fix tt => cases h2; exact hq
    | hom lo hi s =>
      have h2' : (if lo = k ∧ hi = k then some (List.replicate k s) else none) = some ss := h2
      split at h2'
      · rename_i hc
        cases h2'
        obtain ⟨q1, q2, q3⟩ := hq
        rw [show k = ds.length by omega]
        exact hasL_rep1 q3
      · cases h2'
  split at h1
  · obtain ⟨x, rfl, g⟩ := g
    split at h1
    · rename_i q' e
      cases h1
      obtain ⟨ds, rfl, q1⟩ := asTup_ok e g
      exact ⟨ds, rfl, fin ds q1⟩
    · obtain ⟨ds, rfl, q1⟩ := asLst_ok h1 g
      exact ⟨ds, rfl, fin ds q1⟩
  · obtain ⟨ds, e1, q1⟩ := asL_ok h1 hm g
    refine ⟨ds, ?_, fin ds q1⟩
    cases v with
    | r i => exact e1
    | d x =>
      cases x with
      | tup xs => cases e1
      | _ => exact e1
mutual
theorem aAsg_ok (hm : MR F p r0 ρ P m n) : ∀ (t : Tg) {a : AV} {v : Val} {S S' : ASl} {s : Slots}, aAsg P t a S = some S' → a.has F p ρ v → SlR F p ρ S s → ∃ s', asgT m t v s = some s' ∧ SlR F p ρ S' s'
  | .nm i, a, v, S, S', s, h, g, hs => by
    unfold aAsg at h
    cases h
    exact ⟨_, rfl, hs.set i g⟩
  | .tup ts, a, v, S, S', s, h, g, hs => by
    unfold aAsg at h
    obtain ⟨ss, h1, h2⟩ := ob h
    obtain ⟨ds, h3, h4⟩ := itemsA_ok h1 hm g
    obtain ⟨s', h5, h6⟩ := aAsgs_ok hm ts h2 (hasVs_shs h4) hs
    refine ⟨s', ?_, h6⟩
    unfold asgT
    rw [h3]
    exact h5
theorem aAsgs_ok (hm : MR F p r0 ρ P m n) : ∀ (ts : Tgs) {as : List AV} {vs : List Val} {S S' : ASl} {s : Slots}, aAsgs P ts as S = some S' → hasVs F p ρ as vs → SlR F p ρ S s → ∃ s', asgTs m ts vs s = some s' ∧ SlR F p ρ S' s'
  | .nil, [], vs, S, S', s, h, g, hs => by
    unfold aAsgs at h
    cases h
    have g : vs = [] := g
    subst g
    exact ⟨s, rfl, hs⟩
  | .nil, _ :: _, vs, S, S', s, h, g, hs => by unfold aAsgs at h; cases h
  | .cons t ts, [], vs, S, S', s, h, g, hs => by unfold aAsgs at h; cases h
  | .cons t ts, a :: as, vs, S, S', s, h, g, hs => by
    unfold aAsgs at h
    obtain ⟨S1, h1, h2⟩ := ob h
    obtain ⟨v, r, rfl, g1, g2⟩ := g
    obtain ⟨s1, h3, h4⟩ := aAsg_ok hm t h1 g1 hs
    obtain ⟨s2, h5, h6⟩ := aAsgs_ok hm ts h2 g2 h4
    refine ⟨s2, ?_, h6⟩
    unfold asgTs
    rw [h3]
    exact h5
end
theorem aAsgW_ok (hm : MR F p r0 ρ P m n) {t : Tg} {w : AWv} {v : Wv} {S S' : ASl} {s : Slots} (h : aAsgW P t w S = some S') (g : w.has F p ρ v) (hs : SlR F p ρ S s) : ∃ s', asgW m t v s = some s' ∧ SlR F p ρ S' s' := by
  cases w with
  | v a =>
    cases v with
    | v x => exact aAsg_ok hm t h g hs
    | t xs => exact g.elim
  | t as =>
    cases v with
    | v x => exact g.elim
    | t xs =>
      cases t with
      | nm i => cases h
      | tup ts => exact aAsgs_ok hm ts h g hs
theorem wipe_ok (h : SlR F p ρ S s) : ∀ own, SlR F p ρ (wipeA S own) (wipeS s own)
  | [] => h
  | v :: vs => (wipe_ok h vs).wipe1 v
theorem leP_get : ∀ {P Q : APl}, leP P Q = true → Q.length ≤ P.length ∧ ∀ (j : Nat) (s : Sh), Q[j]? = some s → ∃ a, P[j]? = some a ∧ Sh.le LF a s = true
  | _, [], _ => ⟨by simp, fun j s h => by simp at h⟩
  | [], _ :: _, h => by cases h
  | x :: xs, y :: ys, h => by
    have h' : (Sh.le LF x y && leP xs ys) = true := h
    rw [Bool.and_eq_true] at h'
    obtain ⟨h1, h2⟩ := leP_get h'.2
    refine ⟨by simp; omega, fun j s e => ?_⟩
    cases j with
    | zero => cases e; exact ⟨x, rfl, h'.1⟩
    | succ j => exact h2 j s (by simpa using e)
theorem MR.le (h : MR F p r0 ρ P m n) (e : leP P Q = true) : MR F p r0 (ρ.take Q.length) Q m n := by
  obtain ⟨h1, h2⟩ := leP_get e
  exact h.weak h1 fun j s hj => let ⟨a, g1, g2⟩ := h2 j s hj; ⟨a, g1, fun ds => le_ok g2⟩
theorem jP_ok {k : Nat} (h : jP k P Q = some P') : k ≤ P.length ∧ k ≤ Q.length ∧ P' = zipP P Q := by
  unfold jP at h
  split at h
  · rename_i hb
    rw [Bool.and_eq_true] at hb
    cases h
    exact ⟨of_decide_eq_true hb.1, of_decide_eq_true hb.2, rfl⟩
  · cases h
end
end Rf

namespace Rf
def CalOk (F : Fam) (p : PT) (C : Cal) (A : ACal) : Prop :=
  (∀ g d, A.glo g = some d → C.glo g = some d) ∧
  ∀ r0 f as P r ρ m n vs, A.call f as P = some r → MR F p r0 ρ P m n → n + r.2.2 ≤ BIG → hasVs F p ρ as vs → Po F p r0 ρ n (C.call f vs m) r.2.1 r.2.2 (fun ρ' v => r.1.has F p ρ' v)
def CrR (p : PT) (r : ACr) (o : Option Val) : Prop := match o with
  | some y => ∃ s d, r.1 = some s ∧ y = .d d ∧ s.has p d
  | none => r.2.1 = false
section
variable {F : Fam} {p : PT} {r0 : Mem} {ρ ρ' ρ0 : List Nat} {P P' Q : APl} {m m' : Mem} {n : Nat} {z : Bool} {C : Cal} {A : ACal} {S : ASl} {s : Slots}
theorem fix1_has {s : Sh} {d : D} (h : s.has p d) : Sq.has p (.fix [s]) [d] := by
  show Sh.hasL p [s] [d]
  unfold Sh.hasL
  exact ⟨d, [], rfl, h, by unfold Sh.hasL; rfl⟩
theorem fix0_has : Sq.has p (.fix []) [] := by
  show Sh.hasL p [] []
  unfold Sh.hasL
  rfl
theorem aCompF_ok {f : AWv → APl → Option ACr} {g : Wv → Mem → R (Option Val)} {fin : APl → Bool} {finC : Mem → Bool}
    (hf : ∀ w P r, f w P = some r → ∀ ρ' m n v, Ext ρ0 ρ' → MR F p r0 ρ' P m n → w.has F p ρ' v → n + r.2.2.2 ≤ BIG → Po F p r0 ρ' n (g v m) r.2.2.1 r.2.2.2 (fun _ o => CrR p r o))
    (hfin : ∀ ρ' P m n, Ext ρ0 ρ' → MR F p r0 ρ' P m n → fin P = true → finC m = true) :
    ∀ {rs : List (APl → Option AWv)} {rsC : List (Mem → Option Wv)} {acc : Sq} {P : APl} {r : Sq × APl × Nat} {ds : List D} {ρ : List Nat} {m : Mem} {n : Nat}, FixR F p r0 ρ0 rsC rs → aCompF f fin rs acc P = some r → Ext ρ0 ρ → MR F p r0 ρ P m n → acc.has p ds → n + r.2.2 ≤ BIG →
      Po F p r0 ρ n (compL g finC rsC (ds.map .d) m) r.2.1 r.2.2 (fun _ vs => ∃ es, vs = es.map .d ∧ r.1.has p es)
  | [], rsC, acc, P, r, ds, ρ, m, n, hw, h, he, hm, hacc, hb => by
    cases rsC with
    | cons _ _ => exact hw.elim
    | nil =>
      unfold aCompF at h
      split at h
      · rename_i hf'
        cases h
        unfold compL
        rw [hfin _ _ _ _ he hm hf']
        exact .ret hm ⟨ds, rfl, hacc⟩
      · cases h
  | a :: rs, rsC, acc, P, r, ds, ρ, m, n, hw, h, he, hm, hacc, hb => by
    cases rsC with
    | nil => exact hw.elim
    | cons c rsC =>
      unfold aCompF at h
      obtain ⟨w, h1, h⟩ := ob h
      obtain ⟨x, h2, h⟩ := ob h
      split at h
      · rename_i hl
        obtain ⟨y, h3, rfl⟩ := om h
        obtain ⟨hw1, hw2⟩ := hw
        obtain ⟨v, h4, h5⟩ := hw1 ρ P m n w he hm h1
        unfold compL
        rw [h4]
        have hlen := Sq.len hacc
        dsimp only at hb ⊢
        refine (hf w P x h2 ρ m n v he hm h5 (by omega)).bind fun o m1 ρ1 n1 hm1 he1 ho hn1 hn2 => ?_
        have key : ∀ {acc' : Sq} {es : List D}, aCompF f fin rs acc' x.2.2.1 = some y → acc'.has p es → Po F p r0 ρ1 n1 (compL g finC rsC (es.map .d) m1) y.2.1 y.2.2 (fun _ vs => ∃ es, vs = es.map .d ∧ y.1.has p es) :=
          fun e1 e2 => aCompF_ok hf hfin hw2 e1 (he.trans he1) hm1 e2 (by omega)
        cases o with
        | none =>
          have ho : x.2.1 = false := ho
          refine key h3 ?_
          split
          · exact hacc
          · rename_i e; rw [ho] at e; cases e
          · exact Sq.join_ok (.inl hacc)
        | some v' =>
          obtain ⟨s, d, e1, rfl, e2⟩ := ho
          show Po F p r0 ρ1 n1 (if (ds.map Val.d).length < LINE then compL g finC rsC (ds.map Val.d ++ [Val.d d]) m1 else .no) _ _ _
          rw [if_pos (by rw [List.length_map]; omega), show ds.map Val.d ++ [Val.d d] = (ds ++ [d]).map Val.d by simp]
          refine key h3 ?_
          rw [e1]
          split
          · rename_i e; cases e
          · rename_i e _; cases e; exact Sq.app_ok hacc (fix1_has e2)
          · rename_i e _; cases e; exact Sq.join_ok (.inr (Sq.app_ok hacc (fix1_has e2)))
      · cases h
theorem Po.le {α : Type} {x : R α} {δ : Nat} {Q0 Q1 : List Nat → α → Prop} (h : Po F p r0 ρ n x P' δ Q0) (hle : leP P' P = true) (hk : ρ.length ≤ P.length) (hQ : ∀ ρ1 v, Q0 ρ1 v → Q1 (ρ1.take P.length) v) : Po F p r0 ρ n x P δ Q1 := by
  obtain ⟨v, m1, ρ1, n1, e, h1, h2, h3, h4, h5⟩ := h
  exact ⟨v, m1, ρ1.take P.length, n1, e, h1.le hle, h2.tk hk, hQ _ _ h3, h4, h5⟩
theorem aCompH_ok {f : AWv → APl → Option ACr} {g : Wv → Mem → R (Option Val)} {finC : Mem → Bool} {w : AWv} {P : APl} {x : ACr} (hx : f w P = some x) (hle : leP x.2.2.1 P = true)
    (hf : ∀ w P r, f w P = some r → ∀ ρ' m n v, Ext ρ0 ρ' → MR F p r0 ρ' P m n → w.has F p ρ' v → n + r.2.2.2 ≤ BIG → Po F p r0 ρ' n (g v m) r.2.2.1 r.2.2.2 (fun _ o => CrR p r o)) (hfin : ∀ m, finC m = true) :
    ∀ {rsC : List (Mem → Option Wv)} {ds : List D} {ρ : List Nat} {m : Mem} {n : Nat}, (∀ r ∈ rsC, ∀ ρ' m, Ext ρ0 ρ' → ∃ v, r m = some v ∧ w.has F p ρ' v) → Ext ρ0 ρ → MR F p r0 ρ P m n → (∀ d ∈ ds, ∃ s, x.1 = some s ∧ s.has p d) → ds.length + rsC.length ≤ LINE → n + rsC.length * x.2.2.2 ≤ BIG →
      Po F p r0 ρ n (compL g finC rsC (ds.map .d) m) P (rsC.length * x.2.2.2) (fun _ vs => ∃ es : List D, vs = es.map .d ∧ (∀ d ∈ es, ∃ s, x.1 = some s ∧ s.has p d) ∧ es.length ≤ ds.length + rsC.length ∧ (x.2.1 = true → ds.length + rsC.length ≤ es.length))
  | [], ds, ρ, m, n, hw, he, hm, hacc, hl, hb => by
    unfold compL
    rw [hfin]
    exact .ret hm ⟨ds, rfl, hacc, by simp, by simp⟩
  | c :: rsC, ds, ρ, m, n, hw, he, hm, hacc, hl, hb => by
    obtain ⟨v, h4, h5⟩ := hw c List.mem_cons_self ρ m he
    unfold compL
    rw [h4]
    rw [List.length_cons, Nat.add_mul, Nat.one_mul] at hb ⊢
    rw [List.length_cons] at hl
    have step := (hf w P x hx ρ m n v he hm h5 (by omega)).le (Q1 := fun _ o => CrR p x o) hle (by rw [hm.len]; exact Nat.le_refl _) (fun _ _ h => h)
    refine ((step.bind (δ2 := rsC.length * x.2.2.2) fun o m1 ρ1 n1 hm1 he1 ho hn1 hn2 => ?_).mono (by omega) (fun _ _ _ q => q))
    have key : ∀ {es : List D}, (∀ d ∈ es, ∃ s, x.1 = some s ∧ s.has p d) → es.length + rsC.length ≤ LINE → (es.length ≤ ds.length + 1) → (x.2.1 = true → ds.length + 1 ≤ es.length) →
        Po F p r0 ρ1 n1 (compL g finC rsC (es.map .d) m1) P (rsC.length * x.2.2.2) (fun _ vs => ∃ es : List D, vs = es.map .d ∧ (∀ d ∈ es, ∃ s, x.1 = some s ∧ s.has p d) ∧ es.length ≤ ds.length + (rsC.length + 1) ∧ (x.2.1 = true → ds.length + (rsC.length + 1) ≤ es.length)) := by
      intro es e1 e2 e3 e4
      refine (aCompH_ok hx hle hf hfin (rsC := rsC) (ds := es) (ρ := ρ1) (m := m1) (n := n1) (fun r hr => hw r (List.mem_cons_of_mem _ hr)) (he.trans he1) hm1 e1 e2 (by omega)).mono (Nat.le_refl _) ?_
      rintro ρ' v he' ⟨fs, q4, q5, q6, q7⟩
      exact ⟨fs, q4, q5, by omega, fun h => by have := q7 h; have := e4 h; omega⟩
    cases o with
    | none =>
      have ho : x.2.1 = false := ho
      exact key hacc (by omega) (by omega) (fun h => by rw [ho] at h; cases h)
    | some v' =>
      obtain ⟨s, d, e1, rfl, e2⟩ := ho
      show Po F p r0 ρ1 n1 (if (ds.map Val.d).length < LINE then compL g finC rsC (ds.map Val.d ++ [Val.d d]) m1 else .no) _ _ _
      rw [if_pos (by rw [List.length_map]; omega), show ds.map Val.d ++ [Val.d d] = (ds ++ [d]).map Val.d by simp]
      refine key (fun y hy => ?_) (by simp; omega) (by simp) (by simp)
      rcases List.mem_append.mp hy with hy | hy
      · exact hacc y hy
      · rw [List.mem_singleton.mp hy]; exact ⟨s, e1, e2⟩
theorem aComp_ok {f : AWv → APl → Option ACr} {g : Wv → Mem → R (Option Val)} {P : APl} {r : Sq × APl × Nat} {k : AWk} {wk : Wk}
    (hf : ∀ w P r, f w P = some r → ∀ ρ' m n v, Ext ρ ρ' → MR F p r0 ρ' P m n → w.has F p ρ' v → n + r.2.2.2 ≤ BIG → Po F p r0 ρ' n (g v m) r.2.2.1 r.2.2.2 (fun _ o => CrR p r o))
    (h : aComp f P k = some r) (hw : k.has F p r0 ρ wk) (hm : MR F p r0 ρ P m n) (hb : n + r.2.2 ≤ BIG) :
    Po F p r0 ρ n (compL g wk.fin wk.rs [] m) r.2.1 r.2.2 (fun _ vs => ∃ es : List D, vs = es.map .d ∧ r.1.has p es) := by
  cases k with
  | fix rs fin =>
    exact aCompF_ok (ρ0 := ρ) (ds := []) hf hw.2 hw.1 h .refl hm fix0_has hb
  | hom lo hi w =>
    dsimp only [aComp] at h
    obtain ⟨w1, w2, w3, w4⟩ := hw
    split at h
    · rename_i h0
      cases h
      have : wk.rs = [] := List.length_eq_zero_iff.mp (by omega)
      rw [this]
      unfold compL
      rw [w4]
      exact .ret hm ⟨[], rfl, fix0_has⟩
    · obtain ⟨x, h1, h⟩ := ob h
      split at h
      · rename_i hc
        cases h
        dsimp only at hb ⊢
        have hmul : wk.rs.length * x.2.2.2 ≤ hi * x.2.2.2 := Nat.mul_le_mul_right _ w2
        refine (aCompH_ok (ρ0 := ρ) (ds := []) h1 hc.1 hf w4 w3 .refl hm (fun _ h => by cases h) (by rw [List.length_nil]; omega) (by omega)).mono hmul ?_
        rintro ρ' v he' ⟨fs, q4, q5, q6, q7⟩
        refine ⟨fs, q4, ?_⟩
        rw [List.length_nil] at q6 q7
        split
        · rename_i e
          cases fs with
          | nil => exact fix0_has
          | cons y fs =>
            obtain ⟨s, e1, _⟩ := q5 y List.mem_cons_self
            rw [e] at e1; cases e1
        · rename_i s e
          refine ⟨?_, by omega, fun y hy => ?_⟩
          · split
            · rename_i ht
              have := q7 ht
              omega
            · omega
          · obtain ⟨s', e1, e2⟩ := q5 y hy
            rw [e] at e1; cases e1
            exact e2
      · cases h
theorem shs1 {a : AV} {ss : List Sh} (h : shs [a] = some ss) : ∃ s, a = .sh s ∧ ss[0]? = some s := by
  cases a with
  | sh s => cases h; exact ⟨s, rfl, rfl⟩
  | dk => cases h
  | pl j => cases h
theorem aNeg_ok {a : AV} {s : Sh} {v : Val} (h : aNeg a = some s) (g : a.has F p ρ v) : ∃ i : Int, v = .d (.int i) ∧ s.has p (.int (-i)) := by
  cases a with
  | sh t =>
    obtain ⟨⟨x, y⟩, h1, rfl⟩ := om (show (t.asInt).map _ = some s from h)
    obtain ⟨d, rfl, g⟩ := g
    obtain ⟨i, rfl, h2, h3⟩ := asInt_ok h1 g
    exact ⟨i, rfl, hasInt (by dsimp only; omega) (by dsimp only; omega)⟩
  | dk => cases h
  | pl j => cases h
theorem aIs_ok {a : AV} {ts : List Ty} {r : Option Bool} {v : Val} (h : aIs a ts P = some r) (hm : MR F p r0 ρ P m n) (g : a.has F p ρ v) : ∃ k, kdOf m v = some k ∧ ∀ c, r = some c → (ts.any fun t => tyB t k) = c := by
  cases a with
  | sh s =>
    obtain ⟨d, rfl, g⟩ := g
    exact isT_ok h g
  | dk => cases h
  | pl j =>
    obtain ⟨q, h1, rfl⟩ := om (show ((P[j]?).bind Sh.asLst).map _ = some r from h)
    obtain ⟨i, ds, h3, rfl, h4, h5⟩ := pl_get h1 hm g
    refine ⟨.list, ?_, fun c hc => Option.some.inj hc⟩
    show (match m[i]? with
      | some (.lst _) => some Kd.list
      | _ => none) = _
    rw [h4]
theorem fals_ok {a : AV} {v : Val} (g : a.has F p ρ v) (ht : truth m v = some false) : (fals a).has F p ρ v := by
  cases a with
  | sh s =>
    obtain ⟨d, rfl, g⟩ := g
    unfold fals
    dsimp only
    split
    · rename_i hb
      obtain ⟨b, rfl⟩ := asBl_ok hb g
      cases ht
      exact ⟨_, rfl, by unfold Sh.has; rfl⟩
    · exact ⟨d, rfl, g⟩
  | dk => exact g
  | pl j => exact g
theorem trus_ok {a : AV} {v : Val} (g : a.has F p ρ v) (ht : truth m v = some true) : (trus a).has F p ρ v := by
  cases a with
  | sh s =>
    obtain ⟨d, rfl, g⟩ := g
    unfold trus
    dsimp only
    split
    · rename_i hb
      obtain ⟨b, rfl⟩ := asBl_ok hb g
      cases ht
      exact ⟨_, rfl, by unfold Sh.has; rfl⟩
    · exact ⟨d, rfl, g⟩
  | dk => exact g
  | pl j => exact g
theorem jVP_l {k : Nat} {a b c : AV × APl} {x : R Val} {δ δ' : Nat} (h : jVP k a b = some c) (hk : ρ.length ≤ k) (hd : δ ≤ δ') (hp : Po F p r0 ρ n x a.2 δ (fun ρ' v => a.1.has F p ρ' v)) : Po F p r0 ρ n x c.2 δ' (fun ρ' v => c.1.has F p ρ' v) := by
  obtain ⟨Q, h1, h2⟩ := ob h
  obtain ⟨q, h6, rfl⟩ := om h2
  obtain ⟨l1, l2, rfl⟩ := jP_ok h1
  obtain ⟨v, m1, ρ1, n1, e, g1, g2, g3, g4, g5⟩ := hp
  exact ⟨v, m1, _, n1, e, g1.zl, g2.tk (by rw [zipP_len]; omega), jAV_l h6 g3, g4, by omega⟩
theorem jVP_r {k : Nat} {a b c : AV × APl} {x : R Val} {δ δ' : Nat} (h : jVP k a b = some c) (hk : ρ.length ≤ k) (hd : δ ≤ δ') (hp : Po F p r0 ρ n x b.2 δ (fun ρ' v => b.1.has F p ρ' v)) : Po F p r0 ρ n x c.2 δ' (fun ρ' v => c.1.has F p ρ' v) := by
  obtain ⟨Q, h1, h2⟩ := ob h
  obtain ⟨q, h6, rfl⟩ := om h2
  obtain ⟨l1, l2, rfl⟩ := jP_ok h1
  obtain ⟨v, m1, ρ1, n1, e, g1, g2, g3, g4, g5⟩ := hp
  exact ⟨v, m1, _, n1, e, g1.zr, g2.tk (by rw [zipP_len]; omega), jAV_r h6 g3, g4, by omega⟩
/-- bind, where what comes behind starts anew from the outer state -/
theorem Po.bindO {α β : Type} {x : R α} {f : α → Mem → R β} {P1 P2 : APl} {δ1 δ2 : Nat} {Q1 : List Nat → α → Prop} {Q2 : List Nat → β → Prop} (h : Po F p r0 ρ n x P1 δ1 Q1)
    (g : ∀ v m1 ρ1 n1, MR F p r0 ρ1 P1 m1 n1 → Ext ρ ρ1 → Q1 ρ1 v → n ≤ n1 → n1 ≤ n + δ1 → ∃ w m2 ρ2 n2, f v m1 = .ok w m2 ∧ MR F p r0 ρ2 P2 m2 n2 ∧ Ext ρ ρ2 ∧ Q2 ρ2 w ∧ n1 ≤ n2 ∧ n2 ≤ n1 + δ2) : Po F p r0 ρ n (x.bind f) P2 (δ1 + δ2) Q2 := by
  obtain ⟨v, m1, ρ1, n1, rfl, h1, h2, h3, h4, h5⟩ := h
  obtain ⟨w, m2, ρ2, n2, e, g1, g2, g3, g4, g5⟩ := g v m1 ρ1 n1 h1 h2 h3 h4 h5
  exact ⟨w, m2, ρ2, n2, e, g1, g2, g3, by omega, by omega⟩
end
end Rf

namespace Rf
section
variable {F : Fam} {p : PT} {C : Cal} {A : ACal}
theorem q_neg {a : Ex} {s : Slots} {m : Mem} : evE C (.neg a) s m = (evE C a s m).bind fun x m => match x with
    | .d (.int i) => .ok (.d (.int (-i))) m
    | _ => .no := nr rfl
theorem q_chn {o q : Cop} {a b c : Ex} {s : Slots} {m : Mem} : evE C (.chn o q a b c) s m = (evE C a s m).bind fun x m => (evE C b s m).bind fun y m => (cmpV o x y m).bind fun k m =>
    match k with
    | true => (evE C c s m).bind fun w m => bV (cmpV q y w m)
    | false => .ok (.d (.bl false)) m := nr rfl
theorem y_enum {e : Ex} {s : Slots} {m : Mem} : evIt C (.enum e) s m = (evE C e s m).bind fun v m => enumW v m := nr rfl
theorem y_zip {a b : Ex} {s : Slots} {m : Mem} : evIt C (.zip a b) s m = (evE C a s m).bind fun x m => (evE C b s m).bind fun y m => zipW x y m := nr rfl
theorem Po.bindE {α β : Type} {r0 : Mem} {ρ : List Nat} {n : Nat} {x : R α} {f : α → Mem → R β} {P1 P2 : APl} {δ1 δ2 : Nat} {Q1 : List Nat → α → Prop} {Q2 : List Nat → β → Prop} (h : Po F p r0 ρ n x P1 δ1 Q1)
    (g : ∀ v m1 ρ1 n1, x = .ok v m1 → MR F p r0 ρ1 P1 m1 n1 → Ext ρ ρ1 → Q1 ρ1 v → n ≤ n1 → n1 ≤ n + δ1 → Po F p r0 ρ1 n1 (f v m1) P2 δ2 Q2) : Po F p r0 ρ n (x.bind f) P2 (δ1 + δ2) Q2 := by
  obtain ⟨v, m1, ρ1, n1, rfl, h1, h2, h3, h4, h5⟩ := h
  obtain ⟨w, m2, ρ2, n2, e, g1, g2, g3, g4, g5⟩ := g v m1 ρ1 n1 rfl h1 h2 h3 h4 h5
  exact ⟨w, m2, ρ2, n2, e, g1, h2.trans g2, g3, by omega, by omega⟩
theorem q_not' {a : Ex} {s : Slots} {m : Mem} : evE C (.not a) s m = (evE C a s m).bind fun x m => match truth m x with
    | some k => .ok (.d (.bl (!k))) m
    | none => .no := nr rfl
theorem notT_ok {t : Option Bool} {b : Bool} (h : ∀ c, t = some c → b = c) : ∀ c, notT t = some c → (!b) = c := by
  intro c hc
  cases t with
  | none => cases hc
  | some d => rw [h d rfl]; exact Option.some.inj hc
theorem pick {c : Ex} {t : Option Bool} {r0 : Mem} {S : ASl} {k : Bool} {q : Bool × Bool} {v : Val} {s : Slots} {m m1 : Mem} {ρ1 : List Nat} (hq : q = brs t (dead (ref c true S)) (dead (ref c false S))) (ev : evE C c s m = .ok v m1) (e1 : truth m1 v = some k) (e2 : ∀ c, t = some c → k = c) (hs1 : SlR F p ρ1 S s) : (if k then q.1 else q.2) = true := by
  rw [hq]
  cases t with
  | some t => have := e2 t rfl; subst this; cases k <;> rfl
  | none =>
    cases k with
    | true =>
      show (!dead (ref c true S)) = true
      cases hd : dead (ref c true S) with
      | true => exact (dead_ok (ref_ok c true ev e1 hs1) hd).elim
      | false => rfl
    | false =>
      show (!dead (ref c false S)) = true
      cases hd : dead (ref c false S) with
      | true => exact (dead_ok (ref_ok c false ev e1 hs1) hd).elim
      | false => rfl
mutual
theorem aE_ok (hC : CalOk F p C A) : ∀ (e : Ex) {r0 : Mem} {S : ASl} {P : APl} {r : AV × APl × Nat} {ρ : List Nat} {s : Slots} {m : Mem} {n : Nat}, aE A e S P = some r → MR F p r0 ρ P m n → SlR F p ρ S s → n + r.2.2 ≤ BIG → Po F p r0 ρ n (evE C e s m) r.2.1 r.2.2 (fun ρ' v => r.1.has F p ρ' v)
  | .var i, r0, S, P, r, ρ, s, m, n, h, hm, hs, hb => by
    unfold aE at h
    split at h
    · rename_i a e
      cases h
      obtain ⟨v, e1, g⟩ := hs.at_ i a e
      rw [q_var, e1, gv]
      exact .ret hm g
    · cases h
  | .con d, r0, S, P, r, ρ, s, m, n, h, hm, hs, hb => by
    unfold aE at h
    cases h
    rw [q_con]
    exact .ret hm ⟨d, rfl, shOf_ok d⟩
  | .glo g, r0, S, P, r, ρ, s, m, n, h, hm, hs, hb => by
    unfold aE at h
    obtain ⟨d, e, rfl⟩ := om h
    rw [q_glo, hC.1 g d e, r_opt, r_ok]
    exact .ret hm ⟨d, rfl, shOf_ok d⟩
  | .tup es, r0, S, P, r, ρ, s, m, n, h, hm, hs, hb => by
    unfold aE at h
    obtain ⟨x, h1, h⟩ := ob h
    obtain ⟨ss, h2, rfl⟩ := om h
    rw [q_tup]
    refine (Po.bind (δ2 := 0) (aEs_ok hC es h1 hm hs hb) fun vs m1 ρ1 n1 hm1 he1 hv g1 g2 => ?_).mono (by simp) (fun _ _ _ q => q)
    obtain ⟨ds, rfl, h3⟩ := shs_ok h2 hv
    rw [datas_map, r_opt, r_ok]
    exact .ret hm1 ⟨_, rfl, by unfold Sh.has; exact ⟨ds, rfl, h3⟩⟩
  | .lst z es, r0, S, P, r, ρ, s, m, n, h, hm, hs, hb => by
    unfold aE at h
    obtain ⟨x, h1, h⟩ := ob h
    obtain ⟨ss, h2, rfl⟩ := om h
    rw [q_lst]
    refine (Po.bind (δ2 := 0) (aEs_ok hC es h1 hm hs hb) fun vs m1 ρ1 n1 hm1 he1 hv g1 g2 => ?_).mono (by simp) (fun _ _ _ q => q)
    obtain ⟨ds, rfl, h3⟩ := shs_ok h2 hv
    exact mkA_ok (q := .fix ss) h3 hm1
  | .dct ps, r0, S, P, r, ρ, s, m, n, h, hm, hs, hb => by unfold aE at h; cases h
  | .bin z o a b, r0, S, P, r, ρ, s, m, n, h, hm, hs, hb => by
    unfold aE at h
    obtain ⟨x, h1, h⟩ := ob h
    obtain ⟨y, h2, h⟩ := ob h
    obtain ⟨w, h3, rfl⟩ := om h
    rw [q_bin]
    dsimp only at hb ⊢
    exact Po.bind (aE_ok hC a h1 hm hs (by omega)) fun v1 m1 ρ1 n1 hm1 he1 hv1 g1 g2 =>
      Po.mono (δ := y.2.2 + 0) (Po.bind (aE_ok hC b h2 hm1 (hs.mono he1) (by omega)) fun v2 m2 ρ2 n2 hm2 he2 hv2 g3 g4 => aBin_ok h3 hm2 (hv1.mono he2) hv2) (by omega) (fun _ _ _ q => q)
  | .neg a, r0, S, P, r, ρ, s, m, n, h, hm, hs, hb => by
    unfold aE at h
    obtain ⟨x, h1, h⟩ := ob h
    obtain ⟨t, h2, rfl⟩ := om h
    rw [q_neg]
    refine (Po.bind (δ2 := 0) (aE_ok hC a h1 hm hs hb) fun v m1 ρ1 n1 hm1 he1 hv g1 g2 => ?_).mono (by simp) (fun _ _ _ q => q)
    obtain ⟨i, rfl, h3⟩ := aNeg_ok h2 hv
    exact .ret hm1 ⟨_, rfl, h3⟩
  | .cmp o a b, r0, S, P, r, ρ, s, m, n, h, hm, hs, hb => by
    unfold aE at h
    obtain ⟨x, h1, h⟩ := ob h
    obtain ⟨y, h2, h⟩ := ob h
    obtain ⟨w, h3, rfl⟩ := om h
    rw [q_cmp]
    dsimp only at hb ⊢
    refine Po.bind (aE_ok hC a h1 hm hs (by omega)) fun v1 m1 ρ1 n1 hm1 he1 hv1 g1 g2 =>
      Po.mono (δ := y.2.2 + 0) (Po.bind (aE_ok hC b h2 hm1 (hs.mono he1) (by omega)) fun v2 m2 ρ2 n2 hm2 he2 hv2 g3 g4 => ?_) (by omega) (fun _ _ _ q => q)
    obtain ⟨c, e1, e2⟩ := aCmp_ok (m := m2) h3 (hv1.mono he2) hv2
    rw [e1, v_b]
    exact .ret hm2 ⟨_, rfl, trS_ok e2⟩
  | .chn o q a b c, r0, S, P, r, ρ, s, m, n, h, hm, hs, hb => by
    unfold aE at h
    obtain ⟨x, h1, h⟩ := ob h
    obtain ⟨y, h2, h⟩ := ob h
    obtain ⟨k, h3, h⟩ := ob h
    rw [q_chn]
    have hl := hm.len
    cases k with
    | some k =>
      cases k with
      | false =>
        cases h
        dsimp only at hb ⊢
        refine Po.bind (aE_ok hC a h1 hm hs (by omega)) fun v1 m1 ρ1 n1 hm1 he1 hv1 g1 g2 =>
          Po.mono (δ := y.2.2 + 0) (Po.bind (aE_ok hC b h2 hm1 (hs.mono he1) (by omega)) fun v2 m2 ρ2 n2 hm2 he2 hv2 g3 g4 => ?_) (by omega) (fun _ _ _ q => q)
        obtain ⟨c, e1, e2⟩ := aCmp_ok (m := m2) h3 (hv1.mono he2) hv2
        rw [e1, r_ok, e2 false rfl]
        exact .ret hm2 ⟨_, rfl, by unfold Sh.has; rfl⟩
      | true =>
        obtain ⟨w, h4, h⟩ := ob h
        obtain ⟨t, h5, rfl⟩ := om h
        dsimp only at hb ⊢
        refine Po.mono (δ := x.2.2 + (y.2.2 + (w.2.2 + 0))) (Po.bind (aE_ok hC a h1 hm hs (by omega)) fun v1 m1 ρ1 n1 hm1 he1 hv1 g1 g2 =>
          Po.bind (aE_ok hC b h2 hm1 (hs.mono he1) (by omega)) fun v2 m2 ρ2 n2 hm2 he2 hv2 g3 g4 => ?_) (by omega) (fun _ _ _ q => q)
        obtain ⟨c', e1, e2⟩ := aCmp_ok (m := m2) h3 (hv1.mono he2) hv2
        rw [e1, r_ok, e2 true rfl]
        refine Po.bind (aE_ok hC c h4 hm2 ((hs.mono he1).mono he2) (by omega)) fun v3 m3 ρ3 n3 hm3 he3 hv3 g5 g6 => ?_
        obtain ⟨c'', e3, e4⟩ := aCmp_ok (m := m3) h5 (hv2.mono he3) hv3
        rw [e3, v_b]
        exact .ret hm3 ⟨_, rfl, trS_ok e4⟩
    | none =>
      obtain ⟨w, h4, h⟩ := ob h
      obtain ⟨t, h5, h⟩ := ob h
      obtain ⟨jj, h6, rfl⟩ := om h
      dsimp only at hb ⊢
      refine Po.mono (δ := x.2.2 + (y.2.2 + w.2.2)) (Po.bind (aE_ok hC a h1 hm hs (by omega)) fun v1 m1 ρ1 n1 hm1 he1 hv1 g1 g2 => Po.bind (aE_ok hC b h2 hm1 (hs.mono he1) (by omega)) fun v2 m2 ρ2 n2 hm2 he2 hv2 g3 g4 => ?_) (by omega) (fun _ _ _ q => q)
      obtain ⟨c', e1, e2⟩ := aCmp_ok (m := m2) h3 (hv1.mono he2) hv2
      rw [e1, r_ok]
      have hk : ρ2.length ≤ y.2.1.length := by rw [hm2.len]; exact Nat.le_refl _
      cases c' with
      | false => exact jVP_l (δ := 0) h6 hk (by omega) (.ret hm2 ⟨_, rfl, hasBl⟩)
      | true =>
        refine jVP_r (δ := w.2.2 + 0) h6 hk (by omega) (Po.bind (aE_ok hC c h4 hm2 ((hs.mono he1).mono he2) (by omega)) fun v3 m3 ρ3 n3 hm3 he3 hv3 g5 g6 => ?_)
        obtain ⟨c'', e3, e4⟩ := aCmp_ok (m := m3) h5 (hv2.mono he3) hv3
        rw [e3, v_b]
        exact .ret hm3 ⟨_, rfl, trS_ok e4⟩
  | .and a b, r0, S, P, r, ρ, s, m, n, h, hm, hs, hb => by
    unfold aE at h
    obtain ⟨x, h1, h⟩ := ob h
    obtain ⟨t, h2, h⟩ := ob h
    rw [q_and]
    cases t with
    | some t =>
      cases t with
      | true =>
        obtain ⟨y, h3, rfl⟩ := om h
        dsimp only at hb ⊢
        refine Po.bindE (aE_ok hC a h1 hm hs (by omega)) fun v1 m1 ρ1 n1 ev hm1 he1 hv1 g1 g2 => ?_
        obtain ⟨k, e1, e2⟩ := aTr_ok h2 hm1 hv1
        rw [e2 true rfl] at e1
        rw [e1]
        exact aE_ok hC b h3 hm1 (ref_ok a true ev e1 (hs.mono he1)) (by omega)
      | false =>
        cases h
        refine (Po.bindE (δ2 := 0) (aE_ok hC a h1 hm hs (by omega)) fun v1 m1 ρ1 n1 ev hm1 he1 hv1 g1 g2 => ?_).mono (by omega) (fun _ _ _ q => q)
        obtain ⟨k, e1, e2⟩ := aTr_ok h2 hm1 hv1
        rw [e2 false rfl] at e1
        rw [e1]
        exact .ret hm1 hv1
    | none =>
      dsimp only at h
      split at h
      · rename_i hd
        cases h
        dsimp only at hb ⊢
        refine (Po.bindE (δ2 := 0) (aE_ok hC a h1 hm hs (by omega)) fun v1 m1 ρ1 n1 ev hm1 he1 hv1 g1 g2 => ?_).mono (by omega) (fun _ _ _ q => q)
        obtain ⟨k, e1, e2⟩ := aTr_ok h2 hm1 hv1
        rw [e1]
        cases k with
        | true => exact (dead_ok (ref_ok a true ev e1 (hs.mono he1)) hd).elim
        | false => exact .ret hm1 (fals_ok hv1 e1)
      · obtain ⟨y, h3, h⟩ := ob h
        obtain ⟨c, h4, rfl⟩ := om h
        dsimp only at hb ⊢
        refine Po.bindE (aE_ok hC a h1 hm hs (by omega)) fun v1 m1 ρ1 n1 ev hm1 he1 hv1 g1 g2 => ?_
        obtain ⟨k, e1, e2⟩ := aTr_ok h2 hm1 hv1
        have hk : ρ1.length ≤ x.2.1.length := by rw [hm1.len]; exact Nat.le_refl _
        rw [e1]
        cases k with
        | true => exact jVP_r (δ := y.2.2) h4 hk (by omega) (aE_ok hC b h3 hm1 (ref_ok a true ev e1 (hs.mono he1)) (by omega))
        | false => exact jVP_l (δ := 0) h4 hk (by omega) (.ret hm1 (fals_ok hv1 e1))
  | .or a b, r0, S, P, r, ρ, s, m, n, h, hm, hs, hb => by
    unfold aE at h
    obtain ⟨x, h1, h⟩ := ob h
    obtain ⟨t, h2, h⟩ := ob h
    rw [q_or]
    cases t with
    | some t =>
      cases t with
      | false =>
        obtain ⟨y, h3, rfl⟩ := om h
        dsimp only at hb ⊢
        refine Po.bindE (aE_ok hC a h1 hm hs (by omega)) fun v1 m1 ρ1 n1 ev hm1 he1 hv1 g1 g2 => ?_
        obtain ⟨k, e1, e2⟩ := aTr_ok h2 hm1 hv1
        rw [e2 false rfl] at e1
        rw [e1]
        exact aE_ok hC b h3 hm1 (ref_ok a false ev e1 (hs.mono he1)) (by omega)
      | true =>
        cases h
        refine (Po.bindE (δ2 := 0) (aE_ok hC a h1 hm hs (by omega)) fun v1 m1 ρ1 n1 ev hm1 he1 hv1 g1 g2 => ?_).mono (by omega) (fun _ _ _ q => q)
        obtain ⟨k, e1, e2⟩ := aTr_ok h2 hm1 hv1
        rw [e2 true rfl] at e1
        rw [e1]
        exact .ret hm1 hv1
    | none =>
      dsimp only at h
      split at h
      · rename_i hd
        cases h
        dsimp only at hb ⊢
        refine (Po.bindE (δ2 := 0) (aE_ok hC a h1 hm hs (by omega)) fun v1 m1 ρ1 n1 ev hm1 he1 hv1 g1 g2 => ?_).mono (by omega) (fun _ _ _ q => q)
        obtain ⟨k, e1, e2⟩ := aTr_ok h2 hm1 hv1
        rw [e1]
        cases k with
        | false => exact (dead_ok (ref_ok a false ev e1 (hs.mono he1)) hd).elim
        | true => exact .ret hm1 (trus_ok hv1 e1)
      · obtain ⟨y, h3, h⟩ := ob h
        obtain ⟨c, h4, rfl⟩ := om h
        dsimp only at hb ⊢
        refine Po.bindE (aE_ok hC a h1 hm hs (by omega)) fun v1 m1 ρ1 n1 ev hm1 he1 hv1 g1 g2 => ?_
        obtain ⟨k, e1, e2⟩ := aTr_ok h2 hm1 hv1
        have hk : ρ1.length ≤ x.2.1.length := by rw [hm1.len]; exact Nat.le_refl _
        rw [e1]
        cases k with
        | false => exact jVP_r (δ := y.2.2) h4 hk (by omega) (aE_ok hC b h3 hm1 (ref_ok a false ev e1 (hs.mono he1)) (by omega))
        | true => exact jVP_l (δ := 0) h4 hk (by omega) (.ret hm1 (trus_ok hv1 e1))
  | .not a, r0, S, P, r, ρ, s, m, n, h, hm, hs, hb => by
    unfold aE at h
    obtain ⟨x, h1, h⟩ := ob h
    obtain ⟨t, h2, rfl⟩ := om h
    rw [q_not']
    refine (Po.bind (δ2 := 0) (aE_ok hC a h1 hm hs hb) fun v m1 ρ1 n1 hm1 he1 hv g1 g2 => ?_).mono (by simp) (fun _ _ _ q => q)
    obtain ⟨k, e1, e2⟩ := aTr_ok h2 hm1 hv
    rw [e1]
    exact .ret hm1 ⟨_, rfl, trS_ok (notT_ok e2)⟩
  | .ite c a b, r0, S, P, r, ρ, s, m, n, h, hm, hs, hb => by
    unfold aE at h
    obtain ⟨x, h1, h⟩ := ob h
    obtain ⟨t, h2, h⟩ := ob h
    rw [q_ite]
    split at h
    · rename_i hq
      obtain ⟨y, h3, rfl⟩ := om h
      dsimp only at hb ⊢
      refine Po.bindE (aE_ok hC c h1 hm hs (by omega)) fun v1 m1 ρ1 n1 ev hm1 he1 hv1 g1 g2 => ?_
      obtain ⟨k, e1, e2⟩ := aTr_ok h2 hm1 hv1
      have hp := pick (r0 := r0) (q := (true, false)) hq.symm ev e1 e2 (hs.mono he1)
      rw [e1]
      cases k with
      | true => exact aE_ok hC a h3 hm1 (ref_ok c true ev e1 (hs.mono he1)) (by omega)
      | false => cases hp
    · rename_i hq
      obtain ⟨y, h3, rfl⟩ := om h
      dsimp only at hb ⊢
      refine Po.bindE (aE_ok hC c h1 hm hs (by omega)) fun v1 m1 ρ1 n1 ev hm1 he1 hv1 g1 g2 => ?_
      obtain ⟨k, e1, e2⟩ := aTr_ok h2 hm1 hv1
      have hp := pick (r0 := r0) (q := (false, true)) hq.symm ev e1 e2 (hs.mono he1)
      rw [e1]
      cases k with
      | false => exact aE_ok hC b h3 hm1 (ref_ok c false ev e1 (hs.mono he1)) (by omega)
      | true => cases hp
    · cases h
    · obtain ⟨y, h3, h⟩ := ob h
      obtain ⟨w, h4, h⟩ := ob h
      obtain ⟨cc, h5, rfl⟩ := om h
      dsimp only at hb ⊢
      refine Po.bindE (aE_ok hC c h1 hm hs (by omega)) fun v1 m1 ρ1 n1 ev hm1 he1 hv1 g1 g2 => ?_
      obtain ⟨k, e1, e2⟩ := aTr_ok h2 hm1 hv1
      have hk : ρ1.length ≤ x.2.1.length := by rw [hm1.len]; exact Nat.le_refl _
      rw [e1]
      cases k with
      | true => exact jVP_l (δ := y.2.2) h5 hk (by omega) (aE_ok hC a h3 hm1 (ref_ok c true ev e1 (hs.mono he1)) (by omega))
      | false => exact jVP_r (δ := w.2.2) h5 hk (by omega) (aE_ok hC b h4 hm1 (ref_ok c false ev e1 (hs.mono he1)) (by omega))
  | .idx a i, r0, S, P, r, ρ, s, m, n, h, hm, hs, hb => by
    unfold aE at h
    obtain ⟨x, h1, h⟩ := ob h
    obtain ⟨y, h2, h⟩ := ob h
    obtain ⟨t, h3, rfl⟩ := om h
    rw [q_idx]
    dsimp only at hb ⊢
    refine Po.bind (aE_ok hC a h1 hm hs (by omega)) fun v1 m1 ρ1 n1 hm1 he1 hv1 g1 g2 =>
      Po.mono (δ := y.2.2 + 0) (Po.bind (aE_ok hC i h2 hm1 (hs.mono he1) (by omega)) fun v2 m2 ρ2 n2 hm2 he2 hv2 g3 g4 => ?_) (by omega) (fun _ _ _ q => q)
    obtain ⟨d, e1, e2⟩ := aIdxA_ok h3 hm2 (hv1.mono he2) hv2
    rw [e1, r_opt]
    exact .ret hm2 ⟨_, rfl, e2⟩
  | .slc z pl ph a lo hi, r0, S, P, r, ρ, s, m, n, h, hm, hs, hb => by
    unfold aE at h
    obtain ⟨x, h1, h⟩ := ob h
    obtain ⟨l, h2, h⟩ := ob h
    obtain ⟨u, h3, h⟩ := ob h
    obtain ⟨l', h4, h⟩ := ob h
    obtain ⟨u', h5, h⟩ := ob h
    obtain ⟨w, h6, rfl⟩ := om h
    rw [q_slc]
    dsimp only at hb ⊢
    refine Po.bind (aE_ok hC a h1 hm hs (by omega)) fun v1 m1 ρ1 n1 hm1 he1 hv1 g1 g2 =>
      Po.bind (aE_ok hC lo h2 hm1 (hs.mono he1) (by omega)) fun v2 m2 ρ2 n2 hm2 he2 hv2 g3 g4 =>
      Po.mono (δ := u.2.2 + 0) (Po.bind (aE_ok hC hi h3 hm2 ((hs.mono he1).mono he2) (by omega)) fun v3 m3 ρ3 n3 hm3 he3 hv3 g5 g6 => ?_) (by omega) (fun _ _ _ q => q)
    obtain ⟨w1, e1, e2⟩ := aPart_ok h4 (hv2.mono he3)
    obtain ⟨w2, e3, e4⟩ := aPart_ok h5 hv3
    rw [e1, e3]
    exact aSlc_ok h6 hm3 ((hv1.mono he2).mono he3) e2 e4
  | .rev z a, r0, S, P, r, ρ, s, m, n, h, hm, hs, hb => by
    unfold aE at h
    obtain ⟨x, h1, h⟩ := ob h
    obtain ⟨w, h2, rfl⟩ := om h
    rw [q_rev]
    exact (Po.bind (δ2 := 0) (aE_ok hC a h1 hm hs hb) fun v m1 ρ1 n1 hm1 he1 hv g1 g2 => aRev_ok h2 hm1 hv).mono (by simp) (fun _ _ _ q => q)
  | .call f es, r0, S, P, r, ρ, s, m, n, h, hm, hs, hb => by
    unfold aE at h
    obtain ⟨x, h1, h⟩ := ob h
    obtain ⟨w, h2, rfl⟩ := om h
    rw [q_call]
    dsimp only at hb ⊢
    exact Po.bind (aEs_ok hC es h1 hm hs (by omega)) fun vs m1 ρ1 n1 hm1 he1 hv g1 g2 => hC.2 _ _ _ _ _ _ _ _ _ h2 hm1 (by omega) hv
  | .bi z b es, r0, S, P, r, ρ, s, m, n, h, hm, hs, hb => by
    unfold aE at h
    obtain ⟨x, h1, h⟩ := ob h
    obtain ⟨w, h2, rfl⟩ := om h
    rw [q_bi]
    exact (Po.bind (δ2 := 0) (aEs_ok hC es h1 hm hs hb) fun v m1 ρ1 n1 hm1 he1 hv g1 g2 => aBi_ok h2 hm1 hv).mono (by simp) (fun _ _ _ q => q)
  | .mth mt o es, r0, S, P, r, ρ, s, m, n, h, hm, hs, hb => by
    unfold aE at h
    obtain ⟨x, h1, h⟩ := ob h
    obtain ⟨y, h2, h⟩ := ob h
    obtain ⟨w, h3, rfl⟩ := om h
    rw [q_mth]
    dsimp only at hb ⊢
    exact Po.bind (aE_ok hC o h1 hm hs (by omega)) fun v1 m1 ρ1 n1 hm1 he1 hv1 g1 g2 =>
      Po.mono (δ := y.2.2 + 0) (Po.bind (aEs_ok hC es h2 hm1 (hs.mono he1) (by omega)) fun v2 m2 ρ2 n2 hm2 he2 hv2 g3 g4 => aMt_ok h3 hm2 (hv1.mono he2) hv2) (by omega) (fun _ _ _ q => q)
  | .isi a ts, r0, S, P, r, ρ, s, m, n, h, hm, hs, hb => by
    unfold aE at h
    obtain ⟨x, h1, h⟩ := ob h
    obtain ⟨w, h2, rfl⟩ := om h
    rw [q_isi]
    refine (Po.bind (δ2 := 0) (aE_ok hC a h1 hm hs hb) fun v m1 ρ1 n1 hm1 he1 hv g1 g2 => ?_).mono (by simp) (fun _ _ _ q => q)
    obtain ⟨k, e1, e2⟩ := aIs_ok h2 hm1 hv
    rw [e1, r_opt, r_ok]
    exact .ret hm1 ⟨_, rfl, trS_ok e2⟩
  | .cmpr z own tg it c e, r0, S, P, r, ρ, s, m, n, h, hm, hs, hb => by
    unfold aE at h
    obtain ⟨k, h1, h⟩ := ob h
    obtain ⟨w, h2, rfl⟩ := om h
    rw [q_cmpr]
    dsimp only at hb ⊢
    refine Po.bind (aIt_ok hC it h1 hm hs (by omega)) fun wk m1 ρ1 n1 hm1 he1 hv g1 g2 => Po.mono (δ := w.2.2 + 0) (Po.bind (aComp_ok ?_ h2 hv hm1 (by omega)) fun vs m2 ρ2 n2 hm2 he2 hv2 g3 g4 => ?_) (by omega) (fun _ _ _ q => q)
    · intro wv Pt rt ht ρ' mt nt v he' hmt hwv hbt
      obtain ⟨S', e1, ht⟩ := ob ht
      obtain ⟨xc, e2, ht⟩ := ob ht
      obtain ⟨tt, e3, ht⟩ := ob ht
      obtain ⟨s', e4, hs'⟩ := aAsgW_ok hmt e1 hwv (wipe_ok ((hs.mono he1).mono he') own)
      unfold turn
      rw [e4]
      cases tt with
      | some tt =>
        cases tt with
        | false =>
          cases ht
          dsimp only at hbt ⊢
          refine (Po.bindE (δ2 := 0) (aE_ok hC c e2 hmt hs' (by omega)) fun v1 m3 ρ3 n3 ev hm3 he3 hv3 g5 g6 => ?_).mono (by omega) (fun _ _ _ q => q)
          obtain ⟨b, f1, f2⟩ := aTr_ok e3 hm3 hv3
          rw [f1, f2 false rfl]
          exact .ret hm3 rfl
        | true =>
          obtain ⟨y, e5, ht⟩ := ob ht
          obtain ⟨ss, e6, rfl⟩ := om ht
          dsimp only at hbt ⊢
          refine Po.bindE (aE_ok hC c e2 hmt hs' (by omega)) fun v1 m3 ρ3 n3 ev hm3 he3 hv3 g5 g6 => ?_
          obtain ⟨b, f1, f2⟩ := aTr_ok e3 hm3 hv3
          rw [f2 true rfl] at f1
          rw [f1]
          refine Po.mono (δ := y.2.2 + 0) (Po.bind (aE_ok hC e e5 hm3 (ref_ok c true ev f1 (hs'.mono he3)) (by omega)) fun v4 m4 ρ4 n4 hm4 he4 hv4 g7 g8 => ?_) (by omega) (fun _ _ _ q => q)
          obtain ⟨sh, f3, f4⟩ := shs1 e6
          rw [f3] at hv4
          obtain ⟨d, rfl, f5⟩ := hv4
          exact .ret hm4 ⟨sh, d, f4, rfl, f5⟩
      | none =>
        dsimp only at ht
        split at ht
        · rename_i hd
          cases ht
          dsimp only at hbt ⊢
          refine (Po.bindE (δ2 := 0) (aE_ok hC c e2 hmt hs' (by omega)) fun v1 m3 ρ3 n3 ev hm3 he3 hv3 g5 g6 => ?_).mono (by omega) (fun _ _ _ q => q)
          obtain ⟨b, f1, f2⟩ := aTr_ok e3 hm3 hv3
          rw [f1]
          cases b with
          | true => exact (dead_ok (ref_ok c true ev f1 (hs'.mono he3)) hd).elim
          | false => exact .ret hm3 rfl
        · obtain ⟨y, e5, ht⟩ := ob ht
          obtain ⟨ss, e6, ht⟩ := ob ht
          obtain ⟨Q, e7, rfl⟩ := om ht
          obtain ⟨l1, l2, rfl⟩ := jP_ok e7
          dsimp only at hbt ⊢
          refine Po.bindE (aE_ok hC c e2 hmt hs' (by omega)) fun v1 m3 ρ3 n3 ev hm3 he3 hv3 g5 g6 => ?_
          obtain ⟨b, f1, f2⟩ := aTr_ok e3 hm3 hv3
          have hk : ρ3.length ≤ (zipP xc.2.1 y.2.1).length := by rw [hm3.len, zipP_len]; omega
          rw [f1]
          cases b with
          | true =>
            obtain ⟨v4, m4, ρ4, n4, ev4, hm4, he4, hv4, g7, g8⟩ := aE_ok hC e e5 hm3 (ref_ok c true ev f1 (hs'.mono he3)) (by omega)
            obtain ⟨sh, f3, f4⟩ := shs1 e6
            rw [f3] at hv4
            obtain ⟨d, rfl, f5⟩ := hv4
            refine ⟨some (.d d), m4, _, n4, ?_, hm4.zr, he4.tk hk, ⟨sh, d, f4, rfl, f5⟩, g7, by omega⟩
            show (evE C e s' m3).bind _ = _
            rw [ev4]
            rfl
          | false => exact ⟨none, m3, _, n3, rfl, hm3.zl, Ext.refl.tk hk, rfl, Nat.le_refl _, by omega⟩
    · obtain ⟨es, rfl, hq⟩ := hv2
      exact mkA_ok hq hm2
theorem aEs_ok (hC : CalOk F p C A) : ∀ (es : Exs) {r0 : Mem} {S : ASl} {P : APl} {r : List AV × APl × Nat} {ρ : List Nat} {s : Slots} {m : Mem} {n : Nat}, aEs A es S P = some r → MR F p r0 ρ P m n → SlR F p ρ S s → n + r.2.2 ≤ BIG → Po F p r0 ρ n (evEs C es s m) r.2.1 r.2.2 (fun ρ' vs => hasVs F p ρ' r.1 vs)
  | .nil, r0, S, P, r, ρ, s, m, n, h, hm, hs, hb => by
    unfold aEs at h
    cases h
    rw [q_nil]
    exact .ret hm rfl
  | .cons e es, r0, S, P, r, ρ, s, m, n, h, hm, hs, hb => by
    unfold aEs at h
    obtain ⟨x, h1, h⟩ := ob h
    obtain ⟨y, h2, rfl⟩ := om h
    rw [q_cons]
    dsimp only at hb ⊢
    refine Po.bind (aE_ok hC e h1 hm hs (by omega)) fun v1 m1 ρ1 n1 hm1 he1 hv1 g1 g2 =>
      Po.mono (δ := y.2.2 + 0) (Po.bind (aEs_ok hC es h2 hm1 (hs.mono he1) (by omega)) fun v2 m2 ρ2 n2 hm2 he2 hv2 g3 g4 => ?_) (by omega) (fun _ _ _ q => q)
    exact .ret hm2 ⟨_, _, rfl, hv1.mono he2, hv2⟩
theorem aIt_ok (hC : CalOk F p C A) : ∀ (e : It) {r0 : Mem} {S : ASl} {P : APl} {r : AWk × APl × Nat} {ρ : List Nat} {s : Slots} {m : Mem} {n : Nat}, aIt A e S P = some r → MR F p r0 ρ P m n → SlR F p ρ S s → n + r.2.2 ≤ BIG → Po F p r0 ρ n (evIt C e s m) r.2.1 r.2.2 (fun ρ' v => r.1.has F p r0 ρ' v)
  | .ex e, r0, S, P, r, ρ, s, m, n, h, hm, hs, hb => by
    unfold aIt at h
    obtain ⟨x, h1, h⟩ := ob h
    obtain ⟨w, h2, rfl⟩ := om h
    rw [y_ex]
    refine (Po.bind (δ2 := 0) (aE_ok hC e h1 hm hs hb) fun v m1 ρ1 n1 hm1 he1 hv g1 g2 => ?_).mono (by simp) (fun _ _ _ q => q)
    obtain ⟨wk, e1, e2⟩ := aExW_ok h2 hm1 hv
    rw [e1]
    exact .ret hm1 e2
  | .rng a b, r0, S, P, r, ρ, s, m, n, h, hm, hs, hb => by
    unfold aIt at h
    obtain ⟨x, h1, h⟩ := ob h
    obtain ⟨y, h2, h⟩ := ob h
    obtain ⟨t, h3, rfl⟩ := om h
    rw [y_rng]
    dsimp only at hb ⊢
    refine Po.bind (aE_ok hC a h1 hm hs (by omega)) fun v1 m1 ρ1 n1 hm1 he1 hv1 g1 g2 =>
      Po.mono (δ := y.2.2 + 0) (Po.bind (aE_ok hC b h2 hm1 (hs.mono he1) (by omega)) fun v2 m2 ρ2 n2 hm2 he2 hv2 g3 g4 => ?_) (by omega) (fun _ _ _ q => q)
    obtain ⟨wk, e1, e2⟩ := aRng_ok (r0 := r0) (m := m2) h3 (hv1.mono he2) hv2
    rw [e1]
    exact .ret hm2 e2
  | .rng3 a b c, r0, S, P, r, ρ, s, m, n, h, hm, hs, hb => by
    unfold aIt at h
    obtain ⟨x, h1, h⟩ := ob h
    obtain ⟨y, h2, h⟩ := ob h
    obtain ⟨z, h3, h⟩ := ob h
    obtain ⟨t, h4, rfl⟩ := om h
    rw [y_rng3]
    dsimp only at hb ⊢
    refine Po.bind (aE_ok hC a h1 hm hs (by omega)) fun v1 m1 ρ1 n1 hm1 he1 hv1 g1 g2 =>
      Po.bind (aE_ok hC b h2 hm1 (hs.mono he1) (by omega)) fun v2 m2 ρ2 n2 hm2 he2 hv2 g3 g4 =>
      Po.mono (δ := z.2.2 + 0) (Po.bind (aE_ok hC c h3 hm2 ((hs.mono he1).mono he2) (by omega)) fun v3 m3 ρ3 n3 hm3 he3 hv3 g5 g6 => ?_) (by omega) (fun _ _ _ q => q)
    obtain ⟨wk, e1, e2⟩ := aRng3_ok (r0 := r0) (m := m3) h4 ((hv1.mono he2).mono he3) (hv2.mono he3) hv3
    rw [e1]
    exact .ret hm3 e2
  | .enum e, r0, S, P, r, ρ, s, m, n, h, hm, hs, hb => by
    unfold aIt at h
    obtain ⟨x, h1, h⟩ := ob h
    obtain ⟨w, h2, rfl⟩ := om h
    rw [y_enum]
    refine (Po.bind (δ2 := 0) (aE_ok hC e h1 hm hs hb) fun v m1 ρ1 n1 hm1 he1 hv g1 g2 => ?_).mono (by simp) (fun _ _ _ q => q)
    obtain ⟨wk, e1, e2⟩ := aEnum_ok (r0 := r0) (m := m1) h2 hv
    rw [e1]
    exact .ret hm1 e2
  | .zip a b, r0, S, P, r, ρ, s, m, n, h, hm, hs, hb => by
    unfold aIt at h
    obtain ⟨x, h1, h⟩ := ob h
    obtain ⟨y, h2, h⟩ := ob h
    obtain ⟨t, h3, rfl⟩ := om h
    rw [y_zip]
    dsimp only at hb ⊢
    refine Po.bind (aE_ok hC a h1 hm hs (by omega)) fun v1 m1 ρ1 n1 hm1 he1 hv1 g1 g2 =>
      Po.mono (δ := y.2.2 + 0) (Po.bind (aE_ok hC b h2 hm1 (hs.mono he1) (by omega)) fun v2 m2 ρ2 n2 hm2 he2 hv2 g3 g4 => ?_) (by omega) (fun _ _ _ q => q)
    obtain ⟨wk, e1, e2⟩ := aZip_ok (r0 := r0) (m := m2) h3 (hv1.mono he2) hv2
    rw [e1]
    exact .ret hm2 e2
end
end
end Rf

namespace Rf
/-! ### statements, read abstractly -/
structure AF where
  nx : ASt
  rt : ART
  bk : ASt
  ct : ASt
def jF (k : Nat) (a b : AF) : Option AF := (jSt k a.nx b.nx).bind fun nx => (jRt k a.rt b.rt).bind fun rt => (jSt k a.bk b.bk).bind fun bk => (jSt k a.ct b.ct).map fun ct => ⟨nx, rt, bk, ct⟩
def AF.go (S : ASl) (P : APl) : AF := ⟨some (S, P), none, none, none⟩
def AF.out (a : AF) : AF := ⟨a.bk, a.rt, none, none⟩
def Sq.put (q : Sq) (a b : Int) (s : Sh) : Sq :=
  match q with
  | .fix ss => if a = b ∧ 0 ≤ a then .fix (ss.set a.toNat s) else .hom ss.length ss.length ((Sh.joinAll ss).J s)
  | .hom lo hi t => .hom lo hi (t.J s)
def leO (k : Nat) : Option AV → Option AV → Bool
  | _, none => true
  | some (.sh a), some (.sh b) => Sh.le LF a b
  | some .dk, some .dk => true
  | some (.pl i), some (.pl j) => decide (i = j ∧ i < k)
  | _, _ => false
def leS (k : Nat) : ASl → ASl → Bool
  | _, [] => true
  | x :: xs, y :: ys => leO k x y && leS k xs ys
  | [], _ :: _ => false
def leSt (a b : ASl × APl) : Bool := leS b.2.length a.1 b.1 && leP a.2 b.2
def aLoopF (k0 : Nat) (f : AWv → ASl → APl → Option (AF × Nat)) (fin : APl → Bool) : List (APl → Option AWv) → ASl → APl → Option (AF × Nat)
  | [], S, P => if fin P then some (AF.go S P, 0) else none
  | r :: rs, S, P => (r P).bind fun w => (f w S P).bind fun a => (jSt k0 a.1.nx a.1.ct).bind fun nx => match nx with
    | none => some (a.1.out, a.2)
    | some sp => (aLoopF k0 f fin rs sp.1 sp.2).bind fun b => (jF k0 a.1.out b.1).map fun c => (c, a.2 + b.2)
def AF.may (l : Nat) (S : ASl) (P : APl) : AF := ⟨if l = 0 then some (S, P) else none, none, none, none⟩
def aLoopH (k0 : Nat) (f : AWv → ASl → APl → Option (AF × Nat)) (w : AWv) : Nat → Nat → ASl → APl → Option (AF × Nat)
  | 0, _, S, P => some (AF.go S P, 0)
  | h + 1, l, S, P => (f w S P).bind fun a => (jSt k0 a.1.nx a.1.ct).bind fun nx => match nx with
    | none => (jF k0 (AF.may l S P) a.1.out).map fun c => (c, a.2)
    | some sp => match leSt sp (S, P) with
      | true => (jF k0 (AF.go S P) a.1.out).map fun c => (c, (h + 1) * a.2)
      | false => (aLoopH k0 f w h (l - 1) sp.1 sp.2).bind fun b => (jF k0 a.1.out b.1).bind fun c => (jF k0 (AF.may l S P) c).map fun c => (c, a.2 + b.2)
def aLoop (k0 : Nat) (f : AWv → ASl → APl → Option (AF × Nat)) (S : ASl) (P : APl) : AWk → Option (AF × Nat)
  | .fix rs fin => aLoopF k0 f fin rs S P
  | .hom lo hi w => if hi ≤ 70 then aLoopH k0 f w hi lo S P else none
def aPar : List Nat → List AV → ASl → Option ASl
  | [], [], S => some S
  | i :: is, a :: as, S => aPar is as (S.set i (some a))
  | _, _, _ => none
def aAug (o : Bop) (a b : AV) : Option Sh :=
  match a, b with
  | .sh a, .sh b => if (a.asInt.isSome && b.asInt.isSome) || (a.asStr.isSome && b.asStr.isSome) then binS o a b else none
  | _, _ => none
/-- the ways of a shape -/
def waysA (s : Sh) : List Sh := match s with
  | .tups lo hi e => if hi ≤ lo + 8 then (List.range (hi + 1 - lo)).map fun k => .tup (List.replicate (lo + k) e) else [s]
  | .lsts lo hi e => if hi ≤ lo + 8 then (List.range (hi + 1 - lo)).map fun k => .lst (List.replicate (lo + k) e) else [s]
  | .str lo hi e => if hi ≤ lo + 8 then (List.range (hi + 1 - lo)).map fun k => .str (lo + k) (lo + k) e else [s]
  | .bl => [.con (.bl true), .con (.bl false)]
  | .int a b => if b ≤ a + 64 then (List.range (b + 1 - a).toNat).map fun k => .int (a + (k : Nat)) (a + (k : Nat)) else [s]
  | s => [s]
def splitsA : AV → List AV
  | .sh s => (s.alts.flatMap waysA).map .sh
  | a => [a]
def Tg.fst : Tg → Nat
  | .nm i => i
  | .tup (.cons t _) => t.fst
  | .tup .nil => 0
def spl (A : ACal) : St → Option (Tg × Ex)
  | .asg t e => if A.sp t.fst then some (t, e) else none
  | _ => none
def joinM (k : Nat) : List (Option (AF × Nat)) → Option (AF × Nat)
  | [] => none
  | x :: r => match r with
    | [] => x
    | _ => x.bind fun a => (joinM k r).bind fun b => (jF k a.1 b.1).map fun c => (c, max a.2 b.2)
mutual
def aS (A : ACal) : St → ASl → APl → Option (AF × Nat)
  | .asg t e, S, P => (aE A e S P).bind fun x => (aAsg x.2.1 t x.1 S).map fun S' => (AF.go S' x.2.1, x.2.2)
  | .set o i e, S, P => (aE A e S P).bind fun x => (aE A o S x.2.1).bind fun y => (aE A i S y.2.1).bind fun w => match x.1, y.1, w.1 with
    | .sh s, .pl j, .sh t => (t.asInt).bind fun ab => (asL (.pl j) w.2.1).bind fun q => match q.at ab.1 ab.2 with
      | none => none
      | some _ => some (AF.go S (w.2.1.set j (q.put ab.1 ab.2 s).lst), x.2.2 + (y.2.2 + w.2.2))
    | _, _, _ => none
  | .aug i o e, S, P => match S[i]? with
    | some (some a) => (aE A e S P).bind fun y => (aAug o a y.1).map fun s => (AF.go (S.set i (some (.sh s))) y.2.1, y.2.2)
    | _ => none
  | .ex e, S, P => (aE A e S P).map fun x => (AF.go S x.2.1, x.2.2)
  | .ret e, S, P => (aE A e S P).map fun x => (⟨none, some (some x.1, x.2.1), none, none⟩, x.2.2)
  | .iff c a b, S, P => (aE A c S P).bind fun x => (aTr x.1 x.2.1).bind fun t =>
    match brs t (dead (ref c true S)) (dead (ref c false S)) with
    | (true, false) => (aSs A a (ref c true S) x.2.1).map fun y => (y.1, x.2.2 + y.2)
    | (false, true) => (aSs A b (ref c false S) x.2.1).map fun y => (y.1, x.2.2 + y.2)
    | (false, false) => none
    | (true, true) => (aSs A a (ref c true S) x.2.1).bind fun y => (aSs A b (ref c false S) x.2.1).bind fun w => (jF x.2.1.length y.1 w.1).map fun c => (c, x.2.2 + (y.2 + w.2))
  | .forr t it b, S, P => (aIt A it S P).bind fun k => (aLoop k.2.1.length (fun w S P => (aAsgW P t w S).bind fun S' => aSs A b S' P) S k.2.1 k.1).map fun r => (r.1, k.2.2 + r.2)
  | .whil _ _, _, _ => none
  | .par is es, S, P => (aEs A es S P).bind fun x => (aPar is x.1 S).map fun S' => (AF.go S' x.2.1, x.2.2)
  | .pass, S, P => some (AF.go S P, 0)
  | .brk, S, P => some (⟨none, none, some (S, P), none⟩, 0)
  | .cnt, S, P => some (⟨none, none, none, some (S, P)⟩, 0)
def aSs (A : ACal) : Sts → ASl → APl → Option (AF × Nat)
  | .nil, S, P => some (AF.go S P, 0)
  | .cons x xs, S, P => match spl A x with
    | some te => (aE A te.2 S P).bind fun v => (joinM v.2.1.length ((splitsA v.1).map fun a => (aAsg v.2.1 te.1 a S).bind fun S' => aSs A xs S' v.2.1)).map fun r => (r.1, v.2.2 + r.2)
    | none => (aS A x S P).bind fun r => match r.1.nx with
      | none => some r
      | some sp => (aSs A xs sp.1 sp.2).bind fun q => (jF P.length ⟨none, r.1.rt, r.1.bk, r.1.ct⟩ q.1).map fun c => (c, r.2 + q.2)
end
/-! what a flow has -/
def AF.has (F : Fam) (p : PT) (r0 : Mem) (a : AF) (fl : Fl) (m : Mem) (n : Nat) (ρ : List Nat) : Prop := match fl with
  | .nx s => StR F p r0 a.nx s m n ρ
  | .rt v => RtR F p r0 a.rt v m n ρ
  | .bk s => StR F p r0 a.bk s m n ρ
  | .ct s => StR F p r0 a.ct s m n ρ
def FP (F : Fam) (p : PT) (r0 : Mem) (ρ : List Nat) (n : Nat) (x : R Fl) (a : AF) (δ : Nat) : Prop := ∃ fl m' ρ' n', x = .ok fl m' ∧ Ext ρ ρ' ∧ n ≤ n' ∧ n' ≤ n + δ ∧ a.has F p r0 fl m' n' ρ'
section
variable {F : Fam} {p : PT} {r0 : Mem} {ρ ρ' ρ0 : List Nat} {P P' Q : APl} {m m' : Mem} {n n1 : Nat} {z : Bool} {C : Cal} {A : ACal} {S : ASl} {s : Slots}
theorem jF_l {k : Nat} {a b c : AF} {fl : Fl} (h : jF k a b = some c) (g : a.has F p r0 fl m n ρ) (e : Ext ρ0 ρ) (hk : ρ0.length ≤ k) : ∃ ρ', Ext ρ0 ρ' ∧ c.has F p r0 fl m n ρ' := by
  obtain ⟨nx, h1, h⟩ := ob h
  obtain ⟨rt, h2, h⟩ := ob h
  obtain ⟨bk, h3, h⟩ := ob h
  obtain ⟨ct, h4, rfl⟩ := om h
  cases fl with
  | nx s => exact jSt_l h1 g e hk
  | rt v => exact jRt_l h2 g e hk
  | bk s => exact jSt_l h3 g e hk
  | ct s => exact jSt_l h4 g e hk
theorem jF_r {k : Nat} {a b c : AF} {fl : Fl} (h : jF k a b = some c) (g : b.has F p r0 fl m n ρ) (e : Ext ρ0 ρ) (hk : ρ0.length ≤ k) : ∃ ρ', Ext ρ0 ρ' ∧ c.has F p r0 fl m n ρ' := by
  obtain ⟨nx, h1, h⟩ := ob h
  obtain ⟨rt, h2, h⟩ := ob h
  obtain ⟨bk, h3, h⟩ := ob h
  obtain ⟨ct, h4, rfl⟩ := om h
  cases fl with
  | nx s => exact jSt_r h1 g e hk
  | rt v => exact jRt_r h2 g e hk
  | bk s => exact jSt_r h3 g e hk
  | ct s => exact jSt_r h4 g e hk
theorem FP.jl {k : Nat} {a b c : AF} {x : R Fl} {δ δ' : Nat} (h : FP F p r0 ρ n x a δ) (hj : jF k a b = some c) (hk : ρ.length ≤ k) (hd : δ ≤ δ') : FP F p r0 ρ n x c δ' := by
  obtain ⟨fl, m1, ρ1, n1, e, h1, h2, h3, h4⟩ := h
  obtain ⟨ρ2, g1, g2⟩ := jF_l hj h4 h1 hk
  exact ⟨fl, m1, ρ2, n1, e, g1, h2, by omega, g2⟩
theorem FP.jr {k : Nat} {a b c : AF} {x : R Fl} {δ δ' : Nat} (h : FP F p r0 ρ n x b δ) (hj : jF k a b = some c) (hk : ρ.length ≤ k) (hd : δ ≤ δ') : FP F p r0 ρ n x c δ' := by
  obtain ⟨fl, m1, ρ1, n1, e, h1, h2, h3, h4⟩ := h
  obtain ⟨ρ2, g1, g2⟩ := jF_r hj h4 h1 hk
  exact ⟨fl, m1, ρ2, n1, e, g1, h2, by omega, g2⟩
theorem FP.mono {a : AF} {x : R Fl} {δ δ' : Nat} (h : FP F p r0 ρ n1 x a δ) (e : Ext ρ0 ρ) (h1 : n ≤ n1) (h2 : n1 + δ ≤ n + δ') : FP F p r0 ρ0 n x a δ' := by
  obtain ⟨fl, m1, ρ1, n1, e', h1, h2, h3, h4⟩ := h
  exact ⟨fl, m1, ρ1, n1, e', e.trans h1, by omega, by omega, h4⟩
theorem FP.go (hm : MR F p r0 ρ P m n) (hs : SlR F p ρ S s) {δ : Nat} : FP F p r0 ρ n (.ok (.nx s) m) (AF.go S P) δ := ⟨.nx s, m, ρ, n, rfl, .refl, Nat.le_refl _, Nat.le_add_right _ _, S, P, rfl, hm, hs⟩
/-- a value first -/
theorem FP.po {α : Type} {x : R α} {f : α → Mem → R Fl} {a : AF} {P1 : APl} {δ1 δ2 : Nat} {Q1 : List Nat → α → Prop} (h : Po F p r0 ρ n x P1 δ1 Q1)
    (g : ∀ v m1 ρ1 n1, x = .ok v m1 → MR F p r0 ρ1 P1 m1 n1 → Ext ρ ρ1 → Q1 ρ1 v → n ≤ n1 → n1 ≤ n + δ1 → FP F p r0 ρ1 n1 (f v m1) a δ2) : FP F p r0 ρ n (x.bind f) a (δ1 + δ2) := by
  obtain ⟨v, m1, ρ1, n1, rfl, h1, h2, h3, h4, h5⟩ := h
  exact (g v m1 ρ1 n1 rfl h1 h2 h3 h4 h5).mono h2 h4 (by omega)
theorem hasL_repl {s : Sh} {ds : List D} {k : Nat} (h : ds.length = k) (g : ∀ x ∈ ds, s.has p x) : Sh.hasL p (List.replicate k s) ds := by
  subst h
  exact hasL_rep1 g
theorem waysA_ok {s : Sh} {d : D} (h : s.has p d) : ∃ t ∈ waysA s, t.has p d := by
  unfold waysA
  split
  · rename_i lo hi e
    split
    · have h0 := h
      unfold Sh.has at h
      obtain ⟨ds, rfl, h1, h2, h3⟩ := h
      refine ⟨_, List.mem_map_of_mem (List.mem_range.mpr (show ds.length - lo < hi + 1 - lo by omega)), ?_⟩
      unfold Sh.has
      exact ⟨ds, rfl, hasL_repl (by omega) h3⟩
    · exact ⟨_, List.mem_singleton_self _, h⟩
  · rename_i lo hi e
    split
    · unfold Sh.has at h
      obtain ⟨ds, rfl, h1, h2, h3⟩ := h
      refine ⟨_, List.mem_map_of_mem (List.mem_range.mpr (show ds.length - lo < hi + 1 - lo by omega)), ?_⟩
      unfold Sh.has
      exact ⟨ds, rfl, hasL_repl (by omega) h3⟩
    · exact ⟨_, List.mem_singleton_self _, h⟩
  · rename_i lo hi e
    split
    · unfold Sh.has at h
      obtain ⟨ds, rfl, h1, h2, h3⟩ := h
      refine ⟨_, List.mem_map_of_mem (List.mem_range.mpr (show ds.length - lo < hi + 1 - lo by omega)), ?_⟩
      unfold Sh.has
      exact ⟨ds, rfl, by omega, by omega, h3⟩
    · exact ⟨_, List.mem_singleton_self _, h⟩
  · unfold Sh.has at h
    obtain ⟨b, rfl⟩ := h
    cases b with
    | true => exact ⟨.con (.bl true), by simp, by unfold Sh.has; rfl⟩
    | false => exact ⟨.con (.bl false), by simp, by unfold Sh.has; rfl⟩
  · rename_i a b
    split
    · unfold Sh.has at h
      obtain ⟨i, rfl, h1, h2⟩ := h
      refine ⟨_, List.mem_map_of_mem (List.mem_range.mpr (show (i - a).toNat < (b + 1 - a).toNat by omega)), ?_⟩
      exact hasInt (by omega) (by omega)
    · exact ⟨_, List.mem_singleton_self _, h⟩
  · exact ⟨_, List.mem_singleton_self _, h⟩
theorem splitsA_ok {a : AV} {v : Val} (h : a.has F p ρ v) : ∃ b ∈ splitsA a, b.has F p ρ v := by
  cases a with
  | sh s =>
    obtain ⟨d, rfl, h⟩ := h
    obtain ⟨t, h1, h2⟩ := alts_ok h
    obtain ⟨u, h3, h4⟩ := waysA_ok h2
    exact ⟨.sh u, List.mem_map_of_mem (List.mem_flatMap.mpr ⟨t, h1, h3⟩), d, rfl, h4⟩
  | dk => exact ⟨_, List.mem_singleton_self _, h⟩
  | pl j => exact ⟨_, List.mem_singleton_self _, h⟩
theorem joinM_all {k : Nat} : ∀ {l : List (Option (AF × Nat))} {r : AF × Nat}, joinM k l = some r → ∀ x ∈ l, ∃ a, x = some a ∧ a.2 ≤ r.2
  | [], r, h, x, hx => by cases hx
  | y :: l, r, h, x, hx => by
    unfold joinM at h
    split at h
    · have e : x = y := by simpa using hx
      subst e
      exact ⟨r, h, Nat.le_refl _⟩
    · obtain ⟨a, h1, h⟩ := ob h
      obtain ⟨b, h2, h⟩ := ob h
      obtain ⟨c, h3, rfl⟩ := om h
      rcases List.mem_cons.mp hx with rfl | hx
      · exact ⟨a, h1, Nat.le_max_left _ _⟩
      · obtain ⟨q, g1, g2⟩ := joinM_all h2 x hx
        exact ⟨q, g1, Nat.le_trans g2 (Nat.le_max_right _ _)⟩
theorem joinM_ok {k : Nat} {X : R Fl} (hk : ρ.length ≤ k) : ∀ {l : List (Option (AF × Nat))} {r a : AF × Nat}, joinM k l = some r → some a ∈ l → FP F p r0 ρ n X a.1 a.2 → FP F p r0 ρ n X r.1 r.2
  | [], r, a, h, hx, hF => by cases hx
  | y :: l, r, a, h, hx, hF => by
    unfold joinM at h
    split at h
    · have e : some a = y := by simpa using hx
      rw [← e] at h
      cases h
      exact hF
    · obtain ⟨a', h1, h⟩ := ob h
      obtain ⟨b, h2, h⟩ := ob h
      obtain ⟨c, h3, rfl⟩ := om h
      rcases List.mem_cons.mp hx with e | hx
      · rw [← e] at h1
        cases h1
        exact hF.jl h3 hk (Nat.le_max_left _ _)
      · exact (joinM_ok hk h2 hx hF).jr h3 hk (Nat.le_max_right _ _)
theorem leS_get {k : Nat} : ∀ {S T : ASl}, leS k S T = true → T.length ≤ S.length ∧ ∀ (i : Nat) (b : AV), T[i]? = some (some b) → ∃ a, S[i]? = some a ∧ leO k a (some b) = true
  | _, [], _ => ⟨by simp, fun j s h => by simp at h⟩
  | [], _ :: _, h => by cases h
  | x :: xs, y :: ys, h => by
    have h' : (leO k x y && leS k xs ys) = true := h
    rw [Bool.and_eq_true] at h'
    obtain ⟨h1, h2⟩ := leS_get h'.2
    refine ⟨by simp; omega, fun j s e => ?_⟩
    cases j with
    | zero =>
      have e : y = some s := by simpa using e
      subst e
      exact ⟨x, rfl, h'.1⟩
    | succ j => exact h2 j s (by simpa using e)
theorem StR.le {sp : ASl × APl} (h : StR F p r0 (some sp) s m n ρ) (e : leSt sp (S, P) = true) : MR F p r0 (ρ.take P.length) P m n ∧ SlR F p (ρ.take P.length) S s := by
  obtain ⟨S1, P1, h1, h2, h3⟩ := h
  cases h1
  unfold leSt at e
  rw [Bool.and_eq_true] at e
  refine ⟨h2.le e.2, ?_⟩
  obtain ⟨g1, g2⟩ := leS_get e.1
  refine ⟨Nat.le_trans g1 h3.len, fun i b hb => ?_⟩
  obtain ⟨a, g3, g4⟩ := g2 i b hb
  unfold leO at g4
  split at g4
  · rename_i hh; cases hh
  · rename_i x y hh
    cases hh
    obtain ⟨v, e1, d, rfl, e2⟩ := h3.at_ i _ g3
    exact ⟨_, e1, d, rfl, le_ok g4 e2⟩
  · rename_i hh
    cases hh
    obtain ⟨v, e1, e2⟩ := h3.at_ i _ g3
    exact ⟨_, e1, e2⟩
  · rename_i x y hh
    cases hh
    obtain ⟨v, e1, j, e2, e3⟩ := h3.at_ i _ g3
    have hc := of_decide_eq_true g4
    refine ⟨_, e1, j, ?_, e3⟩
    rw [List.getElem?_take, if_pos (by rw [← hc.1]; exact hc.2), ← hc.1]
    exact e2
  · cases g4
/-! loops -/
def BodyOk (F : Fam) (p : PT) (r0 : Mem) (ρ0 : List Nat) (f : AWv → ASl → APl → Option (AF × Nat)) (g : Wv → Slots → Mem → R Fl) : Prop :=
  ∀ w S P r, f w S P = some r → ∀ ρ' s m n v, Ext ρ0 ρ' → MR F p r0 ρ' P m n → SlR F p ρ' S s → w.has F p ρ' v → n + r.2 ≤ BIG → FP F p r0 ρ' n (g v s m) r.1 r.2
theorem aLoopF_ok {f : AWv → ASl → APl → Option (AF × Nat)} {g : Wv → Slots → Mem → R Fl} {fin : APl → Bool} {finC : Mem → Bool} {k0 : Nat} (hk : ρ0.length ≤ k0) (hf : BodyOk F p r0 ρ0 f g)
    (hfin : ∀ ρ' P m n, Ext ρ0 ρ' → MR F p r0 ρ' P m n → fin P = true → finC m = true) :
    ∀ {rs : List (APl → Option AWv)} {rsC : List (Mem → Option Wv)} {S : ASl} {P : APl} {r : AF × Nat} {ρ : List Nat} {s : Slots} {m : Mem} {n : Nat}, FixR F p r0 ρ0 rsC rs → aLoopF k0 f fin rs S P = some r → Ext ρ0 ρ → MR F p r0 ρ P m n → SlR F p ρ S s → n + r.2 ≤ BIG →
      FP F p r0 ρ0 n (forL g finC rsC s m) r.1 r.2
  | [], rsC, S, P, r, ρ, s, m, n, hw, h, he, hm, hs, hb => by
    cases rsC with
    | cons _ _ => exact hw.elim
    | nil =>
      unfold aLoopF at h
      split at h
      · rename_i hf'
        cases h
        unfold forL
        rw [hfin _ _ _ _ he hm hf']
        exact (FP.go (δ := 0) hm hs).mono he (Nat.le_refl _) (Nat.le_refl _)
      · cases h
  | a :: rs, rsC, S, P, r, ρ, s, m, n, hw, h, he, hm, hs, hb => by
    cases rsC with
    | nil => exact hw.elim
    | cons c rsC =>
      unfold aLoopF at h
      obtain ⟨w, h1, h⟩ := ob h
      obtain ⟨x, h2, h⟩ := ob h
      obtain ⟨nx, h3, h⟩ := ob h
      obtain ⟨hw1, hw2⟩ := hw
      obtain ⟨v, h4, h5⟩ := hw1 ρ P m n w he hm h1
      unfold forL
      rw [h4]
      dsimp only
      have hx2 : n + x.2 ≤ BIG := by
        cases nx with
        | none => cases h; exact hb
        | some sp =>
          obtain ⟨b, h6, h⟩ := ob h
          obtain ⟨c', h7, rfl⟩ := om h
          dsimp only at hb
          omega
      obtain ⟨fl, m1, ρ1, n1, e1, g1, g2, g3, g4⟩ := hf w S P x h2 ρ s m n v he hm hs h5 hx2
      rw [e1]
      have he1 := he.trans g1
      -- going on
      have on : ∀ s', (∃ ρ', Ext ρ0 ρ' ∧ StR F p r0 nx s' m1 n1 ρ') → FP F p r0 ρ0 n (forL g finC rsC s' m1) r.1 r.2 := by
        rintro s' ⟨ρ2, q1, S2, P2, q2, q3, q4⟩
        subst q2
        obtain ⟨b, h6, h⟩ := ob h
        obtain ⟨c', h7, rfl⟩ := om h
        dsimp only at hb ⊢
        have := aLoopF_ok hk hf hfin hw2 h6 q1 q3 q4 (by omega)
        exact (this.jr (δ' := b.2) h7 hk (Nat.le_refl _)).mono .refl (by omega) (by omega)
      have off : ∀ fl', x.1.out.has F p r0 fl' m1 n1 ρ1 → FP F p r0 ρ0 n (.ok fl' m1) r.1 r.2 := by
        intro fl' q
        have base : FP F p r0 ρ0 n (.ok fl' m1) x.1.out x.2 := ⟨fl', m1, ρ1, n1, rfl, he1, by omega, by omega, q⟩
        cases nx with
        | none => cases h; exact base
        | some sp =>
          obtain ⟨b, h6, h⟩ := ob h
          obtain ⟨c', h7, rfl⟩ := om h
          exact base.jl h7 hk (by dsimp only; omega)
      cases fl with
      | nx s' => exact on s' (jSt_l h3 g4 he1 hk)
      | ct s' => exact on s' (jSt_r h3 g4 he1 hk)
      | bk s' => exact off (.nx s') g4
      | rt v => exact off (.rt v) g4
theorem aLoopFix_ok {f : AWv → ASl → APl → Option (AF × Nat)} {g : Wv → Slots → Mem → R Fl} {finC : Mem → Bool} {k0 : Nat} (hk : ρ0.length ≤ k0) (hf : BodyOk F p r0 ρ0 f g) (hfin : ∀ m, finC m = true) {w : AWv} {x : AF × Nat} {sp : ASl × APl}
    (hx : f w S P = some x) (hn : jSt k0 x.1.nx x.1.ct = some (some sp)) (hle : leSt sp (S, P) = true) (hP : ρ0.length ≤ P.length) :
    ∀ {rsC : List (Mem → Option Wv)} {ρ : List Nat} {s : Slots} {m : Mem} {n : Nat}, (∀ r ∈ rsC, ∀ ρ' m, Ext ρ0 ρ' → ∃ v, r m = some v ∧ w.has F p ρ' v) → Ext ρ0 ρ → MR F p r0 ρ P m n → SlR F p ρ S s → n + rsC.length * x.2 ≤ BIG →
      ∃ fl m' ρ' n', forL g finC rsC s m = .ok fl m' ∧ Ext ρ0 ρ' ∧ n ≤ n' ∧ n' ≤ n + rsC.length * x.2 ∧ ((AF.go S P).has F p r0 fl m' n' ρ' ∨ x.1.out.has F p r0 fl m' n' ρ')
  | [], ρ, s, m, n, hw, he, hm, hs, hb => by
    unfold forL
    rw [hfin]
    exact ⟨.nx s, m, ρ, n, rfl, he, Nat.le_refl _, Nat.le_add_right _ _, .inl ⟨S, P, rfl, hm, hs⟩⟩
  | c :: rsC, ρ, s, m, n, hw, he, hm, hs, hb => by
    obtain ⟨v, h4, h5⟩ := hw c List.mem_cons_self ρ m he
    unfold forL
    rw [h4]
    rw [List.length_cons, Nat.add_mul, Nat.one_mul] at hb ⊢
    obtain ⟨fl, m1, ρ1, n1, e1, g1, g2, g3, g4⟩ := hf w S P x hx ρ s m n v he hm hs h5 (by omega)
    dsimp only
    rw [e1]
    have he1 := he.trans g1
    have on : ∀ s', (∃ ρ', Ext ρ0 ρ' ∧ StR F p r0 (some sp) s' m1 n1 ρ') → ∃ fl m' ρ' n', forL g finC rsC s' m1 = .ok fl m' ∧ Ext ρ0 ρ' ∧ n ≤ n' ∧ n' ≤ n + (rsC.length * x.2 + x.2) ∧ ((AF.go S P).has F p r0 fl m' n' ρ' ∨ x.1.out.has F p r0 fl m' n' ρ') := by
      rintro s' ⟨ρ2, q1, q2⟩
      obtain ⟨q3, q4⟩ := q2.le hle
      obtain ⟨fl, m3, ρ3, n3, f1, f2, f3, f4, f5⟩ := aLoopFix_ok hk hf hfin hx hn hle hP (rsC := rsC) (fun r hr => hw r (List.mem_cons_of_mem _ hr)) (q1.tk hP) q3 q4 (by omega)
      exact ⟨fl, m3, ρ3, n3, f1, f2, by omega, by omega, f5⟩
    cases fl with
    | nx s' => exact on s' (jSt_l hn g4 he1 hk)
    | ct s' => exact on s' (jSt_r hn g4 he1 hk)
    | bk s' => exact ⟨.nx s', m1, ρ1, n1, rfl, he1, by omega, by omega, .inr g4⟩
    | rt v => exact ⟨.rt v, m1, ρ1, n1, rfl, he1, by omega, by omega, .inr g4⟩
theorem aLoopH_ok {f : AWv → ASl → APl → Option (AF × Nat)} {g : Wv → Slots → Mem → R Fl} {finC : Mem → Bool} {k0 : Nat} (hk : ρ0.length ≤ k0) (hf : BodyOk F p r0 ρ0 f g) (hfin : ∀ m, finC m = true) {w : AWv} :
    ∀ {h l : Nat} {rsC : List (Mem → Option Wv)} {S : ASl} {P : APl} {r : AF × Nat} {ρ : List Nat} {s : Slots} {m : Mem} {n : Nat}, (∀ r ∈ rsC, ∀ ρ' m, Ext ρ0 ρ' → ∃ v, r m = some v ∧ w.has F p ρ' v) → l ≤ rsC.length → rsC.length ≤ h → aLoopH k0 f w h l S P = some r → Ext ρ0 ρ → MR F p r0 ρ P m n → SlR F p ρ S s → n + r.2 ≤ BIG →
      FP F p r0 ρ0 n (forL g finC rsC s m) r.1 r.2
  | 0, l, rsC, S, P, r, ρ, s, m, n, hw, hl, hh, h, he, hm, hs, hb => by
    have : rsC = [] := List.length_eq_zero_iff.mp (by omega)
    subst this
    unfold aLoopH at h
    cases h
    unfold forL
    rw [hfin]
    exact (FP.go (δ := 0) hm hs).mono he (Nat.le_refl _) (Nat.le_refl _)
  | hh + 1, l, rsC, S, P, r, ρ, s, m, n, hw, hl, hlen, h, he, hm, hs, hb => by
    unfold aLoopH at h
    obtain ⟨x, h2, h⟩ := ob h
    obtain ⟨nx, h3, h⟩ := ob h
    have hP : ρ0.length ≤ P.length := by
      rw [← hm.len]
      obtain ⟨t, rfl⟩ := he
      simp
    cases nx with
    | some sp =>
      dsimp only at h
      split at h
      · rename_i hle
        obtain ⟨c, h4, rfl⟩ := om h
        dsimp only at hb ⊢
        have hmul : rsC.length * x.2 ≤ (hh + 1) * x.2 := Nat.mul_le_mul_right _ hlen
        obtain ⟨fl, m3, ρ3, n3, f1, f2, f3, f4, f5⟩ := aLoopFix_ok hk hf hfin h2 h3 hle hP hw he hm hs (by omega)
        rcases f5 with f5 | f5
        · obtain ⟨ρ4, q1, q2⟩ := jF_l h4 f5 f2 hk
          exact ⟨fl, m3, ρ4, n3, f1, q1, f3, by omega, q2⟩
        · obtain ⟨ρ4, q1, q2⟩ := jF_r h4 f5 f2 hk
          exact ⟨fl, m3, ρ4, n3, f1, q1, f3, by omega, q2⟩
      · obtain ⟨b, h4, h⟩ := ob h
        obtain ⟨c, h5, h⟩ := ob h
        obtain ⟨d, h6, rfl⟩ := om h
        dsimp only at hb ⊢
        cases rsC with
        | nil =>
          unfold forL
          rw [hfin]
          have : l = 0 := by simpa using hl
          subst this
          have base : FP F p r0 ρ0 n (.ok (.nx s) m) (AF.may 0 S P) 0 := ⟨.nx s, m, ρ, n, rfl, he, Nat.le_refl _, Nat.le_refl _, S, P, rfl, hm, hs⟩
          exact base.jl h6 hk (by omega)
        | cons c0 rsC =>
          obtain ⟨v, h7, h8⟩ := hw c0 List.mem_cons_self ρ m he
          unfold forL
          rw [h7]
          rw [List.length_cons] at hl hlen
          obtain ⟨fl, m1, ρ1, n1, e1, g1, g2, g3, g4⟩ := hf w S P x h2 ρ s m n v he hm hs h8 (by omega)
          dsimp only
          rw [e1]
          have he1 := he.trans g1
          have on : ∀ s', (∃ ρ', Ext ρ0 ρ' ∧ StR F p r0 (some sp) s' m1 n1 ρ') → FP F p r0 ρ0 n (forL g finC rsC s' m1) d (x.2 + b.2) := by
            rintro s' ⟨ρ2, q1, S2, P2, q2, q3, q4⟩
            cases q2
            have := aLoopH_ok hk hf hfin (rsC := rsC) (l := l - 1) (fun r hr => hw r (List.mem_cons_of_mem _ hr)) (by omega) (by omega) h4 q1 q3 q4 (by omega)
            exact ((this.jr (δ' := b.2) h5 hk (Nat.le_refl _)).jr (δ' := b.2) h6 hk (Nat.le_refl _)).mono .refl (by omega) (by omega)
          have off : ∀ fl', x.1.out.has F p r0 fl' m1 n1 ρ1 → FP F p r0 ρ0 n (.ok fl' m1) d (x.2 + b.2) := by
            intro fl' q
            have base : FP F p r0 ρ0 n (.ok fl' m1) x.1.out x.2 := ⟨fl', m1, ρ1, n1, rfl, he1, by omega, by omega, q⟩
            exact (base.jl (δ' := x.2) h5 hk (Nat.le_refl _)).jr h6 hk (by omega)
          cases fl with
          | nx s' => exact on s' (jSt_l h3 g4 he1 hk)
          | ct s' => exact on s' (jSt_r h3 g4 he1 hk)
          | bk s' => exact off (.nx s') g4
          | rt v => exact off (.rt v) g4
    | none =>
      obtain ⟨c, h4, rfl⟩ := om h
      dsimp only at hb ⊢
      cases rsC with
      | nil =>
        unfold forL
        rw [hfin]
        have : l = 0 := by simpa using hl
        subst this
        have base : FP F p r0 ρ0 n (.ok (.nx s) m) (AF.may 0 S P) 0 := ⟨.nx s, m, ρ, n, rfl, he, Nat.le_refl _, Nat.le_refl _, S, P, rfl, hm, hs⟩
        exact base.jl h4 hk (by omega)
      | cons c0 rsC =>
        obtain ⟨v, h7, h8⟩ := hw c0 List.mem_cons_self ρ m he
        unfold forL
        rw [h7]
        obtain ⟨fl, m1, ρ1, n1, e1, g1, g2, g3, g4⟩ := hf w S P x h2 ρ s m n v he hm hs h8 (by omega)
        dsimp only
        rw [e1]
        have he1 := he.trans g1
        have off : ∀ fl', x.1.out.has F p r0 fl' m1 n1 ρ1 → FP F p r0 ρ0 n (.ok fl' m1) c x.2 := by
          intro fl' q
          have base : FP F p r0 ρ0 n (.ok fl' m1) x.1.out x.2 := ⟨fl', m1, ρ1, n1, rfl, he1, by omega, by omega, q⟩
          exact base.jr h4 hk (Nat.le_refl _)
        cases fl with
        | nx s' => obtain ⟨_, _, S2, P2, q, _⟩ := jSt_l h3 g4 he1 hk; cases q
        | ct s' => obtain ⟨_, _, S2, P2, q, _⟩ := jSt_r h3 g4 he1 hk; cases q
        | bk s' => exact off (.nx s') g4
        | rt v => exact off (.rt v) g4
theorem aLoop_ok {f : AWv → ASl → APl → Option (AF × Nat)} {g : Wv → Slots → Mem → R Fl} {k : AWk} {wk : Wk} {r : AF × Nat} (hf : BodyOk F p r0 ρ f g) (h : aLoop P.length f S P k = some r) (hw : k.has F p r0 ρ wk) (hm : MR F p r0 ρ P m n) (hs : SlR F p ρ S s) (hb : n + r.2 ≤ BIG) :
    FP F p r0 ρ n (forL g wk.fin wk.rs s m) r.1 r.2 := by
  have hk : ρ.length ≤ P.length := by rw [hm.len]; exact Nat.le_refl _
  cases k with
  | fix rs fin => exact aLoopF_ok hk hf hw.2 hw.1 h .refl hm hs hb
  | hom lo hi w =>
    obtain ⟨w1, w2, w3, w4⟩ := hw
    dsimp only [aLoop] at h
    split at h
    · exact aLoopH_ok hk hf w4 w3 w1 w2 h .refl hm hs hb
    · cases h
end
end Rf

namespace Rf
section
variable {F : Fam} {p : PT} {r0 : Mem} {ρ ρ' ρ0 : List Nat} {P P' Q : APl} {m m' : Mem} {n n1 : Nat} {z : Bool} {C : Cal} {A : ACal} {S : ASl} {s : Slots}
theorem joinAll_mem {ss : List Sh} {s : Sh} {d : D} (h : s ∈ ss) (g : s.has p d) : (Sh.joinAll ss).has p d := joinAll_ok ⟨s, h, g⟩
theorem hasL_set : ∀ {ss : List Sh} {ds : List D} {i : Nat} {s : Sh} {d : D}, Sh.hasL p ss ds → s.has p d → Sh.hasL p (ss.set i s) (ds.set i d)
  | [], ds, i, s, d, h, g => by unfold Sh.hasL at h; subst h; show Sh.hasL p [] []; unfold Sh.hasL; rfl
  | t :: ss, ds, i, s, d, h, g => by
    unfold Sh.hasL at h
    obtain ⟨x, r, rfl, h1, h2⟩ := h
    cases i with
    | zero =>
      show Sh.hasL p (s :: ss) (d :: r)
      unfold Sh.hasL
      exact ⟨d, r, rfl, g, h2⟩
    | succ i =>
      show Sh.hasL p (t :: ss.set i s) (x :: r.set i d)
      unfold Sh.hasL
      exact ⟨x, _, rfl, h1, hasL_set h2 g⟩
theorem put_ok {q : Sq} {ds : List D} {a b i : Int} {s : Sh} {d : D} {j : Nat} (h : q.has p ds) (g : s.has p d) (h1 : a ≤ i) (h2 : i ≤ b) (hj : ixOf ds.length i = some j) : (q.put a b s).has p (ds.set j d) := by
  have mem : ∀ {t : Sh}, (∀ x ∈ ds, t.has p x) → ∀ x ∈ ds.set j d, (t.J s).has p x := by
    intro t ht x hx
    rcases List.mem_or_eq_of_mem_set hx with hx | rfl
    · exact J_l (ht x hx)
    · exact J_r g
  cases q with
  | fix ss =>
    have hl := hasL_len h
    unfold Sq.put
    dsimp only
    split
    · rename_i hc
      have : i = a := by omega
      subst this
      unfold ixOf at hj
      rw [if_pos hc.2] at hj
      split at hj
      · cases hj
        exact hasL_set h g
      · cases hj
    · exact ⟨by rw [List.length_set]; omega, by rw [List.length_set]; omega, mem fun x hx => joinAll_ok (hasL_mem h x hx)⟩
  | hom lo hi t => exact ⟨by rw [List.length_set]; exact h.1, by rw [List.length_set]; exact h.2.1, mem h.2.2⟩
theorem aPar_ok : ∀ {is : List Nat} {as : List AV} {vs : List Val} {S S' : ASl} {s : Slots}, aPar is as S = some S' → hasVs F p ρ as vs → SlR F p ρ S s → ∃ s', parS is vs s = some s' ∧ SlR F p ρ S' s'
  | [], [], vs, S, S', s, h, g, hs => by
    cases h
    have g : vs = [] := g
    subst g
    exact ⟨s, rfl, hs⟩
  | [], _ :: _, vs, S, S', s, h, g, hs => by cases h
  | _ :: _, [], vs, S, S', s, h, g, hs => by cases h
  | i :: is, a :: as, vs, S, S', s, h, ⟨v, r, e, g1, g2⟩, hs => by
    subst e
    exact aPar_ok (is := is) (as := as) h g2 (hs.set i g1)
theorem aAug_ok {o : Bop} {a b : AV} {t : Sh} {x y : Val} {i : Nat} (h : aAug o a b = some t) (g1 : a.has F p ρ x) (g2 : b.has F p ρ y) : ∃ d, augV o i s x y m = .ok (.nx (s.set i (some (.d d)))) m ∧ t.has p d := by
  unfold aAug at h
  split at h
  · obtain ⟨x, rfl, g1⟩ := g1
    obtain ⟨y, rfl, g2⟩ := g2
    split at h
    · rename_i hc
      obtain ⟨d, e1, e2⟩ := binS_ok (z := true) (m := m) h g1 g2
      refine ⟨d, ?_, e2⟩
      rw [Bool.or_eq_true, Bool.and_eq_true, Bool.and_eq_true] at hc
      rcases hc with ⟨h1, h2⟩ | ⟨h1, h2⟩
      · obtain ⟨⟨_, _⟩, h1⟩ := Option.isSome_iff_exists.mp h1
        obtain ⟨⟨_, _⟩, h2⟩ := Option.isSome_iff_exists.mp h2
        obtain ⟨i', rfl, _⟩ := asInt_ok h1 g1
        obtain ⟨j', rfl, _⟩ := asInt_ok h2 g2
        rw [au_i, e1]
        rfl
      · obtain ⟨⟨_, _, _⟩, h1⟩ := Option.isSome_iff_exists.mp h1
        obtain ⟨⟨_, _, _⟩, h2⟩ := Option.isSome_iff_exists.mp h2
        obtain ⟨i', rfl, _⟩ := asStr_ok h1 g1
        obtain ⟨j', rfl, _⟩ := asStr_ok h2 g2
        rw [au_s, e1]
        rfl
    · cases h
  · cases h
mutual
theorem aS_ok (hC : CalOk F p C A) : ∀ (x : St) {r0 : Mem} {S : ASl} {P : APl} {r : AF × Nat} {ρ : List Nat} {s : Slots} {m : Mem} {n : Nat}, aS A x S P = some r → MR F p r0 ρ P m n → SlR F p ρ S s → n + r.2 ≤ BIG → FP F p r0 ρ n (exS C x s m) r.1 r.2
  | .asg t e, r0, S, P, r, ρ, s, m, n, h, hm, hs, hb => by
    unfold aS at h
    obtain ⟨x, h1, h⟩ := ob h
    obtain ⟨S', h2, rfl⟩ := om h
    rw [x_asg]
    refine (FP.po (δ2 := 0) (aE_ok hC e h1 hm hs hb) fun v m1 ρ1 n1 ev hm1 he1 hv g1 g2 => ?_).mono .refl (Nat.le_refl _) (by simp)
    obtain ⟨s', e1, e2⟩ := aAsg_ok hm1 t h2 hv (hs.mono he1)
    rw [e1, r_opt, r_ok]
    exact .go hm1 e2
  | .set o i e, r0, S, P, r, ρ, s, m, n, h, hm, hs, hb => by
    unfold aS at h
    obtain ⟨x, h1, h⟩ := ob h
    obtain ⟨y, h2, h⟩ := ob h
    obtain ⟨w, h3, h⟩ := ob h
    split at h
    · rename_i sx j t ex ey ew
      obtain ⟨⟨a, b⟩, h4, h⟩ := ob h
      obtain ⟨q, h5, h⟩ := ob h
      split at h
      · cases h
      · rename_i sq hq
        cases h
        dsimp only at hb hq ⊢
        rw [x_set]
        refine FP.po (δ2 := y.2.2 + w.2.2) (aE_ok hC e h1 hm hs (by omega)) fun v1 m1 ρ1 n1 ev1 hm1 he1 hv1 g1 g2 =>
          FP.po (aE_ok hC o h2 hm1 (hs.mono he1) (by omega)) fun v2 m2 ρ2 n2 ev2 hm2 he2 hv2 g3 g4 =>
          (FP.po (δ2 := 0) (aE_ok hC i h3 hm2 ((hs.mono he1).mono he2) (by omega)) fun v3 m3 ρ3 n3 ev3 hm3 he3 hv3 g5 g6 => ?_).mono .refl (Nat.le_refl _) (by omega)
        rw [ex] at hv1
        rw [ey] at hv2
        rw [ew] at hv3
        obtain ⟨d, rfl, hd⟩ := hv1
        obtain ⟨k, rfl, hk⟩ := hv3
        obtain ⟨k, rfl, k1, k2⟩ := asInt_ok h4 hk
        obtain ⟨l, ds, f1, f2, f3, f4⟩ := pl_get h5 hm3 (hv2.mono he3)
        subst f2
        obtain ⟨u, f5, f6⟩ := Sq.at_ok f4 hq k1 k2
        obtain ⟨jj, f7⟩ : ∃ jj, ixOf ds.length k = some jj := by
          unfold atL at f5
          cases hix : ixOf ds.length k with
          | none => rw [hix] at f5; cases f5
          | some jj => exact ⟨jj, rfl⟩
        have hset : setV (.r l) k (.d d) m3 = .ok () (m3.set l (.lst ((ds.set jj d).map .d))) := by
          rw [s_r f3, List.length_map, f7, r_opt, r_ok, List.map_set]
        dsimp only
        rw [hset, r_ok]
        exact .go (hm3.set f1 (put_ok f4 hd k1 k2 f7)) (((hs.mono he1).mono he2).mono he3)
    · cases h
  | .aug i o e, r0, S, P, r, ρ, s, m, n, h, hm, hs, hb => by
    unfold aS at h
    split at h
    · rename_i a ea
      obtain ⟨y, h1, h⟩ := ob h
      obtain ⟨t, h2, rfl⟩ := om h
      obtain ⟨v, e1, g⟩ := hs.at_ i a ea
      rw [x_aug, e1, gv, r_ok]
      refine (FP.po (δ2 := 0) (aE_ok hC e h1 hm hs hb) fun v2 m1 ρ1 n1 ev hm1 he1 hv g1 g2 => ?_).mono .refl (Nat.le_refl _) (by simp)
      obtain ⟨d, e2, e3⟩ := aAug_ok (s := s) (m := m1) (i := i) h2 (g.mono he1) hv
      rw [e2]
      exact .go hm1 ((hs.mono he1).set i (a := .sh t) (v := .d d) ⟨d, rfl, e3⟩)
    · cases h
  | .ex e, r0, S, P, r, ρ, s, m, n, h, hm, hs, hb => by
    unfold aS at h
    obtain ⟨x, h1, rfl⟩ := om h
    rw [x_ex]
    exact (FP.po (δ2 := 0) (aE_ok hC e h1 hm hs hb) fun v2 m1 ρ1 n1 ev hm1 he1 hv g1 g2 => .go hm1 (hs.mono he1)).mono .refl (Nat.le_refl _) (by simp)
  | .ret e, r0, S, P, r, ρ, s, m, n, h, hm, hs, hb => by
    unfold aS at h
    obtain ⟨x, h1, rfl⟩ := om h
    rw [x_ret]
    refine (FP.po (δ2 := 0) (aE_ok hC e h1 hm hs hb) fun v2 m1 ρ1 n1 ev hm1 he1 hv g1 g2 => ?_).mono .refl (Nat.le_refl _) (by simp)
    exact ⟨.rt v2, m1, ρ1, n1, rfl, .refl, Nat.le_refl _, Nat.le_refl _, some x.1, x.2.1, rfl, hm1, fun a e => by cases e; exact hv⟩
  | .iff c a b, r0, S, P, r, ρ, s, m, n, h, hm, hs, hb => by
    unfold aS at h
    obtain ⟨x, h1, h⟩ := ob h
    obtain ⟨t, h2, h⟩ := ob h
    rw [x_iff]
    split at h
    · rename_i hq
      obtain ⟨y, h3, rfl⟩ := om h
      dsimp only at hb ⊢
      refine FP.po (aE_ok hC c h1 hm hs (by omega)) fun v1 m1 ρ1 n1 ev hm1 he1 hv1 g1 g2 => ?_
      obtain ⟨k, e1, e2⟩ := aTr_ok h2 hm1 hv1
      have hp := pick (r0 := r0) (q := (true, false)) hq.symm ev e1 e2 (hs.mono he1)
      rw [e1]
      cases k with
      | true => exact aSs_ok hC a h3 hm1 (ref_ok c true ev e1 (hs.mono he1)) (by omega)
      | false => cases hp
    · rename_i hq
      obtain ⟨y, h3, rfl⟩ := om h
      dsimp only at hb ⊢
      refine FP.po (aE_ok hC c h1 hm hs (by omega)) fun v1 m1 ρ1 n1 ev hm1 he1 hv1 g1 g2 => ?_
      obtain ⟨k, e1, e2⟩ := aTr_ok h2 hm1 hv1
      have hp := pick (r0 := r0) (q := (false, true)) hq.symm ev e1 e2 (hs.mono he1)
      rw [e1]
      cases k with
      | false => exact aSs_ok hC b h3 hm1 (ref_ok c false ev e1 (hs.mono he1)) (by omega)
      | true => cases hp
    · cases h
    · obtain ⟨y, h3, h⟩ := ob h
      obtain ⟨w, h4, h⟩ := ob h
      obtain ⟨cc, h5, rfl⟩ := om h
      dsimp only at hb ⊢
      refine FP.po (aE_ok hC c h1 hm hs (by omega)) fun v1 m1 ρ1 n1 ev hm1 he1 hv1 g1 g2 => ?_
      obtain ⟨k, e1, e2⟩ := aTr_ok h2 hm1 hv1
      have hk : ρ1.length ≤ x.2.1.length := by rw [hm1.len]; exact Nat.le_refl _
      rw [e1]
      cases k with
      | true => exact (aSs_ok hC a h3 hm1 (ref_ok c true ev e1 (hs.mono he1)) (by omega)).jl h5 hk (by omega)
      | false => exact (aSs_ok hC b h4 hm1 (ref_ok c false ev e1 (hs.mono he1)) (by omega)).jr h5 hk (by omega)
  | .forr t it b, r0, S, P, r, ρ, s, m, n, h, hm, hs, hb => by
    unfold aS at h
    obtain ⟨k, h1, h⟩ := ob h
    obtain ⟨w, h2, rfl⟩ := om h
    rw [x_forr]
    dsimp only at hb ⊢
    refine FP.po (aIt_ok hC it h1 hm hs (by omega)) fun wk m1 ρ1 n1 ev hm1 he1 hv g1 g2 => aLoop_ok ?_ h2 hv hm1 (hs.mono he1) (by omega)
    intro wv St Pt rt ht ρ' st mt nt v he' hmt hst hwv hbt
    obtain ⟨S', e1, e2⟩ := ob ht
    obtain ⟨s', e4, hs'⟩ := aAsgW_ok hmt e1 hwv hst
    unfold lturn
    rw [e4, r_opt, r_ok]
    exact aSs_ok hC b e2 hmt hs' hbt
  | .whil c b, r0, S, P, r, ρ, s, m, n, h, hm, hs, hb => by unfold aS at h; cases h
  | .par is es, r0, S, P, r, ρ, s, m, n, h, hm, hs, hb => by
    unfold aS at h
    obtain ⟨x, h1, h⟩ := ob h
    obtain ⟨S', h2, rfl⟩ := om h
    rw [x_par]
    refine (FP.po (δ2 := 0) (aEs_ok hC es h1 hm hs hb) fun v m1 ρ1 n1 ev hm1 he1 hv g1 g2 => ?_).mono .refl (Nat.le_refl _) (by simp)
    obtain ⟨s', e1, e2⟩ := aPar_ok h2 hv (hs.mono he1)
    rw [e1, r_opt, r_ok]
    exact .go hm1 e2
  | .pass, r0, S, P, r, ρ, s, m, n, h, hm, hs, hb => by
    unfold aS at h
    cases h
    rw [x_pass]
    exact .go hm hs
  | .brk, r0, S, P, r, ρ, s, m, n, h, hm, hs, hb => by
    unfold aS at h
    cases h
    rw [x_brk]
    exact ⟨.bk s, m, ρ, n, rfl, .refl, Nat.le_refl _, Nat.le_refl _, S, P, rfl, hm, hs⟩
  | .cnt, r0, S, P, r, ρ, s, m, n, h, hm, hs, hb => by
    unfold aS at h
    cases h
    rw [x_cnt]
    exact ⟨.ct s, m, ρ, n, rfl, .refl, Nat.le_refl _, Nat.le_refl _, S, P, rfl, hm, hs⟩
theorem aSs_ok (hC : CalOk F p C A) : ∀ (x : Sts) {r0 : Mem} {S : ASl} {P : APl} {r : AF × Nat} {ρ : List Nat} {s : Slots} {m : Mem} {n : Nat}, aSs A x S P = some r → MR F p r0 ρ P m n → SlR F p ρ S s → n + r.2 ≤ BIG → FP F p r0 ρ n (exSs C x s m) r.1 r.2
  | .nil, r0, S, P, r, ρ, s, m, n, h, hm, hs, hb => by
    unfold aSs at h
    cases h
    rw [xs_nil]
    exact .go hm hs
  | .cons x xs, r0, S, P, r, ρ, s, m, n, h, hm, hs, hb => by
    unfold aSs at h
    rw [xs_cons]
    have hk : ρ.length ≤ P.length := by rw [hm.len]; exact Nat.le_refl _
    split at h
    · rename_i te hte
      obtain ⟨v, h1, h⟩ := ob h
      obtain ⟨w, h2, rfl⟩ := om h
      dsimp only at hb ⊢
      obtain ⟨t, e, rfl, rfl⟩ : ∃ t e, x = .asg t e ∧ te = (t, e) := by
        unfold spl at hte
        split at hte
        · split at hte
          · cases hte; exact ⟨_, _, rfl, rfl⟩
          · cases hte
        · cases hte
      dsimp only at h1 h2
      obtain ⟨v1, m1, ρ1, n1, ev, hm1, he1, hv, g1, g2⟩ := aE_ok hC e h1 hm hs (by omega)
      obtain ⟨b, hb1, hb2⟩ := splitsA_ok hv
      obtain ⟨a, ha, hab⟩ := joinM_all h2 _ (List.mem_map_of_mem hb1)
      obtain ⟨S', h3, h4⟩ := ob ha
      obtain ⟨s', h5, h6⟩ := aAsg_ok hm1 t h3 hb2 (hs.mono he1)
      have hF := aSs_ok hC xs h4 hm1 h6 (by omega)
      have hJ := joinM_ok (by rw [hm1.len]; exact Nat.le_refl _) h2 (by rw [← ha]; exact List.mem_map_of_mem hb1) hF
      have e0 : exS C (.asg t e) s m = .ok (.nx s') m1 := by rw [x_asg, ev, r_ok, h5, r_opt, r_ok]
      rw [e0, r_ok, nxt_nx]
      exact hJ.mono he1 g1 (by omega)
    rename_i hte
    obtain ⟨y, h1, h⟩ := ob h
    cases hn : y.1.nx with
    | none =>
      rw [hn] at h
      cases h
      obtain ⟨fl, m1, ρ1, n1, e1, g1, g2, g3, g4⟩ := aS_ok hC x h1 hm hs hb
      rw [e1, r_ok]
      refine ⟨fl, m1, ρ1, n1, ?_, g1, g2, g3, g4⟩
      cases fl with
      | nx s' =>
        obtain ⟨S2, P2, q, _⟩ := g4
        rw [hn] at q
        cases q
      | rt v => rfl
      | bk s' => rfl
      | ct s' => rfl
    | some sp =>
      rw [hn] at h
      obtain ⟨q, h2, h⟩ := ob h
      obtain ⟨c, h3, rfl⟩ := om h
      dsimp only at hb ⊢
      obtain ⟨fl, m1, ρ1, n1, e1, g1, g2, g3, g4⟩ := aS_ok hC x h1 hm hs (by omega)
      rw [e1, r_ok]
      have off : ∀ fl', (AF.mk none y.1.rt y.1.bk y.1.ct).has F p r0 fl' m1 n1 ρ1 → FP F p r0 ρ n (.ok fl' m1) c (y.2 + q.2) := by
        intro fl' hq
        have base : FP F p r0 ρ n (.ok fl' m1) (AF.mk none y.1.rt y.1.bk y.1.ct) y.2 := ⟨fl', m1, ρ1, n1, rfl, g1, g2, g3, hq⟩
        exact base.jl h3 hk (by omega)
      cases fl with
      | nx s' =>
        obtain ⟨S2, P2, q1, q2, q3⟩ := g4
        rw [hn] at q1
        cases q1
        rw [nxt_nx]
        have := aSs_ok hC xs h2 q2 q3 (by omega)
        exact (this.mono (δ' := y.2 + q.2) g1 g2 (by omega)).jr h3 hk (Nat.le_refl _)
      | rt v => exact off (.rt v) g4
      | bk s' => exact off (.bk s') g4
      | ct s' => exact off (.ct s') g4
end
end
/-! ### calls -/
abbrev ATab := Nat → Nat → List AV → APl → Option (AV × APl × Nat)
def noTab : ATab := fun _ _ _ _ => none
/-- the ways of what is handed in -/
def waysL (A : ACal) : Nat → List AV → List (List AV)
  | _, [] => [[]]
  | i, a :: as => if A.sp i then (splitsA a).flatMap fun b => (waysL A (i + 1) as).map (b :: ·) else (waysL A (i + 1) as).map (a :: ·)
def aRun (A : ACal) (fn : Fn) (as : List AV) (P : APl) : Option (AV × APl × Nat) := match decide (as.length = fn.np) with
  | true => (joinM P.length ((waysL A 0 as).map fun as => aSs A fn.body (as.map some ++ List.replicate (fn.n - fn.np) none) P)).bind fun r => match r.1.bk, r.1.ct with
    | none, none => (jRt P.length (r.1.nx.map fun sp => (some (.sh (.con .non)), sp.2)) r.1.rt).bind fun t => match t with
      | some (some a, P') => some (a, P', r.2)
      | _ => none
    | _, _ => none
  | false => none
def trimR (k : Nat) (r : AV × APl × Nat) : AV × APl × Nat := match r.1 with
  | .pl j => if j < k then (r.1, r.2.1.take k, r.2.2) else r
  | _ => (r.1, r.2.1.take k, r.2.2)
def frozA (a : AV) (P : APl) : Option Sh := match a with
  | .sh s => some s
  | .pl j => (asL (.pl j) P).map Sq.lst
  | .dk => none
def aCallN (Pg : Prog) (H : Nat → Nat → Bool) (V U : ATab) : Nat → Nat → List AV → APl → Option (AV × APl × Nat)
  | 0, _, _, _ => none
  | k + 1, f, as, P => match U k f as P with
    | some r => some r
    | none => match Pg.fn f with
      | none => none
      | some fn => match fn.pure with
        | false => (aRun ⟨aCallN Pg H V U k, Pg.glo, H f⟩ fn as P).map (trimR P.length)
        | true => (shs as).bind fun _ => (aRun ⟨aCallN Pg H V V k, Pg.glo, H f⟩ fn as []).bind fun r => if r.2.2 ≤ BIG then (frozA r.1 r.2.1).map fun s => (.sh s, P, 0) else none
def F0 : Fam := ⟨Unit, fun _ _ => [], 0, fun _ _ => rfl, 0⟩
def TabOk (F : Fam) (p : PT) (Pg : Prog) (U : ATab) : Prop :=
  ∀ r0 k f as P r ρ m n vs, U k f as P = some r → MR F p r0 ρ P m n → n + r.2.2 ≤ BIG → hasVs F p ρ as vs → Po F p r0 ρ n (callN Pg (k + 1) f vs m) r.2.1 r.2.2 (fun ρ' v => r.1.has F p ρ' v)
theorem noTab_ok {F : Fam} {p : PT} {Pg : Prog} : TabOk F p Pg noTab := fun _ _ _ _ _ _ _ _ _ _ h => by cases h
section
variable {F : Fam} {p : PT} {r0 : Mem} {ρ ρ' ρ0 : List Nat} {P P' Q : APl} {m m' : Mem} {n n1 : Nat} {z : Bool} {C : Cal} {A : ACal} {S : ASl} {s : Slots}
theorem hasVs_len : ∀ {as : List AV} {vs : List Val}, hasVs F p ρ as vs → vs.length = as.length
  | [], vs, h => by have h : vs = [] := h; rw [h]; rfl
  | a :: as, vs, ⟨v, r, e, _, h⟩ => by rw [e, List.length_cons, List.length_cons, hasVs_len h]
theorem hasVs_get : ∀ {as : List AV} {vs : List Val} {i : Nat} {a : AV}, hasVs F p ρ as vs → as[i]? = some a → ∃ v, vs[i]? = some v ∧ a.has F p ρ v
  | [], vs, i, a, h, e => by simp at e
  | b :: as, vs, 0, a, ⟨v, r, e, h1, _⟩, h => by subst e; cases h; exact ⟨v, rfl, h1⟩
  | b :: as, vs, i + 1, a, ⟨v, r, e, _, h2⟩, h => by subst e; exact hasVs_get (i := i) h2 (by simpa using h)
theorem slots_ok {as : List AV} {vs : List Val} (h : hasVs F p ρ as vs) (k : Nat) : SlR F p ρ (as.map some ++ List.replicate k none) (vs.map some ++ List.replicate k none) := by
  have hl := hasVs_len h
  refine ⟨by simp [hl], fun i a e => ?_⟩
  by_cases hi : i < as.length
  · rw [List.getElem?_append_left (by rw [List.length_map]; exact hi), List.getElem?_map] at e
    obtain ⟨b, e1, e2⟩ := Option.map_eq_some_iff.mp e
    cases e2
    obtain ⟨v, g1, g2⟩ := hasVs_get h e1
    refine ⟨v, ?_, g2⟩
    rw [List.getElem?_append_left (by rw [List.length_map, hl]; exact hi), List.getElem?_map, g1]
    rfl
  · rw [List.getElem?_append_right (by rw [List.length_map]; omega)] at e
    have := List.mem_of_getElem? e
    have := (List.mem_replicate.mp this).2
    cases this
theorem waysL_ok : ∀ {as : List AV} {vs : List Val} (i : Nat), hasVs F p ρ as vs → ∃ bs ∈ waysL A i as, hasVs F p ρ bs vs
  | [], vs, i, h => ⟨[], List.mem_singleton_self _, h⟩
  | a :: as, vs, i, ⟨v, r, e, h1, h2⟩ => by
    obtain ⟨bs, g1, g2⟩ := waysL_ok (i + 1) h2
    unfold waysL
    split
    · obtain ⟨b, f1, f2⟩ := splitsA_ok h1
      exact ⟨b :: bs, List.mem_flatMap.mpr ⟨b, f1, List.mem_map_of_mem g1⟩, v, r, e, f2, g2⟩
    · exact ⟨a :: bs, List.mem_map_of_mem g1, v, r, e, h1, g2⟩
theorem aRun_ok (hC : CalOk F p C A) {fn : Fn} {as : List AV} {vs : List Val} {r : AV × APl × Nat} (h : aRun A fn as P = some r) (hm : MR F p r0 ρ P m n) (g : hasVs F p ρ as vs) (hb : n + r.2.2 ≤ BIG) : Po F p r0 ρ n (runB C fn vs m) r.2.1 r.2.2 (fun ρ' v => r.1.has F p ρ' v) := by
  unfold aRun at h
  split at h
  · rename_i hl
    have hl := of_decide_eq_true hl
    obtain ⟨x, h1, h⟩ := ob h
    split at h
    · rename_i hbk hct
      obtain ⟨t, h2, h⟩ := ob h
      split at h
      · rename_i a P'
        cases h
        dsimp only at hb ⊢
        have hk : ρ.length ≤ P.length := by rw [hm.len]; exact Nat.le_refl _
        rw [runB_eq (by rw [hasVs_len g]; exact hl)]
        obtain ⟨bs, w1, w2⟩ := waysL_ok (A := A) 0 g
        obtain ⟨y, w3, w4⟩ := joinM_all h1 _ (List.mem_map_of_mem w1)
        obtain ⟨fl, m1, ρ1, n1, e1, g1, g2, g3, g4⟩ := joinM_ok hk h1 (by rw [← w3]; exact List.mem_map_of_mem w1) (aSs_ok hC fn.body w3 hm (slots_ok w2 _) (by omega))
        rw [e1, r_ok]
        cases fl with
        | nx s' =>
          obtain ⟨S2, P2, q1, q2, q3⟩ := g4
          have : RtR F p r0 (x.1.nx.map fun sp => (some (.sh (.con .non)), sp.2)) (.d .non) m1 n1 ρ1 := ⟨_, P2, by rw [q1]; rfl, q2, fun a e => by cases e; exact ⟨.non, rfl, by unfold Sh.has; rfl⟩⟩
          obtain ⟨ρ2, f1, A2, P3, f2, f3, f4⟩ := jRt_l h2 this g1 hk
          cases f2
          exact ⟨_, m1, ρ2, n1, rfl, f3, f1, f4 a rfl, g2, g3⟩
        | rt v =>
          obtain ⟨ρ2, f1, A2, P3, f2, f3, f4⟩ := jRt_r h2 g4 g1 hk
          cases f2
          exact ⟨_, m1, ρ2, n1, rfl, f3, f1, f4 a rfl, g2, g3⟩
        | bk s' => obtain ⟨S2, P2, q1, _⟩ := g4; rw [hbk] at q1; cases q1
        | ct s' => obtain ⟨S2, P2, q1, _⟩ := g4; rw [hct] at q1; cases q1
      · cases h
    · cases h
  · cases h
theorem trim_ok {x : R Val} {r : AV × APl × Nat} {k : Nat} (hk : ρ.length ≤ k) (h : Po F p r0 ρ n x r.2.1 r.2.2 (fun ρ' v => r.1.has F p ρ' v)) : Po F p r0 ρ n x (trimR k r).2.1 (trimR k r).2.2 (fun ρ' v => (trimR k r).1.has F p ρ' v) := by
  obtain ⟨v, m1, ρ1, n1, e, g1, g2, g3, g4, g5⟩ := h
  unfold trimR
  obtain ⟨a, Pr, δ⟩ := r
  cases a with
  | sh s => exact ⟨v, m1, _, n1, e, g1.tk k, g2.tk hk, g3, g4, g5⟩
  | dk => exact ⟨v, m1, _, n1, e, g1.tk k, g2.tk hk, g3, g4, g5⟩
  | pl j =>
    dsimp only
    split
    · rename_i hj
      obtain ⟨i, f1, f2⟩ := g3
      exact ⟨v, m1, _, n1, e, g1.tk k, g2.tk hk, ⟨i, by rw [List.getElem?_take, if_pos hj]; exact f1, f2⟩, g4, g5⟩
    · exact ⟨v, m1, _, n1, e, g1, g2, g3, g4, g5⟩
theorem mr0 : MR F0 p [] [] [] [] 0 := ⟨⟨(), [], rfl⟩, rfl, List.nodup_nil, (fun _ h => by cases h), (fun _ _ _ h => by simp at h)⟩
theorem hasVs_F {G : Fam} {ρ2 : List Nat} : ∀ {as : List AV} {vs : List Val} {ss : List Sh}, shs as = some ss → hasVs F p ρ as vs → hasVs G p ρ2 as vs
  | [], vs, ss, _, h => h
  | a :: as, vs, ss, h, ⟨v, r, e, g1, g2⟩ => by
    cases a with
    | sh s =>
      obtain ⟨tt, h1, rfl⟩ := om (show (shs as).map (s :: ·) = some ss from h)
      exact ⟨v, r, e, g1, hasVs_F h1 g2⟩
    | dk => cases h
    | pl _ => cases h
theorem aCall_ok {Pg : Prog} {H : Nat → Nat → Bool} {V : ATab} (hV : TabOk F0 p Pg V) : ∀ (k : Nat) {F : Fam} {U : ATab}, TabOk F p Pg U → ∀ {sp : Nat → Bool}, CalOk F p ⟨callN Pg k, Pg.glo, WF⟩ ⟨aCallN Pg H V U k, Pg.glo, sp⟩
  | 0, F, U, hU, sp => ⟨fun _ _ h => h, fun _ _ _ _ _ _ _ _ _ h => by cases h⟩
  | k + 1, F, U, hU, sp => ⟨fun _ _ h => h, fun r0 f as P r ρ m n vs h hm hb g => by
    have h : aCallN Pg H V U (k + 1) f as P = some r := h
    show Po F p r0 ρ n (callN Pg (k + 1) f vs m) _ _ _
    unfold aCallN at h
    split at h
    · rename_i r' e
      cases h
      exact hU _ _ _ _ _ _ _ _ _ _ e hm hb g
    · split at h
      · cases h
      · rename_i fn hfn
        split at h
        · rename_i hp
          obtain ⟨x, h1, rfl⟩ := om h
          rw [call_imp hfn hp]
          have hb' : n + x.2.2 ≤ BIG := by
            have : (trimR P.length x).2.2 = x.2.2 := by
              unfold trimR
              obtain ⟨a, Pr, δ⟩ := x
              cases a with
              | pl j => dsimp only; split <;> rfl
              | _ => rfl
            omega
          exact trim_ok (by rw [hm.len]; exact Nat.le_refl _) (aRun_ok (aCall_ok hV k hU) h1 hm g hb')
        · rename_i hp
          obtain ⟨ss, h1, h⟩ := ob h
          obtain ⟨x, h2, h⟩ := ob h
          split at h
          · rename_i hB
            obtain ⟨s, h3, rfl⟩ := om h
            obtain ⟨ds, rfl, _⟩ := shs_ok h1 g
            obtain ⟨v, m1, ρ1, n1, e1, f1, f2, f3, f4, f5⟩ := aRun_ok (aCall_ok hV k hV) h2 (mr0 (p := p)) (hasVs_F h1 g) (by omega)
            obtain ⟨d, e2, e3⟩ : ∃ d, froz m1 v = some d ∧ s.has p d := by
              obtain ⟨a, Pr, δ⟩ := x
              cases a with
              | sh t => cases h3; obtain ⟨d, rfl, hd⟩ := f3; exact ⟨d, rfl, hd⟩
              | dk => cases h3
              | pl j =>
                obtain ⟨q, h4, rfl⟩ := om h3
                obtain ⟨i, es, q1, rfl, q2, q3⟩ := pl_get h4 f1 f3
                refine ⟨.lst es, ?_, Sq.lst_ok q3⟩
                show (match m1[i]? with
                  | some (.lst vs) => (datas vs).map D.lst
                  | _ => none) = _
                rw [q2]
                show (datas (es.map Val.d)).map D.lst = _
                rw [datas_map]
                rfl
            rw [call_pure hfn hp (datas_map ds) e1 e2]
            exact .ret hm ⟨d, rfl, e3⟩
          · cases h⟩
end
end Rf

namespace Rf
/-! ### the deck, read abstractly -/
def FD : Fam := ⟨List Int, fun c n => dk c (n : Int), 2, fun _ _ => rfl, 1⟩
def dTab (df : Nat) : ATab := fun _ f as P => match f == df with
  | true => match as with
    | [.dk, .sh s] => (s.asInt).bind fun q => if 0 < q.1 ∧ q.2 < 4611686018427387904 then some (.sh (.int 0 (q.2 - 1)), P, 1) else none
    | _ => none
  | false => none
theorem dTab_ok {p : PT} {Pg : Prog} {df : Nat} (hd : Pg.fn df = some ⟨2, 4, false, drawB⟩) : TabOk FD p Pg (dTab df) := by
  intro r0 k f as P r ρ m n vs h hm hb g
  unfold dTab at h
  split at h
  · rename_i hf
    have hf := beq_iff_eq.mp hf
    subst hf
    split at h
    · rename_i s
      obtain ⟨⟨x, y⟩, h1, h⟩ := ob h
      split at h
      · rename_i hc
        cases h
        obtain ⟨v, w, rfl, g1, d, rfl, g2⟩ := hV2 g
        obtain ⟨i, rfl, i1, i2⟩ := asInt_ok h1 g2
        have g1 : v = .r 1 := g1
        subst g1
        dsimp only at hb hc ⊢
        obtain ⟨c, r, em⟩ := hm.ex
        have em' : m = dkr c (n : Int) (r0 ++ r) := by
          rw [em]
          show dk c (n : Int) ++ r0 ++ r = _
          simp [dk, dkr]
        have hB : BIG = 1073741824 := rfl
        have e : callN Pg (k + 1) f [.r 1, .d (.int i)] m = .ok (.d (.int (drawV c n i))) (dkr (drawC c n i) ((n : Int) + 1) (r0 ++ r)) := by
          rw [call_imp hd rfl, em']
          exact draw_okR _ _ c (by omega) (by omega)
        obtain ⟨b0, b1⟩ := drawV_lt c (n : Int) (show 0 < i by omega)
        refine ⟨_, _, ρ, n + 1, e, ⟨⟨drawC c n i, r, ?_⟩, hm.len, hm.nd, hm.ge, ?_⟩, .refl, ⟨_, rfl, hasInt b0 (by omega)⟩, by omega, Nat.le_refl _⟩
        · show _ = dk _ ((n + 1 : Nat) : Int) ++ r0 ++ r
          rw [show ((n + 1 : Nat) : Int) = (n : Int) + 1 by omega]
          simp [dk, dkr]
        · intro j i' s' e1 e2
          obtain ⟨ds, f1, f2⟩ := hm.at_ j i' s' e1 e2
          refine ⟨ds, ?_, f2⟩
          have hi : 2 ≤ i' := by
            have := hm.ge i' (List.mem_of_getElem? e1)
            have : FD.len = 2 := rfl
            omega
          rw [em'] at f1
          obtain ⟨q, rfl⟩ : ∃ q, i' = q + 2 := ⟨i' - 2, by omega⟩
          exact f1
      · cases h
    · cases h
  · cases h
theorem mrD {p : PT} {c : List Int} {n : Nat} : MR FD p [] [] [] (dk c (n : Int)) n := ⟨⟨c, [], by simp [FD]⟩, rfl, List.nodup_nil, (fun _ h => by cases h), (fun _ _ _ h => by simp at h)⟩
theorem mrD' {p : PT} {c : List Int} {n : Nat} {r : Mem} : MR FD p r [] [] (dkr c (n : Int) r) n := ⟨⟨c, [], by simp [FD, dk, dkr]⟩, rfl, List.nodup_nil, (fun _ h => by cases h), (fun _ _ _ h => by simp at h)⟩
/-- what a reading of a call says of it -/
theorem draws_ok {p : PT} {Pg : Prog} {H : Nat → Nat → Bool} {df k f : Nat} {as : List AV} {vs : List Val} {c : List Int} {n : Nat} {r : Mem} {a : Sh} {P' : APl} {δ : Nat} (hd : Pg.fn df = some ⟨2, 4, false, drawB⟩) (h : aCallN Pg H noTab (dTab df) k f as [] = some (.sh a, P', δ)) (hb : n + δ ≤ 1000000000) (g : hasVs FD p [] as vs) :
    ∃ (d : D) (c' : List Int) (n' : Nat) (t : Mem), callN Pg k f vs (dkr c (n : Int) r) = .ok (.d d) (dkr c' (n' : Int) (r ++ t)) ∧ a.has p d ∧ n ≤ n' ∧ n' ≤ n + δ := by
  have hB : BIG = 1073741824 := rfl
  obtain ⟨v, m1, ρ1, n1, e, h1, h2, ⟨d, rfl, h3⟩, h4, h5⟩ := (aCall_ok (p := p) (H := H) noTab_ok k (dTab_ok hd) (sp := fun _ => false)).2 r f as [] _ [] (dkr c (n : Int) r) n vs h mrD' (by dsimp only; omega) g
  obtain ⟨c', t, e2⟩ := h1.ex
  have e3 : m1 = dkr c' (n1 : Int) (r ++ t) := by
    rw [e2]
    show dk c' (n1 : Int) ++ r ++ t = _
    simp [dk, dkr]
  exact ⟨d, c', n1, t, by rw [← e3]; exact e, h3, h4, h5⟩
/-! ### a stretch of statements -/
def Sts.take : Nat → Sts → Sts
  | 0, _ => .nil
  | _, .nil => .nil
  | k + 1, .cons x xs => .cons x (xs.take k)
def Sts.drop : Nat → Sts → Sts
  | 0, xs => xs
  | _, .nil => .nil
  | k + 1, .cons _ xs => xs.drop k
theorem xs_split {C : Cal} : ∀ (k : Nat) (b : Sts) (s : Slots) (m : Mem), exSs C b s m = (exSs C (b.take k) s m).bind (nxt C (b.drop k))
  | 0, b, s, m => by
    show _ = (exSs C .nil s m).bind (nxt C b)
    rw [xs_nil, r_ok, nxt_nx]
  | k + 1, .nil, s, m => by
    show _ = (exSs C .nil s m).bind (nxt C .nil)
    rw [xs_nil, r_ok, nxt_nx, xs_nil]
  | k + 1, .cons x xs, s, m => by
    show exSs C (.cons x xs) s m = (exSs C (.cons x (xs.take k)) s m).bind (nxt C (xs.drop k))
    rw [xs_cons, xs_cons]
    cases exS C x s m with
    | ok r m1 =>
      cases r with
      | nx s1 =>
        show exSs C xs s1 m1 = (exSs C (xs.take k) s1 m1).bind (nxt C (xs.drop k))
        exact xs_split k xs s1 m1
      | rt v => rfl
      | bk s1 => rfl
      | ct s1 => rfl
    | ex e m1 => rfl
    | no => rfl
/-! ### what may be shown, and how long -/
theorem rc_len {q : Nat} (h : q = 39 ∨ q = 34) : ∀ c, c < 128 → (PySem.Builtin.Str.reprChar q c).length ≤ 4 := by
  rcases h with rfl | rfl <;> decide +kernel
theorem flat_len {α : Type} {f : α → List Nat} {b : Nat} : ∀ {xs : List α}, (∀ x ∈ xs, (f x).length ≤ b) → (xs.flatMap f).length ≤ b * xs.length
  | [], _ => by simp
  | x :: xs, h => by
    rw [List.flatMap_cons, List.length_append, List.length_cons, Nat.mul_succ]
    have := h x List.mem_cons_self
    have := flat_len fun y hy => h y (List.mem_cons_of_mem _ hy)
    omega
theorem rS_len {s : List Nat} (h : ∀ c ∈ s, c < 128) : (rS s).length ≤ 4 * s.length + 2 := by
  unfold rS
  rw [List.length_cons, List.length_append]
  have hq : rQ s = 39 ∨ rQ s = 34 := by
    unfold rQ
    split
    · exact .inr rfl
    · exact .inl rfl
  have := flat_len (f := PySem.Builtin.Str.reprChar (rQ s)) (b := 4) fun c hc => rc_len hq c (h c hc)
  rw [List.length_singleton]
  omega
mutual
def Sh.fine : Sh → Option Nat
  | .bot => some 0
  | .con .non => some 4
  | .con (.bl _) => some 5
  | .con (.int i) => if -(10 ^ 45) < i ∧ i < 10 ^ 45 then some 46 else none
  | .con (.str s) => if s.all fun c => decide (c < 128) then some (4 * s.length + 2) else none
  | .con (.tup ds) => match ds with
    | [] => some 2
    | _ => none
  | .con (.lst ds) => match ds with
    | [] => some 2
    | _ => none
  | .con _ => none
  | .bl => some 5
  | .int a b => if -(10 ^ 45) < a ∧ b < 10 ^ 45 then some 46 else none
  | .big => none
  | .str _ hi _ => some (4 * hi + 2)
  | .tup ss => (Sh.fines ss).map fun n => n + 3
  | .tups _ hi s => (s.fine).map fun n => hi * (n + 2) + 3
  | .lst ss => (Sh.fines ss).map fun n => n + 3
  | .lsts _ hi s => (s.fine).map fun n => hi * (n + 2) + 3
  | .nm _ => none
  | .or a b => match a.fine, b.fine with
    | some x, some y => some (max x y)
    | _, _ => none
def Sh.fines : List Sh → Option Nat
  | [] => some 0
  | s :: ss => match s.fine, Sh.fines ss with
    | some x, some y => some (x + 2 + y)
    | _, _ => none
end
theorem sum_const {b : Nat} : ∀ {ts : List (List Nat)}, (∀ t ∈ ts, t.length ≤ b) → (ts.map List.length).sum ≤ ts.length * b
  | [], _ => by simp
  | x :: r, h => by
    have ih := sum_const fun t ht => h t (List.mem_cons_of_mem _ ht)
    have := h x List.mem_cons_self
    rw [List.map_cons, List.sum_cons, List.length_cons, Nat.add_mul]
    omega
theorem rps_len : ∀ (ds : List D), (D.rps ds).length = ds.length
  | [] => rfl
  | d :: ds => by
    unfold D.rps
    rw [List.length_cons, List.length_cons, rps_len]
theorem rps_mem {x : List Nat} : ∀ {ds : List D}, x ∈ D.rps ds → ∃ d ∈ ds, x = D.rp d
  | [], h => by unfold D.rps at h; cases h
  | d :: ds, h => by
    unfold D.rps at h
    rcases List.mem_cons.mp h with rfl | h
    · exact ⟨d, List.mem_cons_self, rfl⟩
    · obtain ⟨e, h1, h2⟩ := rps_mem h
      exact ⟨e, List.mem_cons_of_mem _ h1, h2⟩
theorem shs_of : ∀ {ds : List D}, (∀ d ∈ ds, D.sh d = true) → D.shs ds = true
  | [], _ => rfl
  | d :: ds, h => by
    unfold D.shs
    rw [Bool.and_eq_true]
    exact ⟨h d List.mem_cons_self, shs_of fun x hx => h x (List.mem_cons_of_mem _ hx)⟩
theorem int_fine {i : Int} (h1 : -(10 ^ 45) < i) (h2 : i < 10 ^ 45) : D.sh (.int i) = true ∧ (D.rp (.int i)).length ≤ 46 := by
  constructor
  · unfold D.sh
    refine decide_eq_true (log_ok ?_)
    have : (10 : Nat) ^ 45 < 2 ^ 200 := by decide
    omega
  · unfold D.rp
    exact (codes_num i).2.2 (by omega)
theorem seq_len {ds : List D} {l : List Nat} {b : Nat} (hb : ((D.rps ds).map List.length).sum + ds.length * 2 ≤ b) : (joinL [44, 32] (D.rps ds)).length ≤ b := by
  have := (joinL_len (sep := [44, 32]) (ts := D.rps ds)).2
  rw [rps_len] at this
  have e : [44, 32].length = 2 := rfl
  rw [e] at this
  omega
theorem tup_len {ds : List D} {b : Nat} (hb : ((D.rps ds).map List.length).sum + ds.length * 2 ≤ b) : (D.rp (.tup ds)).length ≤ b + 3 ∧ (D.rp (.lst ds)).length ≤ b + 3 := by
  have := seq_len (l := []) hb
  unfold D.rp
  constructor
  · rw [List.length_cons, List.length_append]
    split <;> simp <;> omega
  · rw [List.length_cons, List.length_append]
    simp; omega
mutual
theorem fine_ok {p : PT} : ∀ {s : Sh} {d : D} {b : Nat}, s.fine = some b → s.has p d → D.sh d = true ∧ (D.rp d).length ≤ b
  | .bot, d, b, h, g => by unfold Sh.has at g; exact g.elim
  | .con e, d, b, h, g => by
    unfold Sh.has at g
    subst g
    unfold Sh.fine at h
    split at h <;> rename_i hh <;> first | (cases hh; done) | skip
    · cases hh; cases h; exact ⟨rfl, by decide⟩
    · cases hh; cases h; rename_i c; cases c <;> exact ⟨rfl, by decide⟩
    · cases hh
      split at h
      · rename_i hc; cases h; exact int_fine hc.1 hc.2
      · cases h
    · cases hh
      split at h
      · rename_i hc
        cases h
        refine ⟨by unfold D.sh; exact hc, ?_⟩
        unfold D.rp
        exact rS_len fun c hm => of_decide_eq_true (List.all_eq_true.mp hc c hm)
      · cases h
    · cases hh
      split at h
      · cases h; exact ⟨rfl, by decide⟩
      · cases h
    · cases hh
      split at h
      · cases h; exact ⟨rfl, by decide⟩
      · cases h
    · cases h
  | .bl, d, b, h, g => by
    unfold Sh.has at g
    obtain ⟨c, rfl⟩ := g
    cases h
    cases c <;> exact ⟨rfl, by decide⟩
  | .int x y, d, b, h, g => by
    unfold Sh.has at g
    obtain ⟨i, rfl, h1, h2⟩ := g
    unfold Sh.fine at h
    split at h
    · rename_i hc; cases h; exact int_fine (by omega) (by omega)
    · cases h
  | .big, d, b, h, g => by unfold Sh.fine at h; cases h
  | .str _ hi _, d, b, h, g => by
    unfold Sh.has at g
    obtain ⟨s, rfl, h1, h2, h3⟩ := g
    have h3' : ∀ c ∈ s, c < 128 := fun c hc => by
      have := h3 c hc
      unfold inC at this
      rw [Bool.and_eq_true, decide_eq_true_eq] at this
      exact this.1
    cases h
    refine ⟨by unfold D.sh; exact List.all_eq_true.mpr fun c hc => decide_eq_true (h3' c hc), ?_⟩
    unfold D.rp
    have := rS_len h3'
    omega
  | .tup ss, d, b, h, g => by
    unfold Sh.has at g
    obtain ⟨ds, rfl, g⟩ := g
    unfold Sh.fine at h
    obtain ⟨c, h1, rfl⟩ := om h
    obtain ⟨a1, a2⟩ := fines_ok h1 g
    exact ⟨by unfold D.sh; exact a1, (tup_len a2).1⟩
  | .lst ss, d, b, h, g => by
    unfold Sh.has at g
    obtain ⟨ds, rfl, g⟩ := g
    unfold Sh.fine at h
    obtain ⟨c, h1, rfl⟩ := om h
    obtain ⟨a1, a2⟩ := fines_ok h1 g
    exact ⟨by unfold D.sh; exact a1, (tup_len a2).2⟩
  | .tups _ hi s, d, b, h, g => by
    unfold Sh.has at g
    obtain ⟨ds, rfl, l1, l2, g⟩ := g
    unfold Sh.fine at h
    obtain ⟨c, h1, rfl⟩ := om h
    have hs := sum_const (b := c) (ts := D.rps ds) fun t ht => by
      obtain ⟨d, hd, rfl⟩ := rps_mem ht
      exact (fine_ok h1 (g d hd)).2
    rw [rps_len] at hs
    have : ds.length * (c + 2) ≤ hi * (c + 2) := Nat.mul_le_mul_right _ l2
    rw [Nat.mul_add ds.length] at this
    exact ⟨by unfold D.sh; exact shs_of fun d hd => (fine_ok h1 (g d hd)).1, (tup_len (by omega)).1⟩
  | .lsts _ hi s, d, b, h, g => by
    unfold Sh.has at g
    obtain ⟨ds, rfl, l1, l2, g⟩ := g
    unfold Sh.fine at h
    obtain ⟨c, h1, rfl⟩ := om h
    have hs := sum_const (b := c) (ts := D.rps ds) fun t ht => by
      obtain ⟨d, hd, rfl⟩ := rps_mem ht
      exact (fine_ok h1 (g d hd)).2
    rw [rps_len] at hs
    have : ds.length * (c + 2) ≤ hi * (c + 2) := Nat.mul_le_mul_right _ l2
    rw [Nat.mul_add ds.length] at this
    exact ⟨by unfold D.sh; exact shs_of fun d hd => (fine_ok h1 (g d hd)).1, (tup_len (by omega)).2⟩
  | .nm _, d, b, h, g => by unfold Sh.fine at h; cases h
  | .or x y, d, b, h, g => by
    unfold Sh.fine at h
    split at h
    · rename_i u v h1 h2
      cases h
      unfold Sh.has at g
      rcases g with g | g
      · obtain ⟨a1, a2⟩ := fine_ok h1 g
        exact ⟨a1, by omega⟩
      · obtain ⟨a1, a2⟩ := fine_ok h2 g
        exact ⟨a1, by omega⟩
    · cases h
theorem fines_ok {p : PT} : ∀ {ss : List Sh} {ds : List D} {b : Nat}, Sh.fines ss = some b → Sh.hasL p ss ds → D.shs ds = true ∧ ((D.rps ds).map List.length).sum + ds.length * 2 ≤ b
  | [], ds, b, h, g => by
    unfold Sh.hasL at g
    subst g
    exact ⟨rfl, by simp [D.rps]⟩
  | s :: ss, ds, b, h, g => by
    unfold Sh.hasL at g
    obtain ⟨x, r, rfl, g1, g2⟩ := g
    unfold Sh.fines at h
    split at h
    · rename_i u v h1 h2
      cases h
      obtain ⟨a1, a2⟩ := fine_ok h1 g1
      obtain ⟨b1, b2⟩ := fines_ok h2 g2
      unfold D.shs D.rps
      rw [Bool.and_eq_true, List.map_cons, List.sum_cons, List.length_cons, Nat.add_mul]
      exact ⟨⟨a1, b1⟩, by omega⟩
    · cases h
end
/-- plain, may be shown, not too deep, its text not too long -/
def Nice (d : D) : Prop := D.pl d = true ∧ D.sh d = true ∧ D.dep d ≤ 60 ∧ (D.rp d).length ≤ 16777216
def Sh.nice (s : Sh) : Bool := s.plB && decide (s.dpB ≤ 60) && (match s.fine with
  | some b => decide (b ≤ 16777216)
  | none => false)
theorem nice_ok {p : PT} {s : Sh} {d : D} (h : s.nice = true) (g : s.has p d) : Nice d := by
  unfold Sh.nice at h
  rw [Bool.and_eq_true, Bool.and_eq_true, decide_eq_true_eq] at h
  obtain ⟨⟨h1, h2⟩, h3⟩ := h
  split at h3
  · rename_i b hb
    have h3 := of_decide_eq_true h3
    obtain ⟨a1, a2⟩ := plB_ok h1 g
    obtain ⟨b1, b2⟩ := fine_ok hb g
    exact ⟨a1, b1, by omega, by omega⟩
  · cases h3
/-! ### more rules -/
section
variable {m : Mem} {z : Bool} {a b : Bool} {x y : D} {i : Int}
theorem c_eqb : cmpV .eq (.d (.bl a)) (.d (.bl b)) m = .ok (a == b) m := by cases a <;> cases b <;> rfl
theorem c_neb : cmpV .ne (.d (.bl a)) (.d (.bl b)) m = .ok (!(a == b)) m := by cases a <;> cases b <;> rfl
theorem c_isb : cmpV .is (.d (.bl a)) (.d (.bl b)) m = .ok (decide (a = b)) m := nr rfl
theorem c_inb : cmpV .isNot (.d (.bl a)) (.d (.bl b)) m = .ok (!decide (a = b)) m := nr rfl
theorem c_isN : cmpV .is (.d x) (.d .non) m = .ok (isNon x) m := by cases x <;> rfl
theorem c_inN : cmpV .isNot (.d x) (.d .non) m = .ok (!isNon x) m := by cases x <;> rfl
theorem rp_r (h : Nice x) : biV z .repr [.d x] m = .ok (.d (.str (D.rp x))) m := if_pos ⟨⟨h.1, h.2.1⟩, h.2.2⟩
theorem c_eqd (h : eqOk x y = true) : cmpV .eq (.d x) (.d y) m = .ok (D.eq x y) m := by
  have e : cmpD .eq x y = some (D.eq x y) := by
    cases x <;> cases y <;> first | (unfold cmpD; simp only [h, if_true]; done) | rfl
  show R.opt (cmpD .eq x y) m = _
  rw [e]
  rfl
theorem c_ned (h : eqOk x y = true) : cmpV .ne (.d x) (.d y) m = .ok (!D.eq x y) m := by
  have e : cmpD .ne x y = some (!D.eq x y) := by
    cases x <;> cases y <;> first | (unfold cmpD; simp only [h, if_true]; done) | rfl
  show R.opt (cmpD .ne x y) m = _
  rw [e]
  rfl
end
end Rf

namespace Rf
/-! ### rules, more of them -/
section
variable {m : Mem} {z : Bool} {C : Cal} {s : Slots}
theorem al_l {bs : List Bool} : biV z .all [.d (.lst (bs.map .bl))] m = .ok (.d (.bl (bs.all id))) m := by
  show (R.opt (blsD ((bs.map D.bl).map .d)) m).bind (fun bs m => R.ok (Val.d (.bl (bs.all id))) m) = _
  rw [bls_dm]
  rfl
theorem an_l {bs : List Bool} : biV z .any [.d (.lst (bs.map .bl))] m = .ok (.d (.bl (bs.any id))) m := by
  show (R.opt (blsD ((bs.map D.bl).map .d)) m).bind (fun bs m => R.ok (Val.d (.bl (bs.any id))) m) = _
  rw [bls_dm]
  rfl
theorem or_s {c : Nat} : biV z .ord [.d (.str [c])] m = .ok (.d (.int (c : Nat))) m := nr rfl
theorem k_n : kdOf m (.d .non) = some .non := nr rfl
theorem k_l {x : List D} : kdOf m (.d (.lst x)) = some .list := nr rfl
theorem rv_t {x : List D} : revV z (.d (.tup x)) m = .ok (.d (.tup x.reverse)) m := nr rfl
theorem t_n : truth m (.d .non) = some false := nr rfl
theorem t_s {x : List Nat} : truth m (.d (.str x)) = some (!x.isEmpty) := nr rfl
theorem t_t {x : List D} : truth m (.d (.tup x)) = some (!x.isEmpty) := nr rfl
theorem t_l {x : List D} : truth m (.d (.lst x)) = some (!x.isEmpty) := nr rfl
theorem ex_r {k : Nat} {us : List Val} (h : m[k]? = some (.lst us)) : exW (.r k) m = .ok (wkR k us.length) m := by
  show (match m[k]? with
    | some (.lst us) => R.ok (wkR k us.length) m
    | _ => .no) = _
  rw [h]
end
/-- a loop over a place that stays -/
theorem forL_wkR {f : Wv → Slots → Mem → R Fl} {i : Nat} {us : List Val} (I : Nat → Slots → Mem → Prop) (hI : ∀ j s m, I j s m → m[i]? = some (.lst us)) (step : ∀ (j : Nat) v s m, us[j]? = some v → I j s m → ∃ s' m', f (.v v) s m = .ok (.nx s') m' ∧ I (j + 1) s' m') {s : Slots} {m : Mem} (h : I 0 s m) :
    ∃ s' m', forL f (wkR i us.length).fin (wkR i us.length).rs s m = .ok (.nx s') m' ∧ I us.length s' m' := by
  have ls : ∀ {j s m}, I j s m → lstR i us.length m = some us := by
    intro j s m h
    unfold lstR
    rw [hI j s m h]
    exact if_pos rfl
  have go : ∀ (k : Nat) (j : Nat) (s : Slots) (m : Mem), j + k = us.length → I j s m → ∃ s' m', forL f (wkR i us.length).fin ((List.range' j k).map fun k m => (lstR i us.length m).bind fun us => (us[k]?).map .v) s m = .ok (.nx s') m' ∧ I us.length s' m' := by
    intro k
    induction k with
    | zero =>
      intro j s m e h
      refine ⟨s, m, ?_, by rw [← e]; exact h⟩
      show (match (lstR i us.length m).isSome with
        | true => R.ok (Fl.nx s) m
        | false => .no) = _
      rw [ls h]
      rfl
    | succ k ih =>
      intro j s m e h
      have hj : j < us.length := by omega
      obtain ⟨s1, m1, e1, h1⟩ := step j us[j] s m (List.getElem?_eq_getElem hj) h
      obtain ⟨s2, m2, e2, h2⟩ := ih (j + 1) s1 m1 (by omega) h1
      refine ⟨s2, m2, ?_, h2⟩
      rw [List.range'_succ, List.map_cons]
      unfold forL
      dsimp only
      rw [ls h]
      show (match (us[j]?).map Wv.v with
        | none => R.no
        | some v => (f v s m).bind _) = _
      rw [List.getElem?_eq_getElem hj]
      show (f (.v us[j]) s m).bind _ = _
      rw [e1]
      exact e2
  have := go us.length 0 s m (by omega) h
  rw [← List.range_eq_range'] at this
  exact this
end Rf
namespace Rf
/-! ### readings used in a law -/
def rtOk (f : Sh → Bool) (b : Nat) : Option (AF × Nat) → Bool
  | some (⟨none, some (some (.sh a), _), none, none⟩, δ) => f a && decide (δ ≤ b)
  | _ => false
def nxOk (f : ASl → APl → Bool) (b : Nat) : Option (AF × Nat) → Bool
  | some (⟨some (S, P), none, none, none⟩, δ) => f S P && decide (δ ≤ b)
  | _ => false
theorem rtOk_ok {f : Sh → Bool} {b : Nat} {r : Option (AF × Nat)} (h : rtOk f b r = true) : ∃ a P δ, r = some (⟨none, some (some (.sh a), P), none, none⟩, δ) ∧ f a = true ∧ δ ≤ b := by
  unfold rtOk at h
  split at h
  · rename_i a P δ
    rw [Bool.and_eq_true, decide_eq_true_eq] at h
    exact ⟨a, P, δ, rfl, h.1, h.2⟩
  · cases h
theorem nxOk_ok {f : ASl → APl → Bool} {b : Nat} {r : Option (AF × Nat)} (h : nxOk f b r = true) : ∃ S P δ, r = some (⟨some (S, P), none, none, none⟩, δ) ∧ f S P = true ∧ δ ≤ b := by
  unfold nxOk at h
  split at h
  · rename_i S P δ
    rw [Bool.and_eq_true, decide_eq_true_eq] at h
    exact ⟨S, P, δ, rfl, h.1, h.2⟩
  · cases h
section
variable {p : PT} {Pg : Prog} {H : Nat → Nat → Bool} {sp : Nat → Bool} {df k b : Nat} {S : ASl} {s : Slots} {c : List Int} {n : Nat} {r : Mem} {B : Sts}
theorem dkr_of {g : List Int} {n : Nat} {r t m : Mem} (e : m = FD.mem g n ++ r ++ t) : m = dkr g (n : Int) (r ++ t) := by
  rw [e]
  show dk g (n : Int) ++ r ++ t = _
  simp [dk, dkr]
/-- statements that end in a return -/
theorem rt_run {f : Sh → Bool} (hd : Pg.fn df = some ⟨2, 4, false, drawB⟩) (h : rtOk f b (aSs ⟨aCallN Pg H noTab (dTab df) k, Pg.glo, sp⟩ B S []) = true) (hs : SlR FD p [] S s) (hb : n + b ≤ 1000000000) :
    ∃ (a : Sh) (d : D) (c' : List Int) (n' : Nat) (t : Mem), exSs ⟨callN Pg k, Pg.glo, WF⟩ B s (dkr c (n : Int) r) = .ok (.rt (.d d)) (dkr c' (n' : Int) (r ++ t)) ∧ f a = true ∧ a.has p d ∧ n ≤ n' ∧ n' ≤ n + b := by
  obtain ⟨a, P, δ, h1, h2, h3⟩ := rtOk_ok h
  have hB : BIG = 1073741824 := rfl
  obtain ⟨fl, m1, ρ1, n1, e, g1, g2, g3, g4⟩ := aSs_ok (aCall_ok (p := p) noTab_ok k (dTab_ok hd)) B h1 (mrD' (c := c) (n := n) (r := r)) hs (by dsimp only; omega)
  dsimp only at g3
  cases fl with
  | nx s' => obtain ⟨_, _, q, _⟩ := g4; cases q
  | bk s' => obtain ⟨_, _, q, _⟩ := g4; cases q
  | ct s' => obtain ⟨_, _, q, _⟩ := g4; cases q
  | rt v =>
    obtain ⟨A, P2, q1, q2, q3⟩ := g4
    cases q1
    obtain ⟨d, rfl, q4⟩ := q3 _ rfl
    obtain ⟨c', t, e2⟩ := q2.ex
    exact ⟨a, d, c', n1, t, by rw [← dkr_of e2]; exact e, h2, q4, g2, by omega⟩
/-- statements that go on -/
theorem nx_run {f : ASl → APl → Bool} (hd : Pg.fn df = some ⟨2, 4, false, drawB⟩) (h : nxOk f b (aSs ⟨aCallN Pg H noTab (dTab df) k, Pg.glo, sp⟩ B S []) = true) (hs : SlR FD p [] S s) (hb : n + b ≤ 1000000000) :
    ∃ (S' : ASl) (P' : APl) (s' : Slots) (c' : List Int) (n' : Nat) (t : Mem) (ρ : List Nat), exSs ⟨callN Pg k, Pg.glo, WF⟩ B s (dkr c (n : Int) r) = .ok (.nx s') (dkr c' (n' : Int) (r ++ t)) ∧ f S' P' = true ∧ MR FD p r ρ P' (dkr c' (n' : Int) (r ++ t)) n' ∧ SlR FD p ρ S' s' ∧ n ≤ n' ∧ n' ≤ n + b := by
  obtain ⟨a, P, δ, h1, h2, h3⟩ := nxOk_ok h
  have hB : BIG = 1073741824 := rfl
  obtain ⟨fl, m1, ρ1, n1, e, g1, g2, g3, g4⟩ := aSs_ok (aCall_ok (p := p) noTab_ok k (dTab_ok hd)) B h1 (mrD' (c := c) (n := n) (r := r)) hs (by dsimp only; omega)
  dsimp only at g3
  cases fl with
  | rt s' => obtain ⟨_, _, q, _⟩ := g4; cases q
  | bk s' => obtain ⟨_, _, q, _⟩ := g4; cases q
  | ct s' => obtain ⟨_, _, q, _⟩ := g4; cases q
  | nx s' =>
    obtain ⟨S2, P2, q1, q2, q3⟩ := g4
    cases q1
    obtain ⟨c', t, e2⟩ := q2.ex
    have e3 := dkr_of e2
    exact ⟨_, _, s', c', n1, t, ρ1, by rw [← e3]; exact e, h2, by rw [← e3]; exact q2, q3, g2, by omega⟩
end
end Rf
namespace Rf
theorem call_pd {P : Prog} {k f : Nat} {fn : Fn} {vs : List Val} {m m' : Mem} {ds : List D} {x : D} (h : P.fn f = some fn) (hp : fn.pure = true) (hd : datas vs = some ds) (hr : runB ⟨callN P k, P.glo, WF⟩ fn vs [] = .ok (.d x) m') :
    callN P (k + 1) f vs m = .ok (.d x) m := call_pure h hp hd hr rfl
end Rf
namespace Rf
theorem c_eqn {xs : List D} {m : Mem} (h : D.pls xs = true) : cmpV .eq (.d (.lst xs)) (.d (.lst [])) m = .ok xs.isEmpty m := by
  have hp : D.pl (.lst xs) = true := h
  rw [c_eqd (by unfold eqOk; rw [hp]; simp [D.pl, D.pls, D.dep, D.deps])]
  cases xs <;> rfl
theorem c_nen {xs : List D} {m : Mem} (h : D.pls xs = true) : cmpV .ne (.d (.lst xs)) (.d (.lst [])) m = .ok (!xs.isEmpty) m := by
  have hp : D.pl (.lst xs) = true := h
  rw [c_ned (by unfold eqOk; rw [hp]; simp [D.pl, D.pls, D.dep, D.deps])]
  cases xs <;> rfl
theorem pls_str (ss : List (List Nat)) : D.pls (ss.map .str) = true := pls_of fun x hx => by
  obtain ⟨s, _, rfl⟩ := List.mem_map.mp hx
  rfl
end Rf
namespace Rf
/-- sieving the signs of a text -/
def pickB (f : Nat → Bool) (v : Val) : Option Val := match v with
  | .d (.str [c]) => if f c then some (.d (.str [c])) else none
  | _ => none
theorem pick_at {f : Nat → Bool} {c : Nat} : pickB f (.d (.str [c])) = if f c then some (.d (.str [c])) else none := rfl
def onesD (s : List Nat) : List D := (s.map fun c => [c]).map D.str
theorem pick_eq (f : Nat → Bool) : ∀ s : List Nat, (s.map fun c => Val.d (.str [c])).filterMap (pickB f) = (onesD (s.filter f)).map Val.d
  | [] => rfl
  | c :: s => by
    have ih := pick_eq f s
    rw [List.map_cons, List.filterMap_cons, pick_at, List.filter_cons]
    cases h : f c with
    | true =>
      simp only [if_true]
      rw [ih]
      rfl
    | false =>
      simp only [Bool.false_eq_true, if_false]
      rw [ih]
theorem ones_pl (s : List Nat) : D.pls (onesD s) = true := pls_str _
theorem ones_emp (f : Nat → Bool) : ∀ s : List Nat, (onesD (s.filter f)).isEmpty = s.all fun c => !f c
  | [] => rfl
  | c :: s => by
    have ih := ones_emp f s
    rw [List.all_cons, List.filter_cons]
    cases h : f c with
    | true => rfl
    | false =>
      simp only [Bool.false_eq_true, if_false]
      rw [ih]
      rfl
end Rf
namespace Rf
section
variable {F : Fam} {p : PT} {ρ : List Nat} {S : ASl} {s : Slots} {a : AV} {v : Val} {x : Option Val}
theorem slr_nil : SlR F p ρ [] s := ⟨Nat.zero_le _, fun _ _ h => by simp at h⟩
theorem slr_some (h : a.has F p ρ v) (t : SlR F p ρ S s) : SlR F p ρ (some a :: S) (some v :: s) := ⟨Nat.succ_le_succ t.len, fun i b e => by
  cases i with
  | zero => cases e; exact ⟨v, rfl, h⟩
  | succ i => exact t.at_ i b (by simpa using e)⟩
theorem slr_none (t : SlR F p ρ S s) : SlR F p ρ (none :: S) (x :: s) := ⟨Nat.succ_le_succ t.len, fun i b e => by
  cases i with
  | zero => cases e
  | succ i => exact t.at_ i b (by simpa using e)⟩
end
theorem draw_exR {Pg : Prog} {df : Nat} (hd : Pg.fn df = some ⟨2, 4, false, drawB⟩) (k : Nat) (c : List Int) (r : Mem) {n m : Int} (h0 : 0 ≤ n) (h1 : n < 1000000) (m0 : 0 < m) (m1 : m < 1000000) : ∃ (v : Nat) (c' : List Int), callN Pg (k + 1) df [.r 1, .d (.int m)] (dkr c n r) = .ok (.d (.int (v : Nat))) (dkr c' (n + 1) r) ∧ (v : Int) < m := by
  obtain ⟨b0, b1⟩ := drawV_lt c n m0
  refine ⟨(drawV c n m).toNat, drawC c n m, ?_, by omega⟩
  rw [call_imp hd rfl]
  have e : (((drawV c n m).toNat : Nat) : Int) = drawV c n m := by omega
  rw [e]
  exact draw_okR _ r c (by omega) (by omega)
end Rf

namespace Rf
/-! ### what statements do not touch -/
mutual
def Tg.own : Tg → Nat → Bool
  | .nm i, j => i == j
  | .tup ts, j => ts.own j
def Tgs.own : Tgs → Nat → Bool
  | .nil, _ => false
  | .cons t ts, j => t.own j || ts.own j
end
mutual
def St.own : St → Nat → Bool
  | .asg t _, j => t.own j
  | .set _ _ _, _ => false
  | .aug i _ _, j => i == j
  | .ex _, _ => false
  | .ret _, _ => false
  | .iff _ a b, j => a.own j || b.own j
  | .forr t _ b, j => t.own j || b.own j
  | .whil _ b, j => b.own j
  | .par is _, j => is.any fun i => i == j
  | .pass, _ => false
  | .brk, _ => false
  | .cnt, _ => false
def Sts.own : Sts → Nat → Bool
  | .nil, _ => false
  | .cons x xs, j => x.own j || xs.own j
end
mutual
theorem asgT_own {m : Mem} {j : Nat} : ∀ (t : Tg) {v : Val} {s s' : Slots}, asgT m t v s = some s' → t.own j = false → s'[j]? = s[j]?
  | .nm i, v, s, s', h, ho => by
    unfold asgT at h
    cases h
    have : i ≠ j := fun e => by subst e; simp [Tg.own] at ho
    rw [List.getElem?_set_ne this]
  | .tup ts, v, s, s', h, ho => by
    unfold asgT at h
    split at h
    · exact asgTs_own ts h ho
    · cases h
theorem asgTs_own {m : Mem} {j : Nat} : ∀ (ts : Tgs) {vs : List Val} {s s' : Slots}, asgTs m ts vs s = some s' → ts.own j = false → s'[j]? = s[j]?
  | .nil, vs, s, s', h, ho => by
    cases vs with
    | nil => unfold asgTs at h; cases h; rfl
    | cons _ _ => unfold asgTs at h; cases h
  | .cons t ts, vs, s, s', h, ho => by
    cases vs with
    | nil => unfold asgTs at h; cases h
    | cons v vs =>
      unfold Tgs.own at ho
      rw [Bool.or_eq_false_iff] at ho
      unfold asgTs at h
      split at h
      · rename_i s1 e
        rw [asgTs_own ts h ho.2, asgT_own t e ho.1]
      · cases h
end
theorem asgW_own {m : Mem} {j : Nat} {t : Tg} {w : Wv} {s s' : Slots} (h : asgW m t w s = some s') (ho : t.own j = false) : s'[j]? = s[j]? := by
  cases w with
  | v x => exact asgT_own t h ho
  | t xs =>
    cases t with
    | nm i => cases h
    | tup ts => exact asgTs_own ts h ho
theorem parS_own {j : Nat} : ∀ {is : List Nat} {vs : List Val} {s s' : Slots}, parS is vs s = some s' → (is.any fun i => i == j) = false → s'[j]? = s[j]?
  | [], [], s, s', h, _ => by cases h; rfl
  | [], _ :: _, s, s', h, _ => by cases h
  | _ :: _, [], s, s', h, _ => by cases h
  | i :: is, v :: vs, s, s', h, ho => by
    rw [List.any_cons, Bool.or_eq_false_iff] at ho
    have : i ≠ j := fun e => by subst e; simp at ho
    rw [parS_own (is := is) (vs := vs) h ho.2, List.getElem?_set_ne this]
/-- the same at j, and just as long -/
def Same (j : Nat) (s : Slots) : Fl → Prop
  | .nx s' => s'[j]? = s[j]?
  | .rt _ => True
  | .bk s' => s'[j]? = s[j]?
  | .ct s' => s'[j]? = s[j]?
theorem Same.eq {j : Nat} {s s1 : Slots} {f : Fl} (h : Same j s1 f) (e : s1[j]? = s[j]?) : Same j s f := by
  cases f with
  | nx s' => exact Eq.trans h e
  | rt v => trivial
  | bk s' => exact Eq.trans h e
  | ct s' => exact Eq.trans h e
theorem forL_own {j : Nat} {f : Wv → Slots → Mem → R Fl} {fin : Mem → Bool} (hf : ∀ w s m fl m', f w s m = .ok fl m' → Same j s fl) : ∀ {rs : List (Mem → Option Wv)} {s : Slots} {m m' : Mem} {fl : Fl}, forL f fin rs s m = .ok fl m' → Same j s fl
  | [], s, m, m', fl, h => by
    unfold forL at h
    split at h
    · cases h; exact rfl
    · cases h
  | r :: rs, s, m, m', fl, h => by
    unfold forL at h
    split at h
    · cases h
    · rename_i w e
      obtain ⟨g, m1, h1, h2⟩ := bind_ok h
      have := hf _ _ _ _ _ h1
      cases g with
      | nx s1 => exact (forL_own hf h2).eq this
      | ct s1 => exact (forL_own hf h2).eq this
      | bk s1 => cases h2; exact this
      | rt v => cases h2; trivial
theorem whiL_own {j : Nat} {c : Slots → Mem → R Bool} {f : Slots → Mem → R Fl} (hf : ∀ s m fl m', f s m = .ok fl m' → Same j s fl) : ∀ {n : Nat} {s : Slots} {m m' : Mem} {fl : Fl}, whiL c f n s m = .ok fl m' → Same j s fl
  | 0, s, m, m', fl, h => by cases h
  | n + 1, s, m, m', fl, h => by
    unfold whiL at h
    obtain ⟨k, m1, h1, h2⟩ := bind_ok h
    cases k with
    | false => cases h2; exact rfl
    | true =>
      obtain ⟨g, m2, h3, h4⟩ := bind_ok h2
      have := hf _ _ _ _ h3
      cases g with
      | nx s1 => exact (whiL_own hf h4).eq this
      | ct s1 => exact (whiL_own hf h4).eq this
      | bk s1 => cases h4; exact this
      | rt v => cases h4; trivial
mutual
theorem exS_own {C : Cal} {j : Nat} : ∀ (x : St) {s : Slots} {m m' : Mem} {fl : Fl}, exS C x s m = .ok fl m' → x.own j = false → Same j s fl
  | .asg t e, s, m, m', fl, h, ho => by
    rw [x_asg] at h
    obtain ⟨v, m1, h1, h2⟩ := bind_ok h
    obtain ⟨s', m2, h3, h4⟩ := bind_ok h2
    cases h4
    exact asgT_own t (opt_ok h3).1 ho
  | .set o i e, s, m, m', fl, h, ho => by
    rw [x_set] at h
    obtain ⟨v, m1, h1, h2⟩ := bind_ok h
    obtain ⟨x, m2, h3, h4⟩ := bind_ok h2
    obtain ⟨y, m3, h5, h6⟩ := bind_ok h4
    split at h6
    · obtain ⟨u, m4, h7, h8⟩ := bind_ok h6
      cases h8
      exact rfl
    · cases h6
  | .aug i o e, s, m, m', fl, h, ho => by
    rw [x_aug] at h
    obtain ⟨v, m1, h1, h2⟩ := bind_ok h
    obtain ⟨y, m2, h3, h4⟩ := bind_ok h2
    have : i ≠ j := fun e => by subst e; simp [St.own] at ho
    unfold augV at h4
    split at h4
    · obtain ⟨w, m4, h7, h8⟩ := bind_ok h4
      cases h8
      show (s.set i _)[j]? = _
      rw [List.getElem?_set_ne this]
    · obtain ⟨w, m4, h7, h8⟩ := bind_ok h4
      cases h8
      show (s.set i _)[j]? = _
      rw [List.getElem?_set_ne this]
    · cases h4
  | .ex e, s, m, m', fl, h, ho => by
    rw [x_ex] at h
    obtain ⟨v, m1, h1, h2⟩ := bind_ok h
    cases h2
    exact rfl
  | .ret e, s, m, m', fl, h, ho => by
    rw [x_ret] at h
    obtain ⟨v, m1, h1, h2⟩ := bind_ok h
    cases h2
    trivial
  | .iff c a b, s, m, m', fl, h, ho => by
    rw [x_iff] at h
    unfold St.own at ho
    rw [Bool.or_eq_false_iff] at ho
    obtain ⟨v, m1, h1, h2⟩ := bind_ok h
    split at h2
    · exact exSs_own a h2 ho.1
    · exact exSs_own b h2 ho.2
    · cases h2
  | .forr t it b, s, m, m', fl, h, ho => by
    rw [x_forr] at h
    unfold St.own at ho
    rw [Bool.or_eq_false_iff] at ho
    obtain ⟨wk, m1, h1, h2⟩ := bind_ok h
    refine forL_own (fun w s m fl m' hw => ?_) h2
    unfold lturn at hw
    obtain ⟨s1, m2, h3, h4⟩ := bind_ok hw
    exact (exSs_own b h4 ho.2).eq (asgW_own (opt_ok h3).1 ho.1)
  | .whil c b, s, m, m', fl, h, ho => by
    rw [x_whil] at h
    exact whiL_own (fun s m fl m' hw => exSs_own b hw ho) h
  | .par is es, s, m, m', fl, h, ho => by
    rw [x_par] at h
    obtain ⟨v, m1, h1, h2⟩ := bind_ok h
    obtain ⟨s', m2, h3, h4⟩ := bind_ok h2
    cases h4
    exact parS_own (opt_ok h3).1 ho
  | .pass, s, m, m', fl, h, ho => by rw [x_pass] at h; cases h; exact rfl
  | .brk, s, m, m', fl, h, ho => by rw [x_brk] at h; cases h; exact rfl
  | .cnt, s, m, m', fl, h, ho => by rw [x_cnt] at h; cases h; exact rfl
theorem exSs_own {C : Cal} {j : Nat} : ∀ (x : Sts) {s : Slots} {m m' : Mem} {fl : Fl}, exSs C x s m = .ok fl m' → x.own j = false → Same j s fl
  | .nil, s, m, m', fl, h, ho => by rw [xs_nil] at h; cases h; exact rfl
  | .cons x xs, s, m, m', fl, h, ho => by
    rw [xs_cons] at h
    unfold Sts.own at ho
    rw [Bool.or_eq_false_iff] at ho
    obtain ⟨g, m1, h1, h2⟩ := bind_ok h
    have := exS_own x h1 ho.1
    cases g with
    | nx s1 => rw [nxt_nx] at h2; exact (exSs_own xs h2 ho.2).eq this
    | rt v => rw [nxt_rt] at h2; cases h2; trivial
    | bk s1 => rw [nxt_bk] at h2; cases h2; exact this
    | ct s1 => rw [nxt_ct] at h2; cases h2; exact this
end
theorem nx_own {C : Cal} {b : Sts} {s s' : Slots} {m m' : Mem} (h : exSs C b s m = .ok (.nx s') m') (j : Nat) (ho : b.own j = false) : s'[j]? = s[j]? := exSs_own b h ho
end Rf

namespace Rf
/-! ### the other deck: cells, turns, rests -/
def drawsB : Sts := (.cons (.asg (.nm 1) (.bin true .add (.bi true .list (.cons (.slc true false true (.var 0) (.con .non) (.con (.int 63))) .nil)) (.bin true .mul (.lst true (.cons (.con (.int 0)) .nil)) (.bi true .int (.cons (.cmp .eq (.bi true .len (.cons (.var 0) .nil)) (.con (.int 0))) .nil))))) (.cons (.ret (.lst false (.cons (.var 1) (.cons (.con (.int 0)) (.cons (.cmpr false [2] (.nm 2) (.ex (.var 1)) (.con (.bl true)) (.bin true .mul (.var 2) (.bi true .int (.cons (.cmp .ge (.var 2) (.bin true .pow (.con (.int 10)) (.con (.int 18)))) .nil)))) .nil))))) .nil))
def nextB : Sts := (.cons (.asg (.tup (.cons (.nm 6) (.cons (.nm 7) (.cons (.nm 8) .nil)))) (.var 0)) (.cons (.asg (.nm 2) (.bin true .mod (.var 7) (.bi true .len (.cons (.var 6) .nil)))) (.cons (.set (.var 0) (.con (.int 1)) (.bin true .add (.var 7) (.con (.int 1)))) (.cons (.iff (.cmp .gt (.idx (.var 8) (.var 2)) (.con (.int 0))) (.cons (.asg (.nm 9) (.bin true .mod (.idx (.var 8) (.var 2)) (.var 1))) (.cons (.set (.var 8) (.var 2) (.bin true .div (.idx (.var 8) (.var 2)) (.var 1))) (.cons (.ret (.var 9)) .nil))) .nil) (.cons (.asg (.nm 3) (.lst true (.cons (.con (.int 2147483629)) (.cons (.con (.int 2147483587)) (.cons (.con (.int 2147483579)) (.cons (.con (.int 2147483563)) (.cons (.con (.int 2147483549)) (.cons (.con (.int 2147483543)) (.cons (.con (.int 2147483497)) .nil))))))))) (.cons (.asg (.nm 4) (.bin true .mod (.bin true .pow (.bin true .add (.bin true .add (.bin true .mod (.idx (.var 6) (.var 2)) (.con (.int 2147483647))) (.bin true .mul (.con (.int 48271)) (.var 7))) (.con (.int 104729))) (.con (.int 3))) (.idx (.var 3) (.bin true .mod (.var 7) (.con (.int 7)))))) (.cons (.asg (.nm 5) (.bin true .mod (.bin true .pow (.bin true .add (.var 4) (.bin true .mul (.con (.int 7919)) (.var 7))) (.con (.int 2))) (.con (.int 2147483477)))) (.cons (.ret (.bin true .mod (.bin true .mod (.bin true .add (.bin true .mul (.var 5) (.con (.int 2147483423))) (.var 4)) (.con (.int 4611686018427387847))) (.var 1))) .nil))))))))
def dk2 (c q : List Int) (n : Int) (r : Mem) : Mem := .lst (q.map fun i => .d (.int i)) :: .lst [.d (.lst (c.map .int)), .d (.int n), .r 0] :: r
structure DK2 where
  c : List Int
  q : List Int
  h : q.length = c.length
  h0 : 0 < c.length
def cells2 (ns : List Int) : List Int := cut ns none (some 63) ++ rep [0] (if decide (((ns.length : Nat) : Int) = 0) = true then 1 else 0 : Int).toNat
theorem cells2_len (ns : List Int) : 0 < (cells2 ns).length ∧ (cells2 ns).length ≤ 64 := by
  unfold cells2
  by_cases h : ns.length = 0
  · rw [if_pos (by rw [decide_eq_true_eq]; omega)]
    have : ns = [] := List.length_eq_zero_iff.mp h
    subst this
    decide
  · rw [if_neg (by rw [decide_eq_true_eq]; omega), List.length_append]
    have : (rep [(0 : Int)] ((0 : Int).toNat)).length = 0 := rfl
    rw [this]
    simp only [cut, cutAt, List.length_take, List.length_drop]
    rw [if_neg (by decide)]
    omega
theorem len_scr {z : Bool} {ns : List Int} {m : Mem} : biV z .len [.d (.scr ns)] m = .ok (.d (.int (ns.length : Nat))) m := nr rfl
theorem li_l {xs : List D} {m : Mem} : biV true .list [.d (.lst xs)] m = .ok (.d (.lst xs)) m := by
  show mkL true (xs.map .d) m = _
  exact m_l (datas_map xs)
theorem b_mull {x : List D} {k : Int} {m : Mem} (h1 : -4611686018427387904 < k) (h2 : k < 4611686018427387904) (h3 : x.length * k.toNat ≤ 16777216) : binV true .mul (.d (.lst x)) (.d (.int k)) m = .ok (.d (.lst (rep x k.toNat))) m := by
  rw [binV_lst (xs := x.map .d) rfl]
  dsimp only
  rw [if_pos ⟨by omega, by omega, by rw [List.length_map]; exact h3⟩, rep_map]
  exact m_l (datas_map _)
theorem draws2_ok (C : Cal) (ns : List Int) : ∃ q, runB C ⟨1, 3, false, drawsB⟩ [.d (.scr ns)] [] = .ok (.r 1) (dk2 (cells2 ns) q 0 []) ∧ q.length = (cells2 ns).length := by
  refine ⟨(cells2 ns).map fun i => i * (if decide ((10 : Int) ^ 18 ≤ i) = true then 1 else 0), ?_, by rw [List.length_map]⟩
  rw [runB_eq rfl]
  have hl := cells2_len ns
  have hb : ((64 : Nat) ≤ LINE) := by decide
  have p18 : ∀ M, binV true .pow (.d (.int 10)) (.d (.int 18)) M = .ok (.d (.int (10 ^ 18))) M := fun M => b_pow (by decide) (by decide) (by decide)
  have hk : ∀ b : Bool, -4611686018427387904 < (if b = true then (1 : Int) else 0) ∧ (if b = true then (1 : Int) else 0) < 4611686018427387904 ∧ 1 * (if b = true then (1 : Int) else 0).toNat ≤ 16777216 := by decide
  have e1 := b_mull (x := [.int 0]) (m := []) (hk (decide (((ns.length : Nat) : Int) = 0))).1 (hk _).2.1 (hk _).2.2
  have e2 : (List.map D.int (cut ns none (some 63))).length + (rep [D.int 0] (if decide (((ns.length : Nat) : Int) = 0) = true then (1 : Int) else 0).toNat).length ≤ 16777216 := by
    have : (cells2 ns).length = (List.map D.int (cut ns none (some 63))).length + (rep [D.int 0] (if decide (((ns.length : Nat) : Int) = 0) = true then (1 : Int) else 0).toNat).length := by
      unfold cells2
      rw [List.length_append, List.length_map, rep_lenA, rep_lenA]
      rfl
    omega
  have e3 := b_addl (m := []) e2
  have e4 : List.map D.int (cut ns none (some 63)) ++ rep [D.int 0] (if decide (((ns.length : Nat) : Int) = 0) = true then (1 : Int) else 0).toNat = (cells2 ns).map .int := by
    unfold cells2
    rw [List.map_append, ← rep_map]
    rfl
  rw [e4] at e3
  simp (disch := first | omega | (simp only [List.length_append, List.length_cons, List.length_nil]; omega)) only [drawsB, xs_cons, xs_nil, nxt_nx, nxt_rt, nxt_bk, nxt_ct, x_asg, x_set, x_aug, au_i, au_s, x_ex, x_ret, x_iff, x_forr, x_whil, x_par, x_pass, x_brk, x_cnt, q_var, gv, q_con, q_glo, q_tup, q_lst, q_bin, neg_i, q_cmp, q_and, q_or, q_not, q_ite, q_idx, ik_r, ik_s, ik_l, ik_t, ik_ds, c_ind, q_dct, q_slc, pv_t, pv_f, q_rev, q_call, q_bi, q_mth, q_isi, q_cmpr, q_nil, q_cons, y_ex, y_rng, y_rng3, turn_nm, lturn_nm, lturn_tup, forL_wkL, fd_nil, fd_cons, fx_nx, fx_ct, fx_bk, fx_rt, as_nm, as_tup, as_tupl, as_nil, as_cons, wp_nil, wp_cons, pa_nil', pa_cons', List.map_cons, List.map_nil, List.replicate, List.cons_append, List.nil_append, Nat.reduceSub, Nat.reduceAdd, List.getElem?_cons_zero, List.getElem?_cons_succ, List.set_cons_zero, List.set_cons_succ, r_ok, r_opt, b_add, b_sub, b_mul, b_div, b_mod, b_adds, c_lt, c_le, c_gt, c_ge, c_eq, c_ne, c_eqs, c_nes, c_ins, c_nis, v_b, t_b, l_s, l_l, l_t, i_s, i_l, i_t, m_t, m_r, dt_n, dt_c, datas_map, o_some, ob_some, w_rng, w_rng3, w_str, w_tup, w_lst, sl_s, sl_t, sl_l, n_b, n_i, tu_l, mn_i, k_s, k_i, k_b, k_t, decide_true, decide_false, Bool.not_true, Bool.not_false, q_chn, c_eqb, c_neb, c_isb, c_inb, c_isN, c_inN, al_l, an_l, or_s, k_n, k_l, rv_t, t_n, q_not', sl_c (z := true), li_l, len_scr, e1, e3]
  rw [compL_wkL, comp_map (g := fun v => match v with
    | .d (.int i) => .d (.int (i * (if decide ((10 : Int) ^ 18 ≤ i) = true then 1 else 0)))
    | v => v)]
  · simp (disch := first | omega | (simp only [List.length_append, List.length_cons, List.length_nil]; omega)) only [xs_cons, xs_nil, nxt_nx, nxt_rt, nxt_bk, nxt_ct, x_asg, x_set, x_aug, au_i, au_s, x_ex, x_ret, x_iff, x_forr, x_whil, x_par, x_pass, x_brk, x_cnt, q_var, gv, q_con, q_glo, q_tup, q_lst, q_bin, neg_i, q_cmp, q_and, q_or, q_not, q_ite, q_idx, ik_r, ik_s, ik_l, ik_t, ik_ds, c_ind, q_dct, q_slc, pv_t, pv_f, q_rev, q_call, q_bi, q_mth, q_isi, q_cmpr, q_nil, q_cons, y_ex, y_rng, y_rng3, turn_nm, lturn_nm, lturn_tup, forL_wkL, fd_nil, fd_cons, fx_nx, fx_ct, fx_bk, fx_rt, as_nm, as_tup, as_tupl, as_nil, as_cons, wp_nil, wp_cons, pa_nil', pa_cons', List.map_cons, List.map_nil, List.replicate, List.cons_append, List.nil_append, Nat.reduceSub, Nat.reduceAdd, List.getElem?_cons_zero, List.getElem?_cons_succ, List.set_cons_zero, List.set_cons_succ, r_ok, r_opt, b_add, b_sub, b_mul, b_div, b_mod, b_adds, c_lt, c_le, c_gt, c_ge, c_eq, c_ne, c_eqs, c_nes, c_ins, c_nis, v_b, t_b, l_s, l_l, l_t, i_s, i_l, i_t, m_t, m_r, dt_n, dt_c, datas_map, o_some, ob_some, w_rng, w_rng3, w_str, w_tup, w_lst, sl_s, sl_t, sl_l, n_b, n_i, tu_l, mn_i, k_s, k_i, k_b, k_t, decide_true, decide_false, Bool.not_true, Bool.not_false, q_chn, c_eqb, c_neb, c_isb, c_inb, c_isN, c_inN, al_l, an_l, or_s, k_n, k_l, rv_t, t_n, q_not', List.length_nil, List.length_cons]
    unfold dk2
    rw [List.map_map, List.map_map, List.map_map]
    rfl
  · intro v hv
    obtain ⟨d, hd, rfl⟩ := List.mem_map.mp hv
    obtain ⟨i, hi, rfl⟩ := List.mem_map.mp hd
    have hm : ∀ b : Bool, -18446744073709551616 < (if b = true then (1 : Int) else 0) ∧ (if b = true then (1 : Int) else 0) < 18446744073709551616 := by decide
    have e5 : ∀ b : Bool, binV true .mul (.d (.int i)) (.d (.int (if b = true then (1 : Int) else 0))) [] = .ok (.d (.int (i * (if b = true then (1 : Int) else 0)))) [] := fun b => b_mul (.inr (hm b))
    simp (disch := first | omega | (simp only [List.length_append, List.length_cons, List.length_nil]; omega)) only [xs_cons, xs_nil, nxt_nx, nxt_rt, nxt_bk, nxt_ct, x_asg, x_set, x_aug, au_i, au_s, x_ex, x_ret, x_iff, x_forr, x_whil, x_par, x_pass, x_brk, x_cnt, q_var, gv, q_con, q_glo, q_tup, q_lst, q_bin, neg_i, q_cmp, q_and, q_or, q_not, q_ite, q_idx, ik_r, ik_s, ik_l, ik_t, ik_ds, c_ind, q_dct, q_slc, pv_t, pv_f, q_rev, q_call, q_bi, q_mth, q_isi, q_cmpr, q_nil, q_cons, y_ex, y_rng, y_rng3, turn_nm, lturn_nm, lturn_tup, forL_wkL, fd_nil, fd_cons, fx_nx, fx_ct, fx_bk, fx_rt, as_nm, as_tup, as_tupl, as_nil, as_cons, wp_nil, wp_cons, pa_nil', pa_cons', List.map_cons, List.map_nil, List.replicate, List.cons_append, List.nil_append, Nat.reduceSub, Nat.reduceAdd, List.getElem?_cons_zero, List.getElem?_cons_succ, List.set_cons_zero, List.set_cons_succ, r_ok, r_opt, b_add, b_sub, b_mul, b_div, b_mod, b_adds, c_lt, c_le, c_gt, c_ge, c_eq, c_ne, c_eqs, c_nes, c_ins, c_nis, v_b, t_b, l_s, l_l, l_t, i_s, i_l, i_t, m_t, m_r, dt_n, dt_c, datas_map, o_some, ob_some, w_rng, w_rng3, w_str, w_tup, w_lst, sl_s, sl_t, sl_l, n_b, n_i, tu_l, mn_i, k_s, k_i, k_b, k_t, decide_true, decide_false, Bool.not_true, Bool.not_false, q_chn, c_eqb, c_neb, c_isb, c_inb, c_isN, c_inN, al_l, an_l, or_s, k_n, k_l, rv_t, t_n, q_not', p18, e5]
  · simp
    omega
/-- an item of a list of numbers, at a turn -/
theorem at_ints {α : Type} {f : Int → α} {xs : List Int} {i : Nat} (h : i < xs.length) : ∃ x, atL (xs.map f) ((i : Nat) : Int) = some (f x) ∧ xs[i]? = some x := by
  refine ⟨xs[i], ?_, List.getElem?_eq_getElem h⟩
  rw [at_lit (by rw [List.length_map]; exact h), List.getElem?_map, List.getElem?_eq_getElem h]
  rfl
theorem next_ok (C : Cal) (k : DK2) (r : Mem) {n : Nat} {m : Int} (hn : n < 2 ^ 40) (hm : 0 < m) (hm2 : m < 4611686018427387904) : ∃ (v : Int) (k' : DK2), runB C ⟨2, 10, false, nextB⟩ [.r 1, .d (.int m)] (dk2 k.c k.q (n : Int) r) = .ok (.d (.int v)) (dk2 k'.c k'.q ((n : Int) + 1) r) ∧ 0 ≤ v ∧ v < m := by
  obtain ⟨c, q, hq, h0⟩ := k
  dsimp only
  have sl : ixOf [Val.d (.lst (c.map .int)), Val.d (.int (n : Int)), Val.r 0].length 1 = some 1 := rfl
  have st : ∀ {k : Int}, [Val.d (.lst (c.map .int)), Val.d (.int (n : Int)), Val.r 0].set 1 (.d (.int k)) = [Val.d (.lst (c.map .int)), Val.d (.int k), Val.r 0] := rfl
  have d0 : ∀ {k : Int}, (dk2 c q k r)[0]? = some (.lst (q.map fun i => .d (.int i))) := rfl
  have d1 : ∀ {k : Int}, (dk2 c q k r)[1]? = some (.lst [.d (.lst (c.map .int)), .d (.int k), .r 0]) := rfl
  have ds : ∀ {k l : Int}, (dk2 c q k r).set 1 (.lst [.d (.lst (c.map .int)), .d (.int l), .r 0]) = dk2 c q l r := rfl
  have dc : ∀ {k l : Int} {j : Nat}, (dk2 c q k r).set 0 (.lst ((q.map fun i => Val.d (.int i)).set j (.d (.int l)))) = dk2 c (q.set j l) k r := by
    intro k l j
    rw [show ((q.map fun i => Val.d (.int i)).set j (.d (.int l))) = (q.set j l).map fun i => Val.d (.int i) from List.map_set.symm]
    rfl
  have tg : ∀ {s : Slots}, asgT (dk2 c q (n : Int) r) (.tup (.cons (.nm 6) (.cons (.nm 7) (.cons (.nm 8) .nil)))) (.r 1) s = some (((s.set 6 (some (.d (.lst (c.map .int))))).set 7 (some (.d (.int (n : Int))))).set 8 (some (.r 0))) := by
    intro s
    rfl
  have hi : n % c.length < c.length := Nat.mod_lt _ h0
  have im : ((n : Nat) : Int) % ((c.length : Nat) : Int) = ((n % c.length : Nat) : Int) := rfl
  obtain ⟨y, ey, _⟩ := at_ints (f := fun i => Val.d (.int i)) (xs := q) (i := n % c.length) (by rw [hq]; exact hi)
  obtain ⟨x, ex, _⟩ := at_ints (f := D.int) (xs := c) hi
  have ix : ixOf q.length ((n % c.length : Nat) : Int) = some (n % c.length) := by
    unfold ixOf
    rw [if_pos (by omega), if_pos (by omega)]
    rfl
  have lc : ((c.map D.int).length : Nat) = c.length := List.length_map ..
  have hB : (n : Int) < 1099511627776 := by omega
  by_cases hy : 0 < y
  · have z : decide ((0 : Int) < y) = true := decide_eq_true hy
    refine ⟨y % m, ⟨c, q.set (n % c.length) (y / m), by rw [List.length_set]; exact hq, h0⟩, ?_, Int.emod_nonneg _ (by omega), Int.emod_lt_of_pos _ hm⟩
    rw [runB_eq rfl]
    simp (disch := omega) only [nextB, xs_cons, xs_nil, nxt_nx, nxt_rt, nxt_bk, nxt_ct, x_asg, x_set, x_aug, au_i, au_s, x_ex, x_ret, x_iff, x_forr, x_whil, x_par, x_pass, x_brk, x_cnt, q_var, gv, q_con, q_glo, q_tup, q_lst, q_bin, neg_i, q_cmp, q_and, q_or, q_not, q_ite, q_idx, ik_r, ik_s, ik_l, ik_t, ik_ds, c_ind, q_dct, q_slc, pv_t, pv_f, q_rev, q_call, q_bi, q_mth, q_isi, q_cmpr, q_nil, q_cons, y_ex, y_rng, y_rng3, turn_nm, lturn_nm, lturn_tup, forL_wkL, fd_nil, fd_cons, fx_nx, fx_ct, fx_bk, fx_rt, as_nm, as_tup, as_tupl, as_nil, as_cons, wp_nil, wp_cons, pa_nil', pa_cons', List.map_cons, List.map_nil, List.replicate, List.cons_append, List.nil_append, Nat.reduceSub, Nat.reduceAdd, List.getElem?_cons_zero, List.getElem?_cons_succ, List.set_cons_zero, List.set_cons_succ, r_ok, r_opt, b_add, b_sub, b_mul, b_div, b_mod, b_adds, c_lt, c_le, c_gt, c_ge, c_eq, c_ne, c_eqs, c_nes, c_ins, c_nis, v_b, t_b, l_s, l_l, l_t, i_s, i_l, i_t, m_t, m_r, dt_n, dt_c, datas_map, o_some, ob_some, w_rng, w_rng3, w_str, w_tup, w_lst, sl_s, sl_t, sl_l, n_b, n_i, tu_l, mn_i, k_s, k_i, k_b, k_t, decide_true, decide_false, Bool.not_true, Bool.not_false, q_chn, c_eqb, c_neb, c_isb, c_inb, c_isN, c_inN, al_l, an_l, or_s, k_n, k_l, rv_t, t_n, q_not', tg, List.length_map, im, s_r d1, sl, st, ds, i_r d0, ey, z, b_mod, b_div, s_r d0, ix, dc]
  · have z : decide ((0 : Int) < y) = false := decide_eq_false hy
    have b1 := Int.emod_nonneg x (show (2147483647 : Int) ≠ 0 by decide)
    have b2 := Int.emod_lt_of_pos x (show (0 : Int) < 2147483647 by decide)
    obtain ⟨pm, ep, hp⟩ : ∃ pm : Int, atL [D.int 2147483629, .int 2147483587, .int 2147483579, .int 2147483563, .int 2147483549, .int 2147483543, .int 2147483497] (((n : Nat) : Int) % 7) = some (.int pm) ∧ 0 < pm ∧ pm < 2147483648 := by
      have : n % 7 < 7 := Nat.mod_lt _ (by decide)
      have e : ((n : Nat) : Int) % 7 = ((n % 7 : Nat) : Int) := rfl
      rw [e]
      generalize n % 7 = j at this
      have : j = 0 ∨ j = 1 ∨ j = 2 ∨ j = 3 ∨ j = 4 ∨ j = 5 ∨ j = 6 := by omega
      rcases this with rfl | rfl | rfl | rfl | rfl | rfl | rfl <;> exact ⟨_, rfl, by decide, by decide⟩
    have p3 : ∀ M, binV true .pow (.d (.int (x % 2147483647 + 48271 * (n : Int) + 104729))) (.d (.int 3)) M = .ok (.d (.int ((x % 2147483647 + 48271 * (n : Int) + 104729) ^ 3))) M := fun M => b_pow (by decide) (by decide) (by omega)
    generalize hmx : (x % 2147483647 + 48271 * (n : Int) + 104729) ^ 3 = mx at p3
    have b3 := Int.emod_nonneg mx (show pm ≠ 0 by omega)
    have b4 := Int.emod_lt_of_pos mx hp.1
    have p2 : ∀ M, binV true .pow (.d (.int (mx % pm + 7919 * (n : Int)))) (.d (.int 2)) M = .ok (.d (.int ((mx % pm + 7919 * (n : Int)) ^ 2))) M := fun M => b_pow (by decide) (by decide) (by omega)
    generalize hmo : (mx % pm + 7919 * (n : Int)) ^ 2 = mo at p2
    refine ⟨(mo % 2147483477 * 2147483423 + mx % pm) % 4611686018427387847 % m, ⟨c, q, hq, h0⟩, ?_, Int.emod_nonneg _ (by omega), Int.emod_lt_of_pos _ hm⟩
    rw [runB_eq rfl]
    simp (disch := omega) only [nextB, xs_cons, xs_nil, nxt_nx, nxt_rt, nxt_bk, nxt_ct, x_asg, x_set, x_aug, au_i, au_s, x_ex, x_ret, x_iff, x_forr, x_whil, x_par, x_pass, x_brk, x_cnt, q_var, gv, q_con, q_glo, q_tup, q_lst, q_bin, neg_i, q_cmp, q_and, q_or, q_not, q_ite, q_idx, ik_r, ik_s, ik_l, ik_t, ik_ds, c_ind, q_dct, q_slc, pv_t, pv_f, q_rev, q_call, q_bi, q_mth, q_isi, q_cmpr, q_nil, q_cons, y_ex, y_rng, y_rng3, turn_nm, lturn_nm, lturn_tup, forL_wkL, fd_nil, fd_cons, fx_nx, fx_ct, fx_bk, fx_rt, as_nm, as_tup, as_tupl, as_nil, as_cons, wp_nil, wp_cons, pa_nil', pa_cons', List.map_cons, List.map_nil, List.replicate, List.cons_append, List.nil_append, Nat.reduceSub, Nat.reduceAdd, List.getElem?_cons_zero, List.getElem?_cons_succ, List.set_cons_zero, List.set_cons_succ, r_ok, r_opt, b_add, b_sub, b_mul, b_div, b_mod, b_adds, c_lt, c_le, c_gt, c_ge, c_eq, c_ne, c_eqs, c_nes, c_ins, c_nis, v_b, t_b, l_s, l_l, l_t, i_s, i_l, i_t, m_t, m_r, dt_n, dt_c, datas_map, o_some, ob_some, w_rng, w_rng3, w_str, w_tup, w_lst, sl_s, sl_t, sl_l, n_b, n_i, tu_l, mn_i, k_s, k_i, k_b, k_t, decide_true, decide_false, Bool.not_true, Bool.not_false, q_chn, c_eqb, c_neb, c_isb, c_inb, c_isN, c_inN, al_l, an_l, or_s, k_n, k_l, rv_t, t_n, q_not', tg, List.length_map, im, s_r d1, sl, st, ds, i_r d0, ey, z, ex, ep, p3, p2]
/-- the deck, n draws behind its start -/
abbrev dm (k : DK2) (n : Nat) (r : Mem) : Mem := dk2 k.c k.q (n : Int) r
def FD2 : Fam := ⟨DK2, fun k n => dm k n [], 2, fun _ _ => rfl, 1⟩
def nTab (df : Nat) : ATab := dTab df
theorem dm_of {g : DK2} {n : Nat} {r t m : Mem} (e : m = FD2.mem g n ++ r ++ t) : m = dm g n (r ++ t) := by
  rw [e]
  show dm g n [] ++ r ++ t = _
  simp [dk2]
theorem nTab_ok {p : PT} {Pg : Prog} {df : Nat} (hd : Pg.fn df = some ⟨2, 10, false, nextB⟩) : TabOk FD2 p Pg (nTab df) := by
  intro r0 k f as P r ρ m n vs h hm hb g
  unfold nTab dTab at h
  split at h
  · rename_i hf
    have hf := beq_iff_eq.mp hf
    subst hf
    split at h
    · rename_i s
      obtain ⟨⟨x, y⟩, h1, h⟩ := ob h
      split at h
      · rename_i hc
        cases h
        obtain ⟨v, w, rfl, g1, d, rfl, g2⟩ := hV2 g
        obtain ⟨i, rfl, i1, i2⟩ := asInt_ok h1 g2
        have g1 : v = .r 1 := g1
        subst g1
        dsimp only at hb hc ⊢
        obtain ⟨κ, r, em⟩ := hm.ex
        have em' := dm_of em
        have hB : BIG = 1073741824 := rfl
        obtain ⟨u, κ', e1, b0, b1⟩ := next_ok ⟨callN Pg k, Pg.glo, WF⟩ κ (r0 ++ r) (n := n) (m := i) (by omega) (by omega) (by omega)
        have e : callN Pg (k + 1) f [.r 1, .d (.int i)] m = .ok (.d (.int u)) (dk2 κ'.c κ'.q ((n : Int) + 1) (r0 ++ r)) := by
          rw [call_imp hd rfl, em']
          exact e1
        refine ⟨_, _, ρ, n + 1, e, ⟨⟨κ', r, ?_⟩, hm.len, hm.nd, hm.ge, ?_⟩, .refl, ⟨_, rfl, hasInt b0 (by omega)⟩, by omega, Nat.le_refl _⟩
        · show _ = dm κ' (n + 1) [] ++ r0 ++ r
          rw [show ((n : Int) + 1) = ((n + 1 : Nat) : Int) by omega]
          simp [dk2]
        · intro j i' s' e1 e2
          obtain ⟨ds, f1, f2⟩ := hm.at_ j i' s' e1 e2
          refine ⟨ds, ?_, f2⟩
          have hi : 2 ≤ i' := by
            have := hm.ge i' (List.mem_of_getElem? e1)
            have : FD2.len = 2 := rfl
            omega
          rw [em'] at f1
          obtain ⟨q, rfl⟩ : ∃ q, i' = q + 2 := ⟨i' - 2, by omega⟩
          exact f1
      · cases h
    · cases h
  · cases h
theorem mrN {p : PT} {κ : DK2} {n : Nat} {r : Mem} : MR FD2 p r [] [] (dm κ n r) n := ⟨⟨κ, [], by simp [FD2, dk2]⟩, rfl, List.nodup_nil, (fun _ h => by cases h), (fun _ _ _ h => by simp at h)⟩
theorem next_exR {Pg : Prog} {df : Nat} (hd : Pg.fn df = some ⟨2, 10, false, nextB⟩) (k : Nat) (κ : DK2) (r : Mem) {n : Nat} {m : Int} (h1 : n < 1000000000) (m0 : 0 < m) (m1 : m < 4611686018427387904) : ∃ (v : Nat) (κ' : DK2), callN Pg (k + 1) df [.r 1, .d (.int m)] (dm κ n r) = .ok (.d (.int (v : Nat))) (dm κ' (n + 1) r) ∧ (v : Int) < m := by
  obtain ⟨u, κ', e1, b0, b1⟩ := next_ok ⟨callN Pg k, Pg.glo, WF⟩ κ r (n := n) (m := m) (by omega) (by omega) (by omega)
  refine ⟨u.toNat, κ', ?_, by omega⟩
  rw [call_imp hd rfl]
  have e : ((u.toNat : Nat) : Int) = u := by omega
  rw [e]
  exact e1
section
variable {p : PT} {Pg : Prog} {H : Nat → Nat → Bool} {sp : Nat → Bool} {df k b : Nat} {S : ASl} {s : Slots} {κ : DK2} {n : Nat} {r : Mem} {B : Sts}
/-- statements that end in a return -/
theorem rt_run2 {f : Sh → Bool} (hd : Pg.fn df = some ⟨2, 10, false, nextB⟩) (h : rtOk f b (aSs ⟨aCallN Pg H noTab (nTab df) k, Pg.glo, sp⟩ B S []) = true) (hs : SlR FD2 p [] S s) (hb : n + b ≤ 1000000000) :
    ∃ (a : Sh) (d : D) (κ' : DK2) (n' : Nat) (t : Mem), exSs ⟨callN Pg k, Pg.glo, WF⟩ B s (dm κ n r) = .ok (.rt (.d d)) (dm κ' n' (r ++ t)) ∧ f a = true ∧ a.has p d ∧ n ≤ n' ∧ n' ≤ n + b := by
  obtain ⟨a, P, δ, h1, h2, h3⟩ := rtOk_ok h
  have hB : BIG = 1073741824 := rfl
  obtain ⟨fl, m1, ρ1, n1, e, g1, g2, g3, g4⟩ := aSs_ok (aCall_ok (p := p) noTab_ok k (nTab_ok hd)) B h1 (mrN (κ := κ) (n := n) (r := r)) hs (by dsimp only; omega)
  dsimp only at g3
  cases fl with
  | nx s' => obtain ⟨_, _, q, _⟩ := g4; cases q
  | bk s' => obtain ⟨_, _, q, _⟩ := g4; cases q
  | ct s' => obtain ⟨_, _, q, _⟩ := g4; cases q
  | rt v =>
    obtain ⟨A, P2, q1, q2, q3⟩ := g4
    cases q1
    obtain ⟨d, rfl, q4⟩ := q3 _ rfl
    obtain ⟨c', t, e2⟩ := q2.ex
    exact ⟨a, d, c', n1, t, by rw [← dm_of e2]; exact e, h2, q4, g2, by omega⟩
/-- statements that go on -/
theorem nx_run2 {f : ASl → APl → Bool} (hd : Pg.fn df = some ⟨2, 10, false, nextB⟩) (h : nxOk f b (aSs ⟨aCallN Pg H noTab (nTab df) k, Pg.glo, sp⟩ B S []) = true) (hs : SlR FD2 p [] S s) (hb : n + b ≤ 1000000000) :
    ∃ (S' : ASl) (P' : APl) (s' : Slots) (κ' : DK2) (n' : Nat) (t : Mem) (ρ : List Nat), exSs ⟨callN Pg k, Pg.glo, WF⟩ B s (dm κ n r) = .ok (.nx s') (dm κ' n' (r ++ t)) ∧ f S' P' = true ∧ MR FD2 p r ρ P' (dm κ' n' (r ++ t)) n' ∧ SlR FD2 p ρ S' s' ∧ n ≤ n' ∧ n' ≤ n + b := by
  obtain ⟨a, P, δ, h1, h2, h3⟩ := nxOk_ok h
  have hB : BIG = 1073741824 := rfl
  obtain ⟨fl, m1, ρ1, n1, e, g1, g2, g3, g4⟩ := aSs_ok (aCall_ok (p := p) noTab_ok k (nTab_ok hd)) B h1 (mrN (κ := κ) (n := n) (r := r)) hs (by dsimp only; omega)
  dsimp only at g3
  cases fl with
  | rt s' => obtain ⟨_, _, q, _⟩ := g4; cases q
  | bk s' => obtain ⟨_, _, q, _⟩ := g4; cases q
  | ct s' => obtain ⟨_, _, q, _⟩ := g4; cases q
  | nx s' =>
    obtain ⟨S2, P2, q1, q2, q3⟩ := g4
    cases q1
    obtain ⟨c', t, e2⟩ := q2.ex
    have e3 := dm_of e2
    exact ⟨_, _, s', c', n1, t, ρ1, by rw [← e3]; exact e, h2, by rw [← e3]; exact q2, q3, g2, by omega⟩
end
end Rf

namespace Rf
/-! ### repr tells data apart -/
def encC (q c : Nat) : List Nat := PySem.Builtin.Str.reprChar q c
theorem enc_free : ∀ q, q = 39 ∨ q = 34 → ∀ c, c < 128 → ∀ d, d < 128 → (encC q c).isPrefixOf (encC q d) = true → c = d := by
  rintro q (rfl | rfl) <;> decide +kernel
theorem enc_head : ∀ q, q = 39 ∨ q = 34 → ∀ c, c < 128 → (encC q c).isEmpty = false ∧ (encC q c).head? ≠ some q := by
  rintro q (rfl | rfl) <;> decide +kernel
theorem enc_inj {q : Nat} (hq : q = 39 ∨ q = 34) {c d : Nat} {x y : List Nat} (hc : c < 128) (hd : d < 128) (h : encC q c ++ x = encC q d ++ y) : c = d ∧ x = y := by
  have e : c = d := by
    rcases List.prefix_or_prefix_of_prefix (List.prefix_append (encC q c) x) (h ▸ List.prefix_append (encC q d) y) with h1 | h1
    · exact enc_free q hq c hc d hd (List.isPrefixOf_iff_prefix.mpr h1)
    · exact (enc_free q hq d hd c hc (List.isPrefixOf_iff_prefix.mpr h1)).symm
  subst e
  exact ⟨rfl, List.append_cancel_left h⟩
theorem flat_inj {q : Nat} (hq : q = 39 ∨ q = 34) : ∀ {s t x y : List Nat}, (∀ c ∈ s, c < 128) → (∀ c ∈ t, c < 128) → s.flatMap (encC q) ++ q :: x = t.flatMap (encC q) ++ q :: y → s = t ∧ x = y
  | [], [], x, y, _, _, h => by simp at h; exact ⟨rfl, h⟩
  | [], d :: t, x, y, _, ht, h => by
    obtain ⟨h1, h2⟩ := enc_head q hq d (ht d List.mem_cons_self)
    rw [List.flatMap_nil, List.flatMap_cons] at h
    cases he : encC q d with
    | nil => rw [he] at h1; cases h1
    | cons a l =>
      rw [he] at h h2
      have : q = a := by simpa using (List.cons.inj h).1
      subst this
      exact (h2 rfl).elim
  | c :: s, [], x, y, hs, _, h => by
    obtain ⟨h1, h2⟩ := enc_head q hq c (hs c List.mem_cons_self)
    rw [List.flatMap_nil, List.flatMap_cons] at h
    cases he : encC q c with
    | nil => rw [he] at h1; cases h1
    | cons a l =>
      rw [he] at h h2
      have : a = q := by simpa using (List.cons.inj h).1
      subst this
      exact (h2 rfl).elim
  | c :: s, d :: t, x, y, hs, ht, h => by
    rw [List.flatMap_cons, List.flatMap_cons, List.append_assoc, List.append_assoc] at h
    obtain ⟨rfl, g1⟩ := enc_inj hq (hs c List.mem_cons_self) (ht d List.mem_cons_self) h
    obtain ⟨rfl, g2⟩ := flat_inj hq (fun c hc => hs c (List.mem_cons_of_mem _ hc)) (fun c hc => ht c (List.mem_cons_of_mem _ hc)) g1
    exact ⟨rfl, g2⟩
theorem rQ_or (s : List Nat) : rQ s = 39 ∨ rQ s = 34 := by
  unfold rQ
  split
  · exact .inr rfl
  · exact .inl rfl
theorem rS_inj {s t x y : List Nat} (hs : ∀ c ∈ s, c < 128) (ht : ∀ c ∈ t, c < 128) (h : rS s ++ x = rS t ++ y) : s = t ∧ x = y := by
  unfold rS at h
  rw [List.cons_append, List.cons_append] at h
  obtain ⟨h1, h2⟩ := List.cons.inj h
  rw [← h1, List.append_assoc, List.append_assoc] at h2
  exact flat_inj (rQ_or s) hs ht h2
/-- what may stand behind a thing shown -/
def Trm (x : List Nat) : Prop := ∀ c, x.head? = some c → c = 44 ∨ c = 41 ∨ c = 93
theorem trm_dig {x : List Nat} (h : Trm x) : ∀ c, x.head? = some c → ¬ (48 ≤ c ∧ c ≤ 57) := by
  intro c hc
  rcases h c hc with rfl | rfl | rfl <;> decide
theorem digs_inj : ∀ {s t x y : List Nat}, (∀ c ∈ s, 48 ≤ c ∧ c ≤ 57) → (∀ c ∈ t, 48 ≤ c ∧ c ≤ 57) → Trm x → Trm y → s ++ x = t ++ y → s = t ∧ x = y
  | [], [], x, y, _, _, _, _, h => ⟨rfl, h⟩
  | [], d :: t, x, y, _, ht, hx, _, h => by
    rw [List.nil_append] at h
    exact (trm_dig hx d (by rw [h]; rfl) (ht d List.mem_cons_self)).elim
  | c :: s, [], x, y, hs, _, _, hy, h => by
    rw [List.nil_append] at h
    exact (trm_dig hy c (by rw [← h]; rfl) (hs c List.mem_cons_self)).elim
  | c :: s, d :: t, x, y, hs, ht, hx, hy, h => by
    obtain ⟨rfl, g3⟩ := List.cons.inj h
    obtain ⟨rfl, g4⟩ := digs_inj (fun c hc => hs c (List.mem_cons_of_mem _ hc)) (fun c hc => ht c (List.mem_cons_of_mem _ hc)) hx hy g3
    exact ⟨rfl, g4⟩
theorem num_cases (i : Int) : (∃ k : Nat, i = (k : Int) ∧ numText i = nd k) ∨ (∃ k : Nat, i = -((k : Int) + 1) ∧ numText i = 45 :: nd (k + 1)) := by
  cases i with
  | ofNat k => exact .inl ⟨k, rfl, numText_nd k⟩
  | negSucc k =>
    refine .inr ⟨k, by omega, ?_⟩
    rw [← toDigits_nd]
    unfold numText
    simp [toString, Int.repr, Nat.repr, String.toList_append]
theorem nd_inj {k l : Nat} (h : nd k = nd l) : k = l := by rw [← dig_nd k, h, dig_nd]
theorem num_inj {i j : Int} {x y : List Nat} (hx : Trm x) (hy : Trm y) (h : numText i ++ x = numText j ++ y) : i = j ∧ x = y := by
  have first : ∀ (k : Nat) (u v : List Nat), nd k ++ u = 45 :: v → False := by
    intro k u v e
    cases hn : nd k with
    | nil => exact nd_ne k hn
    | cons c l =>
      rw [hn] at e
      have := nd_dig k c (by rw [hn]; exact List.mem_cons_self)
      have := (List.cons.inj e).1
      omega
  rcases num_cases i with ⟨k, rfl, e1⟩ | ⟨k, rfl, e1⟩ <;> rcases num_cases j with ⟨l, rfl, e2⟩ | ⟨l, rfl, e2⟩ <;> rw [e1, e2] at h
  · obtain ⟨a, b⟩ := digs_inj (nd_dig k) (nd_dig l) hx hy h
    exact ⟨by rw [nd_inj a], b⟩
  · exact (first _ _ _ h).elim
  · exact (first _ _ _ h.symm).elim
  · obtain ⟨a, b⟩ := digs_inj (nd_dig (k + 1)) (nd_dig (l + 1)) hx hy (List.cons.inj h).2
    have := nd_inj a
    exact ⟨by omega, b⟩
mutual
/-- plain data of signs below 128 -/
def D.as : D → Bool
  | .non => true
  | .bl _ => true
  | .int _ => true
  | .str s => s.all fun c => decide (c < 128)
  | .tup xs => D.ass xs
  | .lst xs => D.ass xs
  | _ => false
def D.ass : List D → Bool
  | [] => true
  | x :: xs => D.as x && D.ass xs
end
/-- items behind the first one -/
def sqT (c : Nat) : List D → List Nat
  | [] => [c]
  | b :: r => 44 :: 32 :: (D.rp b ++ sqT c r)
theorem join_sq (c : Nat) : ∀ (a : D) (r : List D), joinL [44, 32] (D.rps (a :: r)) ++ [c] = D.rp a ++ sqT c r
  | a, [] => rfl
  | a, b :: r => by
    have ih := join_sq c b r
    show (D.rp a ++ [44, 32] ++ joinL [44, 32] (D.rps (b :: r))) ++ [c] = D.rp a ++ (44 :: 32 :: (D.rp b ++ sqT c r))
    rw [← ih]
    simp
theorem rp_lst0 (xs : List D) : D.rp (.lst xs) = 91 :: (joinL [44, 32] (D.rps xs) ++ [93]) := by rw [D.rp]
theorem rp_tup0 (xs : List D) : D.rp (.tup xs) = 40 :: (joinL [44, 32] (D.rps xs) ++ (if xs.length = 1 then [44, 41] else [41])) := by rw [D.rp]
theorem rp_lst (xs : List D) : D.rp (.lst xs) = 91 :: (match xs with
    | [] => [93]
    | a :: r => D.rp a ++ sqT 93 r) := by
  rw [rp_lst0]
  cases xs with
  | nil => rfl
  | cons a r => rw [join_sq]
theorem rp_tup (xs : List D) : D.rp (.tup xs) = 40 :: (match xs with
    | [] => [41]
    | [a] => D.rp a ++ [44, 41]
    | a :: b :: r => D.rp a ++ sqT 41 (b :: r)) := by
  rw [rp_tup0]
  cases xs with
  | nil => rfl
  | cons a r =>
    cases r with
    | nil => rfl
    | cons b r =>
      show 40 :: (joinL [44, 32] (D.rps (a :: b :: r)) ++ [41]) = _
      rw [join_sq]
/-- the first sign shown tells the kind -/
def hdK : D → Nat → Bool
  | .non, c => c == 78
  | .bl _, c => c == 84 || c == 70
  | .int _, c => c == 45 || (decide (48 ≤ c) && decide (c ≤ 57))
  | .str _, c => c == 39 || c == 34
  | .tup _, c => c == 40
  | .lst _, c => c == 91
  | _, _ => false
theorem hd_ok {d : D} (h : D.as d = true) : ∃ c l, D.rp d = c :: l ∧ hdK d c = true := by
  cases d with
  | non => exact ⟨_, _, rfl, rfl⟩
  | bl b => cases b <;> exact ⟨_, _, rfl, rfl⟩
  | int i =>
    rcases num_cases i with ⟨k, _, e⟩ | ⟨k, _, e⟩
    · unfold D.rp
      rw [e]
      cases hn : nd k with
      | nil => exact (nd_ne k hn).elim
      | cons c l =>
        have := nd_dig k c (by rw [hn]; exact List.mem_cons_self)
        refine ⟨c, l, rfl, ?_⟩
        show (c == 45 || (decide (48 ≤ c) && decide (c ≤ 57))) = true
        rw [decide_eq_true this.1, decide_eq_true this.2]
        simp
    · unfold D.rp
      rw [e]
      exact ⟨_, _, rfl, rfl⟩
  | str s =>
    unfold D.rp rS
    refine ⟨_, _, rfl, ?_⟩
    unfold hdK
    rcases rQ_or s with h | h <;> rw [h] <;> rfl
  | tup xs => rw [rp_tup]; exact ⟨_, _, rfl, rfl⟩
  | lst xs => rw [rp_lst]; exact ⟨_, _, rfl, rfl⟩
  | dct _ => cases h
  | set _ => cases h
  | scr _ => cases h
  | fn _ => cases h
  | obj _ _ => cases h
theorem hd_ne {d : D} {c : Nat} (h : hdK d c = true) : c ≠ 41 ∧ c ≠ 93 ∧ c ≠ 44 ∧ c ≠ 32 := by
  cases d with
  | non => have h : c = 78 := beq_iff_eq.mp h; omega
  | bl b =>
    have h : c = 84 ∨ c = 70 := by simpa [hdK] using h
    omega
  | int i =>
    have h : c = 45 ∨ (48 ≤ c ∧ c ≤ 57) := by simpa [hdK] using h
    omega
  | str s =>
    have h : c = 39 ∨ c = 34 := by simpa [hdK] using h
    omega
  | tup xs => have h : c = 40 := beq_iff_eq.mp h; omega
  | lst xs => have h : c = 91 := beq_iff_eq.mp h; omega
  | dct _ => cases h
  | set _ => cases h
  | scr _ => cases h
  | fn _ => cases h
  | obj _ _ => cases h
theorem rp_close {d : D} {c : Nat} {x y : List Nat} (h : D.as d = true) (hc : c = 41 ∨ c = 93) (e : D.rp d ++ x = c :: y) : False := by
  obtain ⟨k, l, e1, e2⟩ := hd_ok h
  rw [e1] at e
  have := (List.cons.inj e).1
  have := hd_ne e2
  omega
theorem trm_sq {c : Nat} (hc : c = 41 ∨ c = 93) (xs : List D) (x : List Nat) : Trm (sqT c xs ++ x) := by
  intro k hk
  cases xs with
  | nil => have : c = k := by simpa [sqT] using hk
           omega
  | cons b r => have : 44 = k := by simpa [sqT] using hk
                omega
theorem trm_c {c : Nat} (hc : c = 44 ∨ c = 41 ∨ c = 93) (x : List Nat) : Trm (c :: x) := by
  intro k hk
  have : c = k := by simpa using hk
  omega
mutual
theorem rp_inj : ∀ (a : D) {b : D} {x y : List Nat}, D.as a = true → D.as b = true → Trm x → Trm y → D.rp a ++ x = D.rp b ++ y → a = b ∧ x = y
  | .non, b, x, y, ha, hb, hx, hy, h => by
    obtain ⟨c, l, e1, e2⟩ := hd_ok hb
    rw [e1] at h
    have hc : 78 = c := (List.cons.inj h).1
    subst hc
    cases b <;> first | (cases e2; done) | skip
    exact ⟨rfl, List.append_cancel_left (as := D.rp .non) (by rw [e1] at h ⊢; exact h)⟩
  | .bl u, b, x, y, ha, hb, hx, hy, h => by
    obtain ⟨c, l, e1, e2⟩ := hd_ok hb
    have hc : c = 84 ∨ c = 70 := by
      rw [e1] at h
      cases u
      · exact .inr (List.cons.inj h).1.symm
      · exact .inl (List.cons.inj h).1.symm
    cases b with
    | bl w =>
      cases u <;> cases w
      · exact ⟨rfl, List.append_cancel_left h⟩
      · cases (List.cons.inj h).1
      · cases (List.cons.inj h).1
      · exact ⟨rfl, List.append_cancel_left h⟩
    | _ => rcases hc with rfl | rfl <;> cases e2
  | .int i, b, x, y, ha, hb, hx, hy, h => by
    obtain ⟨c, l, e1, e2⟩ := hd_ok hb
    obtain ⟨c', l', e3, e4⟩ := hd_ok ha
    have hc : c' = c := by
      rw [e1, e3] at h
      exact (List.cons.inj h).1
    have hc' : c' = 45 ∨ (48 ≤ c' ∧ c' ≤ 57) := by simpa [hdK] using e4
    subst hc
    cases b with
    | int j =>
      unfold D.rp at h
      obtain ⟨rfl, g5⟩ := num_inj hx hy h
      exact ⟨rfl, g5⟩
    | non => have : c' = 78 := beq_iff_eq.mp e2; omega
    | bl w => have : c' = 84 ∨ c' = 70 := by simpa [hdK] using e2
              omega
    | str w => have : c' = 39 ∨ c' = 34 := by simpa [hdK] using e2
               omega
    | tup w => have : c' = 40 := beq_iff_eq.mp e2; omega
    | lst w => have : c' = 91 := beq_iff_eq.mp e2; omega
    | _ => cases e2
  | .str s, b, x, y, ha, hb, hx, hy, h => by
    obtain ⟨c, l, e1, e2⟩ := hd_ok hb
    have hc : rQ s = c := by
      rw [e1] at h
      unfold D.rp rS at h
      exact (List.cons.inj h).1
    have hq := rQ_or s
    cases b with
    | str t =>
      unfold D.rp at h
      have as : ∀ c ∈ s, c < 128 := fun c hc => of_decide_eq_true (List.all_eq_true.mp ha c hc)
      have at_ : ∀ c ∈ t, c < 128 := fun c hc => of_decide_eq_true (List.all_eq_true.mp hb c hc)
      obtain ⟨rfl, g6⟩ := rS_inj as at_ h
      exact ⟨rfl, g6⟩
    | int j => have : c = 45 ∨ (48 ≤ c ∧ c ≤ 57) := by simpa [hdK] using e2
               omega
    | non => have : c = 78 := beq_iff_eq.mp e2; omega
    | bl w => have : c = 84 ∨ c = 70 := by simpa [hdK] using e2
              omega
    | tup w => have : c = 40 := beq_iff_eq.mp e2; omega
    | lst w => have : c = 91 := beq_iff_eq.mp e2; omega
    | _ => cases e2
  | .tup xs, b, x, y, ha, hb, hx, hy, h => by
    obtain ⟨c, l, e1, e2⟩ := hd_ok hb
    have hc : 40 = c := by
      rw [e1, rp_tup] at h
      exact (List.cons.inj h).1
    subst hc
    cases b <;> first | (cases e2; done) | skip
    rename_i ys
    rw [rp_tup, rp_tup] at h
    have h := (List.cons.inj h).2
    have ha : D.ass xs = true := ha
    have hb : D.ass ys = true := hb
    match xs, ys, ha, hb, h with
    | [], [], _, _, h => exact ⟨rfl, (List.cons.inj h).2⟩
    | [], [d], _, hb, h =>
      simp only [D.ass, Bool.and_true] at hb
      exact (rp_close hb (.inl rfl) (x := [44, 41] ++ y) (by rw [← List.append_assoc]; exact h.symm)).elim
    | [], d :: e :: r, _, hb, h =>
      simp only [D.ass, Bool.and_eq_true] at hb
      exact (rp_close hb.1 (.inl rfl) (x := sqT 41 (e :: r) ++ y) (by rw [← List.append_assoc]; exact h.symm)).elim
    | [a], [], ha, _, h =>
      simp only [D.ass, Bool.and_true] at ha
      exact (rp_close ha (.inl rfl) (x := [44, 41] ++ x) (by rw [← List.append_assoc]; exact h)).elim
    | a :: a2 :: r, [], ha, _, h =>
      simp only [D.ass, Bool.and_eq_true] at ha
      exact (rp_close ha.1 (.inl rfl) (x := sqT 41 (a2 :: r) ++ x) (by rw [← List.append_assoc]; exact h)).elim
    | [a], [d], ha, hb, h =>
      simp only [D.ass, Bool.and_true] at ha hb
      obtain ⟨rfl, g7⟩ := rp_inj a (x := [44, 41] ++ x) (y := [44, 41] ++ y) ha hb (trm_c (.inl rfl) _) (trm_c (.inl rfl) _) (by rw [← List.append_assoc, ← List.append_assoc]; exact h)
      exact ⟨rfl, List.append_cancel_left g7⟩
    | [a], d :: e :: r, ha, hb, h =>
      simp only [D.ass, Bool.and_true] at ha
      simp only [D.ass, Bool.and_eq_true] at hb
      obtain ⟨rfl, g8⟩ := rp_inj a (x := [44, 41] ++ x) (y := sqT 41 (e :: r) ++ y) ha hb.1 (trm_c (.inl rfl) _) (trm_sq (.inl rfl) _ _) (by rw [← List.append_assoc, ← List.append_assoc]; exact h)
      cases (List.cons.inj (List.cons.inj g8).2).1
    | a :: a2 :: r, [d], ha, hb, h =>
      simp only [D.ass, Bool.and_true] at hb
      simp only [D.ass, Bool.and_eq_true] at ha
      obtain ⟨rfl, g9⟩ := rp_inj a (x := sqT 41 (a2 :: r) ++ x) (y := [44, 41] ++ y) ha.1 hb (trm_sq (.inl rfl) _ _) (trm_c (.inl rfl) _) (by rw [← List.append_assoc, ← List.append_assoc]; exact h)
      cases (List.cons.inj (List.cons.inj g9).2).1
    | a :: a2 :: r, d :: e :: t, ha, hb, h =>
      have ha' := ha
      have hb' := hb
      unfold D.ass at ha hb
      rw [Bool.and_eq_true] at ha hb
      obtain ⟨rfl, g10⟩ := rp_inj a (x := sqT 41 (a2 :: r) ++ x) (y := sqT 41 (e :: t) ++ y) ha.1 hb.1 (trm_sq (.inl rfl) _ _) (trm_sq (.inl rfl) _ _) (by rw [← List.append_assoc, ← List.append_assoc]; exact h)
      obtain ⟨e1, g11⟩ := sq_inj (.inl rfl) (a2 :: r) ha.2 hb.2 g10
      rw [e1]
      exact ⟨rfl, g11⟩
  | .lst xs, b, x, y, ha, hb, hx, hy, h => by
    obtain ⟨c, l, e1, e2⟩ := hd_ok hb
    have hc : 91 = c := by
      rw [e1, rp_lst] at h
      exact (List.cons.inj h).1
    subst hc
    cases b <;> first | (cases e2; done) | skip
    rename_i ys
    rw [rp_lst, rp_lst] at h
    have h := (List.cons.inj h).2
    have ha : D.ass xs = true := ha
    have hb : D.ass ys = true := hb
    match xs, ys, ha, hb, h with
    | [], [], _, _, h => exact ⟨rfl, (List.cons.inj h).2⟩
    | [], d :: r, _, hb, h =>
      simp only [D.ass, Bool.and_eq_true] at hb
      exact (rp_close hb.1 (.inr rfl) (x := sqT 93 r ++ y) (by rw [← List.append_assoc]; exact h.symm)).elim
    | a :: r, [], ha, _, h =>
      simp only [D.ass, Bool.and_eq_true] at ha
      exact (rp_close ha.1 (.inr rfl) (x := sqT 93 r ++ x) (by rw [← List.append_assoc]; exact h)).elim
    | a :: r, d :: t, ha, hb, h =>
      unfold D.ass at ha hb
      rw [Bool.and_eq_true] at ha hb
      obtain ⟨rfl, g12⟩ := rp_inj a (x := sqT 93 r ++ x) (y := sqT 93 t ++ y) ha.1 hb.1 (trm_sq (.inr rfl) _ _) (trm_sq (.inr rfl) _ _) (by rw [← List.append_assoc, ← List.append_assoc]; exact h)
      obtain ⟨e1, g13⟩ := sq_inj (.inr rfl) r ha.2 hb.2 g12
      rw [e1]
      exact ⟨rfl, g13⟩
  | .dct _, b, x, y, ha, _, _, _, _ => by cases ha
  | .set _, b, x, y, ha, _, _, _, _ => by cases ha
  | .scr _, b, x, y, ha, _, _, _, _ => by cases ha
  | .fn _, b, x, y, ha, _, _, _, _ => by cases ha
  | .obj _ _, b, x, y, ha, _, _, _, _ => by cases ha
theorem sq_inj {c : Nat} (hc : c = 41 ∨ c = 93) : ∀ (xs : List D) {ys : List D} {x y : List Nat}, D.ass xs = true → D.ass ys = true → sqT c xs ++ x = sqT c ys ++ y → xs = ys ∧ x = y
  | [], [], x, y, _, _, h => ⟨rfl, (List.cons.inj h).2⟩
  | [], d :: r, x, y, _, _, h => by
    have := (List.cons.inj h).1
    omega
  | a :: r, [], x, y, _, _, h => by
    have := (List.cons.inj h).1
    omega
  | a :: r, d :: t, x, y, ha, hb, h => by
    unfold D.ass at ha hb
    rw [Bool.and_eq_true] at ha hb
    have h := (List.cons.inj (List.cons.inj h).2).2
    obtain ⟨rfl, g14⟩ := rp_inj a (x := sqT c r ++ x) (y := sqT c t ++ y) ha.1 hb.1 (trm_sq hc _ _) (trm_sq hc _ _) (by rw [← List.append_assoc, ← List.append_assoc]; exact h)
    obtain ⟨e1, g15⟩ := sq_inj hc r ha.2 hb.2 g14
    rw [e1]
    exact ⟨rfl, g15⟩
end
mutual
/-- no truths within -/
def D.nb : D → Bool
  | .non => true
  | .int _ => true
  | .str _ => true
  | .tup xs => D.nbs xs
  | .lst xs => D.nbs xs
  | _ => false
def D.nbs : List D → Bool
  | [] => true
  | x :: xs => D.nb x && D.nbs xs
end
mutual
theorem eq_refl : ∀ {d : D}, D.pl d = true → D.eq d d = true
  | .non, _ => rfl
  | .bl b, _ => by unfold D.eq; exact beq_self_eq_true b
  | .int i, _ => by unfold D.eq; exact beq_self_eq_true i
  | .str s, _ => by unfold D.eq; exact beq_self_eq_true s
  | .tup xs, h => by unfold D.eq; exact eqs_refl h
  | .lst xs, h => by unfold D.eq; exact eqs_refl h
  | .dct _, h => by cases h
  | .set _, h => by cases h
  | .scr _, h => by cases h
  | .fn _, h => by cases h
  | .obj _ _, h => by cases h
theorem eqs_refl : ∀ {ds : List D}, D.pls ds = true → D.eqs ds ds = true
  | [], _ => rfl
  | d :: ds, h => by
    unfold D.pls at h
    rw [Bool.and_eq_true] at h
    unfold D.eqs
    rw [eq_refl h.1, eqs_refl h.2]
    rfl
end
mutual
theorem eq_of_eq : ∀ {a b : D}, D.nb a = true → D.nb b = true → D.eq a b = true → a = b
  | .non, b, _, hb, h => by cases b <;> first | rfl | (cases hb; done) | (unfold D.eq at h; cases h)
  | .int i, b, _, hb, h => by
    cases b <;> first | (cases hb; done) | (unfold D.eq at h; first | (cases h; done) | (rw [beq_iff_eq.mp h]))
  | .str s, b, _, hb, h => by
    cases b <;> first | (cases hb; done) | (unfold D.eq at h; first | (cases h; done) | (rw [beq_iff_eq.mp h]))
  | .tup xs, b, ha, hb, h => by
    cases b <;> first | (cases hb; done) | (unfold D.eq at h; first | (cases h; done) | (rw [eqs_of_eqs ha hb h]))
  | .lst xs, b, ha, hb, h => by
    cases b <;> first | (cases hb; done) | (unfold D.eq at h; first | (cases h; done) | (rw [eqs_of_eqs ha hb h]))
  | .bl _, b, ha, _, _ => by cases ha
  | .dct _, b, ha, _, _ => by cases ha
  | .set _, b, ha, _, _ => by cases ha
  | .scr _, b, ha, _, _ => by cases ha
  | .fn _, b, ha, _, _ => by cases ha
  | .obj _ _, b, ha, _, _ => by cases ha
theorem eqs_of_eqs : ∀ {a b : List D}, D.nbs a = true → D.nbs b = true → D.eqs a b = true → a = b
  | [], [], _, _, _ => rfl
  | [], _ :: _, _, _, h => by cases h
  | _ :: _, [], _, _, h => by cases h
  | x :: xs, y :: ys, ha, hb, h => by
    unfold D.nbs at ha hb
    unfold D.eqs at h
    rw [Bool.and_eq_true] at ha hb h
    rw [eq_of_eq ha.1 hb.1 h.1, eqs_of_eqs ha.2 hb.2 h.2]
end
/-- shown alike just where they are alike -/
theorem rp_same {a b : D} (ha : D.as a = true) (hb : D.as b = true) (na : D.nb a = true) (nb : D.nb b = true) (pa : D.pl a = true) : (D.rp a == D.rp b) = D.eq a b := by
  rw [Bool.eq_iff_iff, beq_iff_eq]
  constructor
  · intro h
    have t0 : Trm [] := fun c hc => by cases hc
    have := (rp_inj a (x := []) (y := []) ha hb t0 t0 (by rw [h])).1
    subst this
    exact eq_refl pa
  · intro h
    rw [eq_of_eq na nb h]
mutual
theorem as_of : ∀ {d : D}, D.sh d = true → D.as d = true
  | .non, _ => rfl
  | .bl _, _ => rfl
  | .int _, _ => rfl
  | .str s, h => h
  | .tup xs, h => ass_of (ds := xs) h
  | .lst xs, h => ass_of (ds := xs) h
  | .dct _, h => by cases h
  | .set _, h => by cases h
  | .scr _, h => by cases h
  | .fn _, h => by cases h
  | .obj _ _, h => by cases h
theorem ass_of : ∀ {ds : List D}, D.shs ds = true → D.ass ds = true
  | [], _ => rfl
  | d :: ds, h => by
    unfold D.shs at h
    rw [Bool.and_eq_true] at h
    unfold D.ass
    rw [as_of h.1, ass_of h.2]
    rfl
end
mutual
def Sh.nbB : Sh → Bool
  | .bot => true
  | .con d => D.nb d
  | .bl => false
  | .int _ _ => true
  | .big => true
  | .str _ _ _ => true
  | .tup ss => Sh.nbBs ss
  | .tups _ _ s => s.nbB
  | .lst ss => Sh.nbBs ss
  | .lsts _ _ s => s.nbB
  | .nm _ => false
  | .or a b => a.nbB && b.nbB
def Sh.nbBs : List Sh → Bool
  | [] => true
  | s :: ss => s.nbB && Sh.nbBs ss
end
theorem nbs_of : ∀ {ds : List D}, (∀ x ∈ ds, D.nb x = true) → D.nbs ds = true
  | [], _ => rfl
  | d :: ds, h => by
    unfold D.nbs
    rw [Bool.and_eq_true]
    exact ⟨h d List.mem_cons_self, nbs_of fun x hx => h x (List.mem_cons_of_mem _ hx)⟩
mutual
theorem nbB_ok {p : PT} : ∀ {s : Sh} {d : D}, s.nbB = true → s.has p d → D.nb d = true
  | .bot, d, _, g => by unfold Sh.has at g; exact g.elim
  | .con e, d, h, g => by unfold Sh.has at g; subst g; exact h
  | .bl, d, h, g => by cases h
  | .int _ _, d, _, g => by unfold Sh.has at g; obtain ⟨b, rfl, _⟩ := g; rfl
  | .big, d, _, g => by unfold Sh.has at g; obtain ⟨b, rfl⟩ := g; rfl
  | .str _ _ _, d, _, g => by unfold Sh.has at g; obtain ⟨b, rfl, _⟩ := g; rfl
  | .tup ss, d, h, g => by
    unfold Sh.has at g
    obtain ⟨ds, rfl, g⟩ := g
    exact nbBs_ok (ss := ss) h g
  | .lst ss, d, h, g => by
    unfold Sh.has at g
    obtain ⟨ds, rfl, g⟩ := g
    exact nbBs_ok (ss := ss) h g
  | .tups _ _ s, d, h, g => by
    unfold Sh.has at g
    obtain ⟨ds, rfl, _, _, g⟩ := g
    exact nbs_of fun x hx => nbB_ok (s := s) h (g x hx)
  | .lsts _ _ s, d, h, g => by
    unfold Sh.has at g
    obtain ⟨ds, rfl, _, _, g⟩ := g
    exact nbs_of fun x hx => nbB_ok (s := s) h (g x hx)
  | .nm _, d, h, _ => by cases h
  | .or a b, d, h, g => by
    unfold Sh.nbB at h
    rw [Bool.and_eq_true] at h
    unfold Sh.has at g
    exact g.elim (nbB_ok h.1) (nbB_ok h.2)
theorem nbBs_ok {p : PT} : ∀ {ss : List Sh} {ds : List D}, Sh.nbBs ss = true → Sh.hasL p ss ds → D.nbs ds = true
  | [], ds, _, g => by unfold Sh.hasL at g; subst g; rfl
  | s :: ss, ds, h, g => by
    unfold Sh.hasL at g
    obtain ⟨x, r, rfl, g1, g2⟩ := g
    unfold Sh.nbBs at h
    rw [Bool.and_eq_true] at h
    unfold D.nbs
    rw [nbB_ok h.1 g1, nbBs_ok h.2 g2]
    rfl
end
/-- may be shown, and is told apart by what is shown -/
def Kin (d : D) : Prop := Nice d ∧ D.nb d = true
def Sh.kin (s : Sh) : Bool := s.nice && s.nbB
theorem kin_ok {p : PT} {s : Sh} {d : D} (h : s.kin = true) (g : s.has p d) : Kin d := by
  unfold Sh.kin at h
  rw [Bool.and_eq_true] at h
  exact ⟨nice_ok h.1 g, nbB_ok h.2 g⟩
theorem kin_rp {a b : D} (ha : Kin a) (hb : Kin b) : (D.rp a == D.rp b) = D.eq a b := rp_same (as_of ha.1.2.1) (as_of hb.1.2.1) ha.2 hb.2 ha.1.1
theorem kin_eqOk {a b : D} (ha : Kin a) (hb : Kin b) : eqOk a b = true := by
  unfold eqOk
  rw [ha.1.1, hb.1.1, decide_eq_true ha.1.2.2.1]
  rfl
end Rf

namespace Rf
/-! ### rules, still more -/
section
variable {C : Cal} {s : Slots} {m : Mem} {z : Bool}
theorem turn_tup {own : List Nat} {ts : Tgs} {c e : Ex} {x : Val} : turn C own (.tup ts) c e s (.v x) m = (R.opt (asgT m (.tup ts) x (wipeS s own)) m).bind fun s' m => (evE C c s' m).bind fun k m => match truth m k with
    | some true => (evE C e s' m).bind fun y m => .ok (some y) m
    | some false => .ok none m
    | none => .no := by
  show (match asgT m (.tup ts) x (wipeS s own) with
    | some s' => (evE C c s' m).bind fun k m => match truth m k with
      | some true => (evE C e s' m).bind fun y m => .ok (some y) m
      | some false => .ok none m
      | none => .no
    | none => .no) = _
  cases asgT m (.tup ts) x (wipeS s own) <;> rfl
theorem sp_s {x : List Nat} {c : Nat} (h : x.length + 2 ≤ 16777216) : mtV .split (.d (.str x)) [.d (.str [c])] m = .ok (.d (.lst ((splitC c x).map .str))) m := if_pos h
theorem j_t {sep : List Nat} {ss : List (List Nat)} (h : (ss.map List.length).sum + ss.length * sep.length ≤ 16777216) : mtV .join (.d (.str sep)) [.d (.tup (ss.map .str))] m = .ok (.d (.str (joinL sep ss))) m := by
  show (R.opt (strsD ((ss.map D.str).map .d)) m).bind (fun ss m => if (ss.map List.length).sum + ss.length * sep.length ≤ LINE then R.ok (Val.d (.str (joinL sep ss))) m else .no) = _
  have e : (ss.map D.str).map Val.d = ss.map fun s => Val.d (.str s) := by rw [List.map_map]; rfl
  rw [e, strs_map]
  exact if_pos h
theorem j_r {sep : List Nat} {ss : List (List Nat)} {i : Nat} (hi : m[i]? = some (.lst (ss.map fun s => Val.d (.str s)))) (h : (ss.map List.length).sum + ss.length * sep.length ≤ 16777216) : mtV .join (.d (.str sep)) [.r i] m = .ok (.d (.str (joinL sep ss))) m := by
  show (R.opt ((match m[i]? with
    | some (.lst vs) => some vs
    | _ => none).bind strsD) m).bind (fun ss m => if (ss.map List.length).sum + ss.length * sep.length ≤ LINE then R.ok (Val.d (.str (joinL sep ss))) m else .no) = _
  rw [hi]
  show (R.opt (strsD (ss.map fun s => Val.d (.str s))) m).bind _ = _
  rw [strs_map]
  exact if_pos h
theorem mx_i {i j : Int} : biV z .max2 [.d (.int i), .d (.int j)] m = .ok (.d (.int (if j > i then j else i))) m := nr rfl
theorem li_t {xs : List D} : biV true .list [.d (.tup xs)] m = .ok (.d (.lst xs)) m := by
  show mkL true (xs.map .d) m = _
  exact m_l (datas_map xs)
theorem tu_t {xs : List D} : biV z .tuple [.d (.tup xs)] m = .ok (.d (.tup xs)) m := nr rfl
end
/-- a comprehension over a place that stays -/
theorem comp_wkR {f : Wv → Mem → R (Option Val)} {i : Nat} {us : List Val} {m : Mem} (g : Val → Val) (hm : m[i]? = some (.lst us)) (hf : ∀ v ∈ us, f (.v v) m = .ok (some (g v)) m) (hl : us.length ≤ LINE) :
    compL f (wkR i us.length).fin (wkR i us.length).rs [] m = .ok (us.map g) m := by
  have ls : lstR i us.length m = some us := by
    unfold lstR
    rw [hm]
    exact if_pos rfl
  have go : ∀ (k j : Nat) (acc : List Val), j + k = us.length → acc.length = j → compL f (wkR i us.length).fin ((List.range' j k).map fun k m => (lstR i us.length m).bind fun us => (us[k]?).map .v) acc m = .ok (acc ++ (us.drop j).map g) m := by
    intro k
    induction k with
    | zero =>
      intro j acc e ha
      have : us.drop j = [] := List.drop_eq_nil_of_le (by omega)
      rw [this]
      show (match (lstR i us.length m).isSome with
        | true => R.ok acc m
        | false => .no) = _
      rw [ls]
      simp
    | succ k ih =>
      intro j acc e ha
      have hj : j < us.length := by omega
      rw [List.range'_succ, List.map_cons]
      unfold compL
      dsimp only
      rw [ls]
      show (match (us[j]?).map Wv.v with
        | none => R.no
        | some v => (f v m).bind _) = _
      rw [List.getElem?_eq_getElem hj]
      show (f (.v us[j]) m).bind _ = _
      rw [hf _ (List.getElem_mem hj)]
      show (if acc.length < LINE then compL f (wkR i us.length).fin _ (acc ++ [g us[j]]) m else .no) = _
      rw [if_pos (by omega), ih (j + 1) _ (by omega) (by simp [ha]), List.drop_eq_getElem_cons hj, List.map_cons, List.append_assoc, List.singleton_append]
  have := go us.length 0 [] (by omega) rfl
  rw [← List.range_eq_range'] at this
  exact this
/-! texts cut and joined -/
theorem splitC_ne (c : Nat) : ∀ s : List Nat, splitC c s ≠ []
  | [] => by simp [splitC]
  | x :: r => by
    unfold splitC
    split
    · simp
    · split <;> simp
theorem join_splitC (c : Nat) : ∀ s : List Nat, joinL [c] (splitC c s) = s
  | [] => rfl
  | x :: r => by
    have ih := join_splitC c r
    unfold splitC
    split
    · rename_i e
      cases hs : splitC c r with
      | nil => exact (splitC_ne c r hs).elim
      | cons y ys =>
        rw [hs] at ih
        show [] ++ [c] ++ joinL [c] (y :: ys) = _
        rw [ih, e]
        rfl
    · split
      · rename_i hs
        exact (splitC_ne c r hs).elim
      · rename_i y ys hs
        rw [hs] at ih
        cases ys with
        | nil =>
          have ih : y = r := ih
          rw [← ih]
          rfl
        | cons y2 ys =>
          show (x :: y) ++ [c] ++ joinL [c] (y2 :: ys) = _
          have ih : y ++ [c] ++ joinL [c] (y2 :: ys) = r := ih
          rw [← ih]
          simp
/-- signs and blanks of words -/
def tot (ws : List (List Nat)) : Nat := (ws.map fun w => w.length + 1).sum
theorem tot_app (a b : List (List Nat)) : tot (a ++ b) = tot a + tot b := by simp [tot]
theorem tot_eq (ws : List (List Nat)) : (ws.map List.length).sum + ws.length = tot ws := by
  induction ws with
  | nil => rfl
  | cons w ws ih =>
    unfold tot at ih ⊢
    simp only [List.map_cons, List.sum_cons, List.length_cons]
    omega
theorem split_tot (c : Nat) : ∀ s : List Nat, tot (splitC c s) = s.length + 1
  | [] => rfl
  | x :: r => by
    have ih := split_tot c r
    unfold splitC
    split
    · show ([].length + 1) + tot (splitC c r) = _
      rw [ih]
      simp; omega
    · split
      · rename_i hs
        exact (splitC_ne c r hs).elim
      · rename_i y ys hs
        rw [hs] at ih
        have ih : (y.length + 1) + tot ys = r.length + 1 := ih
        show ((x :: y).length + 1) + tot ys = _
        rw [List.length_cons, List.length_cons]
        omega
theorem join_app {sep : List Nat} : ∀ {xs ys : List (List Nat)}, xs ≠ [] → ys ≠ [] → joinL sep (xs ++ ys) = joinL sep xs ++ sep ++ joinL sep ys
  | [], _, h, _ => (h rfl).elim
  | [x], [], _, h => (h rfl).elim
  | [x], y :: ys, _, _ => rfl
  | x :: x2 :: xs, ys, _, h => by
    show x ++ sep ++ joinL sep ((x2 :: xs) ++ ys) = x ++ sep ++ joinL sep (x2 :: xs) ++ sep ++ joinL sep ys
    rw [join_app (by simp) h]
    simp
theorem join_join {sep : List Nat} : ∀ {F : List (List (List Nat))}, (∀ l ∈ F, l ≠ []) → joinL sep (F.map (joinL sep)) = joinL sep F.flatten
  | [], _ => rfl
  | [l], _ => by simp [joinL]
  | l :: l2 :: F, h => by
    have ih := join_join (sep := sep) (F := l2 :: F) fun x hx => h x (List.mem_cons_of_mem _ hx)
    show joinL sep l ++ sep ++ joinL sep ((l2 :: F).map (joinL sep)) = joinL sep (l ++ (l2 :: F).flatten)
    rw [ih, join_app (h l List.mem_cons_self)]
    have := h l2 (by simp)
    intro e
    rw [List.flatten_cons] at e
    exact this (List.append_eq_nil_iff.mp e).1
end Rf

namespace Rf
/-! ### as many slots as before -/
mutual
theorem asgT_len {m : Mem} : ∀ (t : Tg) {v : Val} {s s' : Slots}, asgT m t v s = some s' → s'.length = s.length
  | .nm i, v, s, s', h => by
    unfold asgT at h
    cases h
    rw [List.length_set]
  | .tup ts, v, s, s', h => by
    unfold asgT at h
    split at h
    · exact asgTs_len ts h
    · cases h
theorem asgTs_len {m : Mem} : ∀ (ts : Tgs) {vs : List Val} {s s' : Slots}, asgTs m ts vs s = some s' → s'.length = s.length
  | .nil, vs, s, s', h => by
    cases vs with
    | nil => unfold asgTs at h; cases h; rfl
    | cons _ _ => unfold asgTs at h; cases h
  | .cons t ts, vs, s, s', h => by
    cases vs with
    | nil => unfold asgTs at h; cases h
    | cons v vs =>
      unfold asgTs at h
      split at h
      · rename_i s1 e
        rw [asgTs_len ts h, asgT_len t e]
      · cases h
end
theorem asgW_len {m : Mem} {t : Tg} {w : Wv} {s s' : Slots} (h : asgW m t w s = some s') : s'.length = s.length := by
  cases w with
  | v x => exact asgT_len t h
  | t xs =>
    cases t with
    | nm i => cases h
    | tup ts => exact asgTs_len ts h
theorem parS_len : ∀ {is : List Nat} {vs : List Val} {s s' : Slots}, parS is vs s = some s' → s'.length = s.length
  | [], [], s, s', h => by cases h; rfl
  | [], _ :: _, s, s', h => by cases h
  | _ :: _, [], s, s', h => by cases h
  | i :: is, v :: vs, s, s', h => by rw [parS_len (is := is) (vs := vs) h, List.length_set]
def SameL (n : Nat) : Fl → Prop
  | .nx s' => s'.length = n
  | .rt _ => True
  | .bk s' => s'.length = n
  | .ct s' => s'.length = n
theorem forL_len {n : Nat} {f : Wv → Slots → Mem → R Fl} {fin : Mem → Bool} (hf : ∀ w s m fl m', s.length = n → f w s m = .ok fl m' → SameL n fl) : ∀ {rs : List (Mem → Option Wv)} {s : Slots} {m m' : Mem} {fl : Fl}, s.length = n → forL f fin rs s m = .ok fl m' → SameL n fl
  | [], s, m, m', fl, hs, h => by
    unfold forL at h
    split at h
    · cases h; exact hs
    · cases h
  | r :: rs, s, m, m', fl, hs, h => by
    unfold forL at h
    split at h
    · cases h
    · rename_i w e
      obtain ⟨g, m1, h1, h2⟩ := bind_ok h
      have := hf _ _ _ _ _ hs h1
      cases g with
      | nx s1 => exact forL_len hf this h2
      | ct s1 => exact forL_len hf this h2
      | bk s1 => cases h2; exact this
      | rt v => cases h2; trivial
theorem whiL_len {k : Nat} {c : Slots → Mem → R Bool} {f : Slots → Mem → R Fl} (hf : ∀ s m fl m', s.length = k → f s m = .ok fl m' → SameL k fl) : ∀ {n : Nat} {s : Slots} {m m' : Mem} {fl : Fl}, s.length = k → whiL c f n s m = .ok fl m' → SameL k fl
  | 0, s, m, m', fl, hs, h => by cases h
  | n + 1, s, m, m', fl, hs, h => by
    unfold whiL at h
    obtain ⟨q, m1, h1, h2⟩ := bind_ok h
    cases q with
    | false => cases h2; exact hs
    | true =>
      obtain ⟨g, m2, h3, h4⟩ := bind_ok h2
      have := hf _ _ _ _ hs h3
      cases g with
      | nx s1 => exact whiL_len hf this h4
      | ct s1 => exact whiL_len hf this h4
      | bk s1 => cases h4; exact this
      | rt v => cases h4; trivial
mutual
theorem exS_len {C : Cal} {n : Nat} : ∀ (x : St) {s : Slots} {m m' : Mem} {fl : Fl}, s.length = n → exS C x s m = .ok fl m' → SameL n fl
  | .asg t e, s, m, m', fl, hs, h => by
    rw [x_asg] at h
    obtain ⟨v, m1, h1, h2⟩ := bind_ok h
    obtain ⟨s', m2, h3, h4⟩ := bind_ok h2
    cases h4
    exact (asgT_len t (opt_ok h3).1).trans hs
  | .set o i e, s, m, m', fl, hs, h => by
    rw [x_set] at h
    obtain ⟨v, m1, h1, h2⟩ := bind_ok h
    obtain ⟨x, m2, h3, h4⟩ := bind_ok h2
    obtain ⟨y, m3, h5, h6⟩ := bind_ok h4
    split at h6
    · obtain ⟨u, m4, h7, h8⟩ := bind_ok h6
      cases h8
      exact hs
    · cases h6
  | .aug i o e, s, m, m', fl, hs, h => by
    rw [x_aug] at h
    obtain ⟨v, m1, h1, h2⟩ := bind_ok h
    obtain ⟨y, m2, h3, h4⟩ := bind_ok h2
    unfold augV at h4
    split at h4
    · obtain ⟨w, m4, h7, h8⟩ := bind_ok h4
      cases h8
      exact (List.length_set ..).trans hs
    · obtain ⟨w, m4, h7, h8⟩ := bind_ok h4
      cases h8
      exact (List.length_set ..).trans hs
    · cases h4
  | .ex e, s, m, m', fl, hs, h => by
    rw [x_ex] at h
    obtain ⟨v, m1, h1, h2⟩ := bind_ok h
    cases h2
    exact hs
  | .ret e, s, m, m', fl, hs, h => by
    rw [x_ret] at h
    obtain ⟨v, m1, h1, h2⟩ := bind_ok h
    cases h2
    trivial
  | .iff c a b, s, m, m', fl, hs, h => by
    rw [x_iff] at h
    obtain ⟨v, m1, h1, h2⟩ := bind_ok h
    split at h2
    · exact exSs_len a hs h2
    · exact exSs_len b hs h2
    · cases h2
  | .forr t it b, s, m, m', fl, hs, h => by
    rw [x_forr] at h
    obtain ⟨wk, m1, h1, h2⟩ := bind_ok h
    refine forL_len (fun w s m fl m' hs hw => ?_) hs h2
    unfold lturn at hw
    obtain ⟨s1, m2, h3, h4⟩ := bind_ok hw
    exact exSs_len b ((asgW_len (opt_ok h3).1).trans hs) h4
  | .whil c b, s, m, m', fl, hs, h => by
    rw [x_whil] at h
    exact whiL_len (fun s m fl m' hs hw => exSs_len b hs hw) hs h
  | .par is es, s, m, m', fl, hs, h => by
    rw [x_par] at h
    obtain ⟨v, m1, h1, h2⟩ := bind_ok h
    obtain ⟨s', m2, h3, h4⟩ := bind_ok h2
    cases h4
    exact (parS_len (opt_ok h3).1).trans hs
  | .pass, s, m, m', fl, hs, h => by rw [x_pass] at h; cases h; exact hs
  | .brk, s, m, m', fl, hs, h => by rw [x_brk] at h; cases h; exact hs
  | .cnt, s, m, m', fl, hs, h => by rw [x_cnt] at h; cases h; exact hs
theorem exSs_len {C : Cal} {n : Nat} : ∀ (x : Sts) {s : Slots} {m m' : Mem} {fl : Fl}, s.length = n → exSs C x s m = .ok fl m' → SameL n fl
  | .nil, s, m, m', fl, hs, h => by rw [xs_nil] at h; cases h; exact hs
  | .cons x xs, s, m, m', fl, hs, h => by
    rw [xs_cons] at h
    obtain ⟨g, m1, h1, h2⟩ := bind_ok h
    have := exS_len x hs h1
    cases g with
    | nx s1 => rw [nxt_nx] at h2; exact exSs_len xs this h2
    | rt v => rw [nxt_rt] at h2; cases h2; trivial
    | bk s1 => rw [nxt_bk] at h2; cases h2; exact this
    | ct s1 => rw [nxt_ct] at h2; cases h2; exact this
end
theorem nx_len {C : Cal} {b : Sts} {s s' : Slots} {m m' : Mem} (h : exSs C b s m = .ok (.nx s') m') : s'.length = s.length := exSs_len b rfl h
/-! comprehensions over places that stay -/
theorem comp_wkR_inv {f : Wv → Mem → R (Option Val)} {i : Nat} {us : List Val} (I : Nat → List Val → Mem → Prop) (hI : ∀ j acc m, I j acc m → m[i]? = some (.lst us)) (step : ∀ (j : Nat) v acc m, us[j]? = some v → I j acc m → ∃ y m', f (.v v) m = .ok (some y) m' ∧ acc.length < LINE ∧ I (j + 1) (acc ++ [y]) m') {m : Mem} (h : I 0 [] m) :
    ∃ acc m', compL f (wkR i us.length).fin (wkR i us.length).rs [] m = .ok acc m' ∧ I us.length acc m' := by
  have ls : ∀ {j acc m}, I j acc m → lstR i us.length m = some us := by
    intro j acc m h
    unfold lstR
    rw [hI j acc m h]
    exact if_pos rfl
  have go : ∀ (k j : Nat) (acc : List Val) (m : Mem), j + k = us.length → I j acc m → ∃ acc' m', compL f (wkR i us.length).fin ((List.range' j k).map fun k m => (lstR i us.length m).bind fun us => (us[k]?).map .v) acc m = .ok acc' m' ∧ I us.length acc' m' := by
    intro k
    induction k with
    | zero =>
      intro j acc m e h
      refine ⟨acc, m, ?_, by rw [← e]; exact h⟩
      show (match (lstR i us.length m).isSome with
        | true => R.ok acc m
        | false => .no) = _
      rw [ls h]
      rfl
    | succ k ih =>
      intro j acc m e h
      have hj : j < us.length := by omega
      obtain ⟨y, m1, e1, hl, h1⟩ := step j us[j] acc m (List.getElem?_eq_getElem hj) h
      obtain ⟨acc2, m2, e2, h2⟩ := ih (j + 1) (acc ++ [y]) m1 (by omega) h1
      refine ⟨acc2, m2, ?_, h2⟩
      rw [List.range'_succ, List.map_cons]
      unfold compL
      dsimp only
      rw [ls h]
      show (match (us[j]?).map Wv.v with
        | none => R.no
        | some v => (f v m).bind _) = _
      rw [List.getElem?_eq_getElem hj]
      show (f (.v us[j]) m).bind _ = _
      rw [e1]
      show (if acc.length < LINE then compL f (wkR i us.length).fin _ (acc ++ [y]) m1 else .no) = _
      rw [if_pos hl]
      exact e2
  have := go us.length 0 [] m (by omega) h
  rw [← List.range_eq_range'] at this
  exact this
theorem comp_wkR_sieve {f : Wv → Mem → R (Option Val)} {i : Nat} {us : List Val} {m : Mem} (g : Val → Option Val) (hm : m[i]? = some (.lst us)) (hf : ∀ v ∈ us, f (.v v) m = .ok (g v) m) (hl : us.length ≤ LINE) :
    compL f (wkR i us.length).fin (wkR i us.length).rs [] m = .ok (us.filterMap g) m := by
  have ls : lstR i us.length m = some us := by
    unfold lstR
    rw [hm]
    exact if_pos rfl
  have go : ∀ (k j : Nat) (acc : List Val), j + k = us.length → acc.length ≤ j → compL f (wkR i us.length).fin ((List.range' j k).map fun k m => (lstR i us.length m).bind fun us => (us[k]?).map .v) acc m = .ok (acc ++ (us.drop j).filterMap g) m := by
    intro k
    induction k with
    | zero =>
      intro j acc e ha
      have : us.drop j = [] := List.drop_eq_nil_of_le (by omega)
      rw [this]
      show (match (lstR i us.length m).isSome with
        | true => R.ok acc m
        | false => .no) = _
      rw [ls]
      simp
    | succ k ih =>
      intro j acc e ha
      have hj : j < us.length := by omega
      rw [List.range'_succ, List.map_cons]
      unfold compL
      dsimp only
      rw [ls]
      show (match (us[j]?).map Wv.v with
        | none => R.no
        | some v => (f v m).bind _) = _
      rw [List.getElem?_eq_getElem hj]
      show (f (.v us[j]) m).bind _ = _
      rw [hf _ (List.getElem_mem hj), List.drop_eq_getElem_cons hj, List.filterMap_cons]
      cases hg : g us[j] with
      | none =>
        show compL f (wkR i us.length).fin _ acc m = _
        exact ih (j + 1) acc (by omega) (by omega)
      | some y =>
        show (if acc.length < LINE then compL f (wkR i us.length).fin _ (acc ++ [y]) m else .no) = _
        rw [if_pos (by omega), ih (j + 1) (acc ++ [y]) (by omega) (by simp; omega)]
        simp
  have := go us.length 0 [] (by omega) (Nat.le_refl _)
  rw [← List.range_eq_range'] at this
  exact this
theorem sl_r {k : Nat} {xs : List D} {lo hi : Option Int} {m : Mem} (h : m[k]? = some (.lst (xs.map .d))) : slcV true (.r k) lo hi m = .ok (.d (.lst (cut xs lo hi))) m := by
  have e : lstOf m (.r k) = some (xs.map .d) := by
    show (match m[k]? with
      | some (.lst vs) => some vs
      | _ => none) = _
    rw [h]
  rw [slc_lst e, cut_map]
  exact m_l (datas_map _)
/-- a place behind the deck -/
theorem dk_get {c : List Int} {n : Int} {r : Mem} {k : Nat} : (dkr c n r)[k + 2]? = r[k]? := rfl
end Rf

namespace Rf
/-! ### comprehensions and loops over encoded lists -/
theorem comp_mapD {α : Type} {f : Val → Mem → R (Option Val)} {m : Mem} (e g : α → D) (xs : List α) (h : ∀ x ∈ xs, f (.d (e x)) m = .ok (some (.d (g x))) m) (hl : xs.length ≤ LINE) : cmpD' f ((xs.map e).map .d) [] m = .ok ((xs.map g).map .d) m := by
  have go : ∀ (ys : List α) (acc : List Val), (∀ x ∈ ys, x ∈ xs) → acc.length + ys.length ≤ LINE → cmpD' f ((ys.map e).map .d) acc m = .ok (acc ++ (ys.map g).map .d) m := by
    intro ys
    induction ys with
    | nil => intro acc _ _; simp [cmpD']
    | cons y ys ih =>
      intro acc hy hl
      show (f (.d (e y)) m).bind _ = _
      rw [h y (hy y List.mem_cons_self)]
      show (if acc.length < LINE then _ else _) = _
      rw [if_pos (by simp only [List.length_cons] at hl; omega)]
      have := ih (acc ++ [.d (g y)]) (fun x hx => hy x (List.mem_cons_of_mem _ hx)) (by simp only [List.length_cons, List.length_append, List.length_nil] at hl ⊢; omega)
      rw [this]
      simp
  simpa using go xs [] (fun _ h => h) (by simpa using hl)
theorem comp_sieveD {α : Type} {f : Val → Mem → R (Option Val)} {m : Mem} (e g : α → D) (p : α → Bool) (xs : List α) (h : ∀ x ∈ xs, f (.d (e x)) m = .ok (if p x then some (.d (g x)) else none) m) (hl : xs.length ≤ LINE) : cmpD' f ((xs.map e).map .d) [] m = .ok (((xs.filter p).map g).map .d) m := by
  have go : ∀ (ys : List α) (acc : List Val), (∀ x ∈ ys, x ∈ xs) → acc.length + ys.length ≤ LINE → cmpD' f ((ys.map e).map .d) acc m = .ok (acc ++ ((ys.filter p).map g).map .d) m := by
    intro ys
    induction ys with
    | nil => intro acc _ _; simp [cmpD']
    | cons y ys ih =>
      intro acc hy hl
      show (f (.d (e y)) m).bind _ = _
      rw [h y (hy y List.mem_cons_self)]
      cases hp : p y with
      | true =>
        show (if acc.length < LINE then _ else _) = _
        rw [if_pos (by simp only [List.length_cons] at hl; omega)]
        have := ih (acc ++ [.d (g y)]) (fun x hx => hy x (List.mem_cons_of_mem _ hx)) (by simp only [List.length_cons, List.length_append, List.length_nil] at hl ⊢; omega)
        rw [this, List.filter_cons_of_pos hp]
        simp
      | false =>
        show cmpD' f ((ys.map e).map .d) acc m = _
        rw [ih acc (fun x hx => hy x (List.mem_cons_of_mem _ hx)) (by simp only [List.length_cons] at hl; omega), List.filter_cons_of_neg (by simp [hp])]
  simpa using go xs [] (fun _ h => h) (by simpa using hl)
/-- a loop that returns at the first thing that is so -/
theorem forD_first {α : Type} {f : Val → Slots → Mem → R Fl} {m : Mem} (e : α → Val) (p : α → Bool) (v : Val) (I : Slots → Prop) : ∀ (xs : List α), (∀ x ∈ xs, ∀ s, I s → if p x = true then f (e x) s m = .ok (.rt v) m else ∃ s', f (e x) s m = .ok (.nx s') m ∧ I s') → ∀ s, I s → if xs.any p = true then forD f (xs.map e) s m = .ok (.rt v) m else ∃ s', forD f (xs.map e) s m = .ok (.nx s') m ∧ I s'
  | [], _, s, hs => ⟨s, rfl, hs⟩
  | x :: xs, h, s, hs => by
    have h0 := h x List.mem_cons_self s hs
    have ih := forD_first e p v I xs (fun y hy => h y (List.mem_cons_of_mem _ hy))
    rw [List.any_cons]
    cases hp : p x with
    | true =>
      rw [hp, if_pos rfl] at h0
      rw [Bool.true_or, if_pos rfl]
      show (f (e x) s m).bind _ = _
      rw [h0]
      rfl
    | false =>
      rw [hp, if_neg (by decide)] at h0
      obtain ⟨s1, e1, h1⟩ := h0
      have := ih s1 h1
      rw [Bool.false_or]
      have q : forD f ((x :: xs).map e) s m = forD f (xs.map e) s1 m := by
        show (f (e x) s m).bind _ = _
        rw [e1]
        rfl
      rw [q]
      exact this
/-! ### calls read by shapes -/
def caOk (f : Sh → Bool) (b : Nat) : Option (AV × APl × Nat) → Bool
  | some (.sh a, _, δ) => f a && decide (δ ≤ b)
  | _ => false
theorem ca_run {p : PT} {Pg : Prog} {H : Nat → Nat → Bool} {df k f b : Nat} {as : List AV} {vs : List Val} {c : List Int} {n : Nat} {r : Mem} {q : Sh → Bool} (hd : Pg.fn df = some ⟨2, 4, false, drawB⟩) (h : caOk q b (aCallN Pg H noTab (dTab df) k f as []) = true) (hb : n + b ≤ 1000000000) (g : hasVs FD p [] as vs) :
    ∃ (a : Sh) (d : D) (c' : List Int) (n' : Nat) (t : Mem), callN Pg k f vs (dkr c (n : Int) r) = .ok (.d d) (dkr c' (n' : Int) (r ++ t)) ∧ q a = true ∧ a.has p d ∧ n ≤ n' ∧ n' ≤ n + b := by
  unfold caOk at h
  split at h
  · rename_i a P' δ e
    rw [Bool.and_eq_true, decide_eq_true_eq] at h
    obtain ⟨d, c', n', t, h1, h2, h3, h4⟩ := draws_ok (r := r) (c := c) (n := n) hd e (by omega) g
    exact ⟨a, d, c', n', t, h1, h.1, h2, h3, by omega⟩
  · cases h
/-! ### cuts -/
theorem cut_take {α : Type} {xs : List α} {k : Nat} : cut xs none (some (k : Int)) = xs.take k := by
  show (xs.drop 0).take ((if (k : Int) < 0 then ((k : Int) + (xs.length : Int)).toNat else min (k : Int).toNat xs.length) - 0) = _
  rw [if_neg (by omega), List.drop_zero, Nat.sub_zero, Int.toNat_natCast]
  rcases Nat.le_total k xs.length with h | h
  · rw [Nat.min_eq_left h]
  · rw [Nat.min_eq_right h, List.take_length, List.take_of_length_le h]
theorem cut_drop {α : Type} {xs : List α} {k : Nat} : cut xs (some (k : Int)) none = xs.drop k := by
  show (xs.drop (if (k : Int) < 0 then ((k : Int) + (xs.length : Int)).toNat else min (k : Int).toNat xs.length)).take (xs.length - (if (k : Int) < 0 then ((k : Int) + (xs.length : Int)).toNat else min (k : Int).toNat xs.length)) = _
  rw [if_neg (by omega), Int.toNat_natCast]
  rcases Nat.le_total k xs.length with h | h
  · rw [Nat.min_eq_left h, List.take_of_length_le (by rw [List.length_drop]; exact Nat.le_refl _)]
  · rw [Nat.min_eq_right h, Nat.sub_self, List.take_zero, List.drop_of_length_le h]
theorem cut_drop1 {α : Type} {xs : List α} {k : Nat} : cut xs (some ((k : Int) + 1)) none = xs.drop (k + 1) := by
  have := cut_drop (xs := xs) (k := k + 1)
  exact this
theorem atN {α : Type} {xs : List α} {k : Nat} {x : α} (h : xs[k]? = some x) : atL xs (k : Int) = some x := by
  obtain ⟨hk, _⟩ := List.getElem?_eq_some_iff.mp h
  unfold atL ixOf
  rw [if_pos (by omega), if_pos (by omega), Int.toNat_natCast]
  exact h
/-! ### a place at the right -/
theorem c_eqp {xs ys : List D} {i : Nat} {m : Mem} (h : m[i]? = some (.lst (ys.map .d))) (ho : eqOk (.lst xs) (.lst ys) = true) : cmpV .eq (.d (.lst xs)) (.r i) m = .ok (D.eqs xs ys) m := by
  have e : deepV m (.r i) = some (.lst ys) := by
    show (match m[i]? with
      | some (.lst vs) => (datas vs).map D.lst
      | _ => none) = _
    rw [h]
    show (datas (ys.map .d)).map D.lst = _
    rw [datas_map]
    rfl
  show R.opt (cmpP .eq (some (.lst xs)) (deepV m (.r i))) m = _
  rw [e]
  show R.opt (if eqOk (.lst xs) (.lst ys) then some (D.eq (.lst xs) (.lst ys)) else none) m = _
  rw [ho]
  rfl
theorem deps_str (ss : List (List Nat)) : D.deps (ss.map .str) = 0 := by
  induction ss with
  | nil => rfl
  | cons s ss ih =>
    show max 0 (D.deps (ss.map .str)) = 0
    rw [ih]
    rfl
theorem eqOk_strs (ss tt : List (List Nat)) : eqOk (.lst (ss.map .str)) (.lst (tt.map .str)) = true := by
  have h1 : D.pl (.lst (ss.map .str)) = true := pls_str ss
  have h2 : D.pl (.lst (tt.map .str)) = true := pls_str tt
  unfold eqOk
  rw [h1, h2]
  have : D.dep (.lst (ss.map .str)) = 1 := by
    show D.deps (ss.map .str) + 1 = 1
    rw [deps_str]
  rw [this]
  rfl
theorem c_net {xs : List D} {m : Mem} (h : D.pls xs = true) : cmpV .ne (.d (.tup xs)) (.d (.tup [])) m = .ok (!xs.isEmpty) m := by
  have hp : D.pl (.tup xs) = true := h
  rw [c_ned (by unfold eqOk; rw [hp]; simp [D.pl, D.pls, D.dep, D.deps])]
  cases xs <;> rfl
/-! ### places at the end of a memory -/
theorem ap_last {K : Mem} {us : List Val} {v : Val} (hl : us.length < 16777216) : mtV .append (.r K.length) [v] (K ++ [.lst us]) = .ok (.d .non) (K ++ [.lst (us ++ [v])]) := by
  rw [ap_r (us := us) (by simp) hl]
  congr 1
  rw [List.set_append_right _ _ (Nat.le_refl _), Nat.sub_self]
  rfl
theorem pig {α : Type} [DecidableEq α] : ∀ (xs ys : List α), xs.Nodup → (∀ x ∈ xs, x ∈ ys) → xs.length ≤ ys.length
  | [], _, _, _ => Nat.zero_le _
  | x :: xs, ys, hn, h => by
    obtain ⟨h1, h2⟩ := List.nodup_cons.mp hn
    have hx := h x List.mem_cons_self
    have := pig xs (ys.erase x) h2 fun y hy => by
      refine (List.mem_erase_of_ne fun e => ?_).mpr (h y (List.mem_cons_of_mem _ hy))
      subst e
      exact h1 hy
    rw [List.length_erase_of_mem hx] at this
    have : 0 < ys.length := List.length_pos_of_mem hx
    rw [List.length_cons]
    omega
/-- a comprehension that makes new places -/
theorem comp_new {f : Val → Mem → R (Option Val)} : ∀ (vs : List Val) (acc : List Val) (m : Mem), (∀ v ∈ vs, ∀ m, f v m = .ok (some (.r m.length)) (m ++ [.lst []])) → acc.length + vs.length ≤ LINE → cmpD' f vs acc m = .ok (acc ++ (List.range vs.length).map fun i => .r (m.length + i)) (m ++ List.replicate vs.length (.lst []))
  | [], acc, m, _, _ => by simp [cmpD']
  | v :: vs, acc, m, h, hl => by
    show (f v m).bind _ = _
    rw [h v List.mem_cons_self m]
    show (if acc.length < LINE then _ else _) = _
    rw [if_pos (by simp only [List.length_cons] at hl; omega)]
    have := comp_new vs (acc ++ [.r m.length]) (m ++ [.lst []]) (fun v hv => h v (List.mem_cons_of_mem _ hv)) (by simp only [List.length_cons, List.length_append, List.length_nil] at hl ⊢; omega)
    rw [this, List.length_cons, List.range_succ_eq_map, List.map_cons, List.map_map, List.replicate_succ]
    simp [Function.comp_def, Nat.add_comm, Nat.add_left_comm, Nat.add_assoc]
theorem rng0 (n : Nat) : ((List.range (((n : Nat) : Int) - 0).toNat).map fun (k : Nat) => Val.d (.int (0 + (k : Int)))) = ((List.range n).map fun k => D.int (k : Nat)).map .d := by
  rw [List.map_map, Int.sub_zero, Int.toNat_natCast]
  refine List.map_congr_left fun k _ => ?_
  rw [Int.zero_add]
  rfl
theorem rng_at {n i : Nat} {v : Val} (h : (((List.range n).map fun k => D.int (k : Nat)).map Val.d)[i]? = some v) : i < n ∧ v = .d (.int (i : Nat)) := by
  obtain ⟨hi, e⟩ := List.getElem?_eq_some_iff.mp h
  simp at hi
  refine ⟨hi, ?_⟩
  rw [← e]
  simp
theorem dk_at {c : List Int} {n : Int} {R t : Mem} {x : Ob} : (dkr c n (R ++ (x :: t)))[R.length + 2]? = some x := by
  rw [dk_get, List.getElem?_append_right (Nat.le_refl _), Nat.sub_self]
  rfl
theorem cut_both {α : Type} {xs : List α} {l h : Nat} (hl : l ≤ xs.length) (hh : h ≤ xs.length) : cut xs (some (l : Int)) (some (h : Int)) = (xs.drop l).take (h - l) := by
  show (xs.drop (if (l : Int) < 0 then ((l : Int) + (xs.length : Int)).toNat else min (l : Int).toNat xs.length)).take ((if (h : Int) < 0 then ((h : Int) + (xs.length : Int)).toNat else min (h : Int).toNat xs.length) - (if (l : Int) < 0 then ((l : Int) + (xs.length : Int)).toNat else min (l : Int).toNat xs.length)) = _
  rw [if_neg (by omega), if_neg (by omega), Int.toNat_natCast, Int.toNat_natCast, Nat.min_eq_left hl, Nat.min_eq_left hh]
end Rf

namespace Rf.K41
open PySem PySem.Spec PyProof.Rows L2 Rf
/-! ### the text of the law, erased (printed by mk.py) -/
def top (i : Nat) : Stmt := PySem.Challenge.pw_tonguehouse_k41_changes_far_apart.main.body.getD i (.Pass ⟨0, 0, 0, 0⟩)
/-- begun_alike -/
def b0 : Sts := (.cons (.asg (.nm 2) (.con (.int 0))) (.cons (.whil (.and (.cmp .lt (.var 2) (.bi true .min2 (.cons (.bi true .len (.cons (.var 0) .nil)) (.cons (.bi true .len (.cons (.var 1) .nil)) .nil)))) (.cmp .eq (.idx (.var 0) (.var 2)) (.idx (.var 1) (.var 2)))) (.cons (.aug 2 .add (.con (.int 1))) .nil)) (.cons (.ret (.var 2)) .nil)))
/-- stretch_of -/
def b1 : Sts := (.cons (.asg (.nm 2) (.call 0 (.cons (.var 0) (.cons (.var 1) .nil)))) (.cons (.asg (.nm 3) (.call 0 (.cons (.rev true (.slc true true false (.var 0) (.var 2) (.con .non))) (.cons (.rev true (.slc true true false (.var 1) (.var 2) (.con .non))) .nil)))) (.cons (.ret (.tup (.cons (.var 2) (.cons (.bin true .sub (.bi true .len (.cons (.var 0) .nil)) (.var 3)) (.cons (.slc true true true (.var 1) (.var 2) (.bin true .sub (.bi true .len (.cons (.var 1) .nil)) (.var 3))) .nil))))) .nil)))
/-- is_ahead -/
def b2 : Sts := (.cons (.asg (.tup (.cons (.nm 2) (.cons (.nm 3) (.cons (.nm 4) .nil)))) (.var 0)) (.cons (.asg (.tup (.cons (.nm 5) (.cons (.nm 6) (.cons (.nm 7) .nil)))) (.var 1)) (.cons (.ret (.and (.cmp .le (.var 3) (.var 5)) (.not (.cmp .eq (.var 2) (.var 6))))) .nil)))
/-- both_made -/
def b3 : Sts := (.cons (.asg (.tup (.cons (.nm 3) (.cons (.nm 4) (.cons (.nm 5) .nil)))) (.var 1)) (.cons (.asg (.tup (.cons (.nm 6) (.cons (.nm 7) (.cons (.nm 8) .nil)))) (.var 2)) (.cons (.ret (.bin true .add (.bin true .add (.bin true .add (.bin true .add (.slc true false true (.var 0) (.con .non) (.var 3)) (.var 5)) (.slc true true true (.var 0) (.var 4) (.var 6))) (.var 8)) (.slc true true false (.var 0) (.var 7) (.con .non)))) .nil)))
/-- met -/
def b4 : Sts := (.cons (.iff (.or (.cmp .eq (.var 1) (.var 0)) (.cmp .eq (.var 1) (.var 2))) (.cons (.ret (.var 2)) .nil) .nil) (.cons (.iff (.cmp .eq (.var 2) (.var 0)) (.cons (.ret (.var 1)) .nil) .nil) (.cons (.par [3, 4] (.cons (.call 1 (.cons (.var 0) (.cons (.var 1) .nil))) (.cons (.call 1 (.cons (.var 0) (.cons (.var 2) .nil))) .nil))) (.cons (.iff (.call 2 (.cons (.var 3) (.cons (.var 4) .nil))) (.cons (.ret (.call 3 (.cons (.var 0) (.cons (.var 3) (.cons (.var 4) .nil))))) .nil) .nil) (.cons (.iff (.call 2 (.cons (.var 4) (.cons (.var 3) .nil))) (.cons (.ret (.call 3 (.cons (.var 0) (.cons (.var 4) (.cons (.var 3) .nil))))) .nil) .nil) (.cons (.ex (.bi true .len .nil)) .nil))))))
/-- _law_draws -/
def b5 : Sts := (.cons (.asg (.nm 1) (.bin true .add (.bi true .list (.cons (.slc true false true (.var 0) (.con .non) (.con (.int 63))) .nil)) (.bin true .mul (.lst true (.cons (.con (.int 0)) .nil)) (.bi true .int (.cons (.cmp .eq (.bi true .len (.cons (.var 0) .nil)) (.con (.int 0))) .nil))))) (.cons (.ret (.lst false (.cons (.var 1) (.cons (.con (.int 0)) (.cons (.cmpr false [2] (.nm 2) (.ex (.var 1)) (.con (.bl true)) (.bin true .mul (.var 2) (.bi true .int (.cons (.cmp .ge (.var 2) (.bin true .pow (.con (.int 10)) (.con (.int 18)))) .nil)))) .nil))))) .nil))
/-- _law_next -/
def b6 : Sts := (.cons (.asg (.tup (.cons (.nm 6) (.cons (.nm 7) (.cons (.nm 8) .nil)))) (.var 0)) (.cons (.asg (.nm 2) (.bin true .mod (.var 7) (.bi true .len (.cons (.var 6) .nil)))) (.cons (.set (.var 0) (.con (.int 1)) (.bin true .add (.var 7) (.con (.int 1)))) (.cons (.iff (.cmp .gt (.idx (.var 8) (.var 2)) (.con (.int 0))) (.cons (.asg (.nm 9) (.bin true .mod (.idx (.var 8) (.var 2)) (.var 1))) (.cons (.set (.var 8) (.var 2) (.bin true .div (.idx (.var 8) (.var 2)) (.var 1))) (.cons (.ret (.var 9)) .nil))) .nil) (.cons (.asg (.nm 3) (.lst true (.cons (.con (.int 2147483629)) (.cons (.con (.int 2147483587)) (.cons (.con (.int 2147483579)) (.cons (.con (.int 2147483563)) (.cons (.con (.int 2147483549)) (.cons (.con (.int 2147483543)) (.cons (.con (.int 2147483497)) .nil))))))))) (.cons (.asg (.nm 4) (.bin true .mod (.bin true .pow (.bin true .add (.bin true .add (.bin true .mod (.idx (.var 6) (.var 2)) (.con (.int 2147483647))) (.bin true .mul (.con (.int 48271)) (.var 7))) (.con (.int 104729))) (.con (.int 3))) (.idx (.var 3) (.bin true .mod (.var 7) (.con (.int 7)))))) (.cons (.asg (.nm 5) (.bin true .mod (.bin true .pow (.bin true .add (.var 4) (.bin true .mul (.con (.int 7919)) (.var 7))) (.con (.int 2))) (.con (.int 2147483477)))) (.cons (.ret (.bin true .mod (.bin true .mod (.bin true .add (.bin true .mul (.var 5) (.con (.int 2147483423))) (.var 4)) (.con (.int 4611686018427387847))) (.var 1))) .nil))))))))
/-- _law_one -/
def b7 : Sts := (.cons (.ret (.idx (.var 1) (.call 6 (.cons (.var 0) (.cons (.bi true .len (.cons (.var 1) .nil)) .nil))))) .nil)
/-- _law_names -/
def b8 : Sts := (.cons (.asg (.nm 2) (.con (.str [97, 98, 99, 100, 101, 102, 103, 104, 105, 106, 107, 108, 109, 110, 111, 112, 113, 114, 115, 116, 117, 118, 119, 120, 121, 122]))) (.cons (.asg (.nm 3) (.mth .join (.con (.str [])) (.cons (.cmpr true [6] (.nm 6) (.rng (.con (.int 0)) (.call 6 (.cons (.var 0) (.cons (.con (.int 7)) .nil)))) (.con (.bl true)) (.idx (.var 2) (.call 6 (.cons (.var 0) (.cons (.con (.int 26)) .nil))))) .nil))) (.cons (.asg (.tup (.cons (.nm 4) (.cons (.nm 5) .nil))) (.tup (.cons (.call 6 (.cons (.var 0) (.cons (.bin true .add (.bi true .len (.cons (.var 3) .nil)) (.con (.int 1))) .nil))) (.cons (.call 6 (.cons (.var 0) (.cons (.con (.int 26)) .nil))) .nil)))) (.cons (.ret (.cmpr true [6] (.nm 6) (.rng (.con (.int 0)) (.var 1)) (.con (.bl true)) (.bin true .add (.bin true .add (.slc true false true (.var 3) (.con .non) (.var 4)) (.idx (.var 2) (.bin true .mod (.bin true .add (.var 5) (.bin true .mul (.con (.int 7)) (.var 6))) (.con (.int 26))))) (.slc true true false (.var 3) (.var 4) (.con .non))))) .nil))))
/-- _law_letters -/
def b9 : Sts := (.cons (.asg (.nm 1) (.idx (.call 8 (.cons (.var 0) (.cons (.con (.int 1)) .nil))) (.con (.int 0)))) (.cons (.asg (.nm 2) (.lst true (.cons (.con (.str [97])) (.cons (.con (.str [98])) (.cons (.con (.str [97, 32])) (.cons (.tup (.cons (.con (.str [115, 97, 121])) (.cons (.var 1) .nil))) (.cons (.tup (.cons (.con (.str [113, 117, 111, 116, 101])) (.cons (.tup .nil) .nil))) (.cons (.tup (.cons (.con (.str [113, 117, 111, 116, 101])) (.cons (.tup (.cons (.con (.str [97])) .nil)) .nil))) (.cons (.tup (.cons (.con (.str [98, 121])) (.cons (.var 1) (.cons (.tup (.cons (.tup (.cons (.var 1) (.cons (.tup .nil) .nil))) .nil)) .nil)))) .nil))))))))) (.cons (.ret (.slc true false true (.var 2) (.con .non) (.bin true .add (.con (.int 2)) (.call 6 (.cons (.var 0) (.cons (.con (.int 6)) .nil)))))) .nil)))
/-- _law_row -/
def b10 : Sts := (.cons (.ret (.bi true .tuple (.cons (.cmpr true [2] (.nm 2) (.rng (.con (.int 0)) (.call 6 (.cons (.var 0) (.cons (.con (.int 4)) .nil)))) (.con (.bl true)) (.call 7 (.cons (.var 0) (.cons (.var 1) .nil)))) .nil))) .nil)
/-- law -/
def b11 : Sts := (.cons (.asg (.nm 1) (.call 5 (.cons (.var 0) .nil))) (.cons (.forr (.nm 2) (.rng (.con (.int 0)) (.con (.int 8))) (.cons (.asg (.nm 3) (.call 9 (.cons (.var 1) .nil))) (.cons (.asg (.tup (.cons (.nm 7) (.cons (.nm 8) (.cons (.nm 9) (.cons (.nm 10) .nil))))) (.cmpr true [13] (.nm 13) (.rng (.con (.int 0)) (.con (.int 4))) (.con (.bl true)) (.call 10 (.cons (.var 1) (.cons (.var 3) .nil))))) (.cons (.asg (.nm 4) (.tup (.cons (.con (.str [115, 116, 97, 110, 100, 115, 32, 97, 108, 111, 110, 101])) .nil))) (.cons (.asg (.nm 5) (.bin true .add (.bin true .add (.var 7) (.var 4)) (.var 8))) (.cons (.asg (.nm 6) (.bin true .add (.bin true .add (.var 9) (.var 4)) (.var 10))) (.cons (.par [11, 12] (.cons (.bin true .add (.bin true .add (.var 9) (.var 4)) (.var 8)) (.cons (.bin true .add (.bin true .add (.var 7) (.var 4)) (.var 10)) .nil))) (.cons (.iff (.or (.cmp .ne (.bi true .repr (.cons (.call 4 (.cons (.var 5) (.cons (.var 11) (.cons (.var 12) .nil)))) .nil)) (.bi true .repr (.cons (.var 6) .nil))) (.cmp .ne (.bi true .repr (.cons (.call 4 (.cons (.var 5) (.cons (.var 12) (.cons (.var 11) .nil)))) .nil)) (.bi true .repr (.cons (.var 6) .nil)))) (.cons (.ret (.con (.bl false))) .nil) .nil) .nil)))))))) (.cons (.ret (.con (.bl true))) .nil)))
def c0 : DefC := ⟨["one", "other"], ["one", "other", "many"], true, b0⟩
def c1 : DefC := ⟨["base", "made"], ["base", "made", "left", "right"], true, b1⟩
def c2 : DefC := ⟨["one", "other"], ["one", "other", "begin", "end", "inner", "start", "stop", "others"], true, b2⟩
def c3 : DefC := ⟨["base", "one", "other"], ["base", "one", "other", "begin", "end", "inner", "start", "stop", "others"], true, b3⟩
def c4 : DefC := ⟨["base", "one", "other"], ["base", "one", "other", "first", "second"], true, b4⟩
def c5 : DefC := ⟨["_law_script"], ["_law_script", "_law_cells", "_law_cell"], false, b5⟩
def c6 : DefC := ⟨["_law_drawn", "_law_many"], ["_law_drawn", "_law_many", "_law_at", "_law_primes", "_law_mixed", "_law_more", "_law_cells", "_law_turns", "_law_rests", "_law_digit"], false, b6⟩
def c7 : DefC := ⟨["_law_drawn", "_law_things"], ["_law_drawn", "_law_things"], false, b7⟩
def c8 : DefC := ⟨["_law_drawn", "_law_many"], ["_law_drawn", "_law_many", "_law_letters_here", "_law_stem", "_law_at", "_law_first", "_law_k"], false, b8⟩
def c9 : DefC := ⟨["_law_drawn"], ["_law_drawn", "_law_name", "_law_some"], false, b9⟩
def c10 : DefC := ⟨["_law_drawn", "_law_letters_here"], ["_law_drawn", "_law_letters_here", "_law_k"], false, b10⟩
def c11 : DefC := ⟨["_law_script"], ["_law_script", "_law_drawn", "_law_turn", "_law_letters_here", "_law_between", "_law_base", "_law_due", "_law_first", "_law_last", "_law_new", "_law_other", "_law_left", "_law_right", "_law_k"], false, b11⟩
def d0 : He.DefD := ⟨("begun_alike", none), "begun_alike", "begun_alike", defArgs (top 4), defBody (top 4), defScope (top 4), [], []⟩
def d1 : He.DefD := ⟨("stretch_of", none), "stretch_of", "stretch_of", defArgs (top 5), defBody (top 5), defScope (top 5), [], []⟩
def d2 : He.DefD := ⟨("is_ahead", none), "is_ahead", "is_ahead", defArgs (top 6), defBody (top 6), defScope (top 6), [], []⟩
def d3 : He.DefD := ⟨("both_made", none), "both_made", "both_made", defArgs (top 7), defBody (top 7), defScope (top 7), [], []⟩
def d4 : He.DefD := ⟨("met", none), "met", "met", defArgs (top 8), defBody (top 8), defScope (top 8), [], []⟩
def d5 : He.DefD := ⟨("_law_draws", none), "_law_draws", "_law_draws", defArgs (top 10), defBody (top 10), defScope (top 10), [], []⟩
def d6 : He.DefD := ⟨("_law_next", none), "_law_next", "_law_next", defArgs (top 11), defBody (top 11), defScope (top 11), [], []⟩
def d7 : He.DefD := ⟨("_law_one", none), "_law_one", "_law_one", defArgs (top 12), defBody (top 12), defScope (top 12), [], []⟩
def d8 : He.DefD := ⟨("_law_names", none), "_law_names", "_law_names", defArgs (top 13), defBody (top 13), defScope (top 13), [], []⟩
def d9 : He.DefD := ⟨("_law_letters", none), "_law_letters", "_law_letters", defArgs (top 14), defBody (top 14), defScope (top 14), [], []⟩
def d10 : He.DefD := ⟨("_law_row", none), "_law_row", "_law_row", defArgs (top 15), defBody (top 15), defScope (top 15), [], []⟩
def d11 : He.DefD := ⟨("law", none), "law", "law", defArgs (top 16), defBody (top 16), defScope (top 16), [], []⟩
def cs : List DefC := [c0, c1, c2, c3, c4, c5, c6, c7, c8, c9, c10, c11]
def cons : List (Str × D) := []
def txt : Txt := ⟨[d0, d1, d2, d3, d4, d5, d6, d7, d8, d9, d10, d11], cons, ["int", "len", "list", "min", "range", "repr", "tuple"]⟩
def mu : List (Nat × Nat) := [(41, 11), (41, 27)]
abbrev pr : Prog := progOf txt cs
theorem g0 : Good (tabOf txt cs mu) d0 c0 := ⟨rfl, by kernel_rfl, rfl, rfl, fun _ _ _ _ _ _ us hl => match us, hl with | [_, _], _ => rfl, by kernel_rfl⟩
theorem g1 : Good (tabOf txt cs mu) d1 c1 := ⟨rfl, by kernel_rfl, rfl, rfl, fun _ _ _ _ _ _ us hl => match us, hl with | [_, _], _ => rfl, by kernel_rfl⟩
theorem g2 : Good (tabOf txt cs mu) d2 c2 := ⟨rfl, by kernel_rfl, rfl, rfl, fun _ _ _ _ _ _ us hl => match us, hl with | [_, _], _ => rfl, by kernel_rfl⟩
theorem g3 : Good (tabOf txt cs mu) d3 c3 := ⟨rfl, by kernel_rfl, rfl, rfl, fun _ _ _ _ _ _ us hl => match us, hl with | [_, _, _], _ => rfl, by kernel_rfl⟩
theorem g4 : Good (tabOf txt cs mu) d4 c4 := ⟨rfl, by kernel_rfl, rfl, rfl, fun _ _ _ _ _ _ us hl => match us, hl with | [_, _, _], _ => rfl, by kernel_rfl⟩
theorem g5 : Good (tabOf txt cs mu) d5 c5 := ⟨rfl, by kernel_rfl, rfl, rfl, fun _ _ _ _ _ _ us hl => match us, hl with | [_], _ => rfl, by kernel_rfl⟩
theorem g6 : Good (tabOf txt cs mu) d6 c6 := ⟨rfl, by kernel_rfl, rfl, rfl, fun _ _ _ _ _ _ us hl => match us, hl with | [_, _], _ => rfl, by kernel_rfl⟩
theorem g7 : Good (tabOf txt cs mu) d7 c7 := ⟨rfl, by kernel_rfl, rfl, rfl, fun _ _ _ _ _ _ us hl => match us, hl with | [_, _], _ => rfl, by kernel_rfl⟩
theorem g8 : Good (tabOf txt cs mu) d8 c8 := ⟨rfl, by kernel_rfl, rfl, rfl, fun _ _ _ _ _ _ us hl => match us, hl with | [_, _], _ => rfl, by kernel_rfl⟩
theorem g9 : Good (tabOf txt cs mu) d9 c9 := ⟨rfl, by kernel_rfl, rfl, rfl, fun _ _ _ _ _ _ us hl => match us, hl with | [_], _ => rfl, by kernel_rfl⟩
theorem g10 : Good (tabOf txt cs mu) d10 c10 := ⟨rfl, by kernel_rfl, rfl, rfl, fun _ _ _ _ _ _ us hl => match us, hl with | [_, _], _ => rfl, by kernel_rfl⟩
theorem g11 : Good (tabOf txt cs mu) d11 c11 := ⟨rfl, by kernel_rfl, rfl, rfl, fun _ _ _ _ _ _ us hl => match us, hl with | [_], _ => rfl, by kernel_rfl⟩
theorem goods : Goods (tabOf txt cs mu) txt.defs cs := .cons g0 (.cons g1 (.cons g2 (.cons g3 (.cons g4 (.cons g5 (.cons g6 (.cons g7 (.cons g8 (.cons g9 (.cons g10 (.cons g11 (.nil))))))))))))
abbrev hk : PySem.W.Hook := txt.hook 5
def ob (s : PySem.W.SharedT) := txt.obsG 5 (HandSHeadRun.getT s)
theorem ob_eq (s : PySem.W.SharedT) : ob s = hk.obs s.abs := Txt.obsG_eq txt (HandSHeadRun.getT_eq s)
def loose : List Str := ["begun_alike", "stretch_of", "is_ahead", "both_made", "met", "_law_draws", "_law_next", "_law_one", "_law_names", "_law_letters", "_law_row", "HouseError", "Clash"]
theorem run (w : World) : HandSHeadRun.RunEq (PySem.W.OpenLaw.row PySem.Challenge.rw_tonguehouse_k41_changes_far_apart) (PySem.W.view ((PySem.W.OpenLaw.row PySem.Challenge.rw_tonguehouse_k41_changes_far_apart)).prog [16]) hk ob 1620 loose w := by
  intro os
  kernel_rfl
/-- from the plain law to the row -/
theorem row_of (hlaw : ∀ ns : List Int, ns.length ≤ 63 → ∃ M, callN pr 40 11 [.d (.scr ns)] [] = .ok (.d (.bl true)) M) : PySem.Challenge.rw_tonguehouse_k41_changes_far_apart.Holds := by
  w_on; o_law
  refine HandSHeadRun.head_any (r := (PySem.W.OpenLaw.row PySem.Challenge.rw_tonguehouse_k41_changes_far_apart)) (q := PySem.W.view ((PySem.W.OpenLaw.row PySem.Challenge.rw_tonguehouse_k41_changes_far_apart)).prog [16]) (H := hk) (ob := ob) (M := 1620) (loose := loose) (d := HandSHeadRun.topDef ((PySem.W.OpenLaw.row PySem.Challenge.rw_tonguehouse_k41_changes_far_apart)).prog 16) (kwd := []) ob_eq
    (by kernel_rfl) (fun s => by kernel_rfl) run (by kernel_rfl) (by kernel_rfl) (by kernel_rfl) (by rfl) (by first | assumption | decide +kernel) (by decide +kernel) ⟨rfl, rfl, rfl, rfl, rfl, by decide +kernel⟩ ?hw ?hc
  case hw => w_witness2
  case hc =>
    exact walk_txt (l := PySem.Challenge.rw_tonguehouse_k41_changes_far_apart) (t := txt) (cs := cs) (mu := mu) (n := 63) (k := 40) (f := 11) (dd := d11) (c := c11) rfl (by decide) (by kernel_rfl) ⟨rfl, by decide, by decide⟩ goods rfl rfl rfl (by kernel_rfl) hlaw
end Rf.K41

namespace Rf.K41
open PySem PySem.Spec PyProof.Rows L2 Rf
/-! ### how far two rows begin alike -/
def lcp : List D → List D → Nat
  | x :: xs, y :: ys => if D.eq x y then lcp xs ys + 1 else 0
  | _, _ => 0
theorem lcp_le1 : ∀ xs ys : List D, lcp xs ys ≤ xs.length
  | [], _ => Nat.zero_le _
  | x :: xs, [] => Nat.zero_le _
  | x :: xs, y :: ys => by
    show (if D.eq x y then lcp xs ys + 1 else 0) ≤ xs.length + 1
    have := lcp_le1 xs ys
    split <;> omega
theorem lcp_le2 : ∀ xs ys : List D, lcp xs ys ≤ ys.length
  | [], _ => Nat.zero_le _
  | x :: xs, [] => Nat.zero_le _
  | x :: xs, y :: ys => by
    show (if D.eq x y then lcp xs ys + 1 else 0) ≤ ys.length + 1
    have := lcp_le2 xs ys
    split <;> omega
theorem lcp_take : ∀ {xs ys : List D}, (∀ x ∈ xs, Kin x) → (∀ y ∈ ys, Kin y) → xs.take (lcp xs ys) = ys.take (lcp xs ys)
  | [], _, _, _ => by simp [lcp]
  | x :: xs, [], _, _ => by simp [lcp]
  | x :: xs, y :: ys, hx, hy => by
    show (x :: xs).take (if D.eq x y then lcp xs ys + 1 else 0) = (y :: ys).take (if D.eq x y then lcp xs ys + 1 else 0)
    by_cases h : D.eq x y = true
    · rw [if_pos h, List.take_succ_cons, List.take_succ_cons, lcp_take (fun z hz => hx z (List.mem_cons_of_mem _ hz)) (fun z hz => hy z (List.mem_cons_of_mem _ hz)), eq_of_eq (hx x List.mem_cons_self).2 (hy y List.mem_cons_self).2 h]
    · rw [if_neg h, List.take_zero, List.take_zero]
theorem lcp_app : ∀ (p : List D) (xs ys : List D), (∀ x ∈ p, Kin x) → p.length ≤ lcp (p ++ xs) (p ++ ys)
  | [], _, _, _ => Nat.zero_le _
  | x :: p, xs, ys, h => by
    show p.length + 1 ≤ (if D.eq x x then lcp (p ++ xs) (p ++ ys) + 1 else 0)
    rw [if_pos (eq_refl (h x List.mem_cons_self).1.1)]
    have := lcp_app p xs ys fun z hz => h z (List.mem_cons_of_mem _ hz)
    omega
theorem lcp_drop : ∀ (j : Nat) (xs ys : List D), j ≤ lcp xs ys → lcp xs ys = j + lcp (xs.drop j) (ys.drop j)
  | 0, _, _, _ => by simp
  | j + 1, [], _, h => by simp [lcp] at h
  | j + 1, x :: xs, [], h => by simp [lcp] at h
  | j + 1, x :: xs, y :: ys, h => by
    have e : lcp (x :: xs) (y :: ys) = (if D.eq x y then lcp xs ys + 1 else 0) := rfl
    rw [e] at h ⊢
    split at h
    · rename_i hq
      rw [if_pos hq, List.drop_succ_cons, List.drop_succ_cons, lcp_drop j xs ys (by omega)]
      omega
    · omega
theorem begun_ok (k : Nat) (xs ys : List D) (hx : ∀ x ∈ xs, Kin x) (hy : ∀ y ∈ ys, Kin y) (hl : xs.length ≤ 1000) (M : Mem) : callN pr (k + 1) 0 [.d (.tup xs), .d (.tup ys)] M = .ok (.d (.int (lcp xs ys : Nat))) M := by
  refine call_pd (fn := cOf c0) (m' := []) (ds := [.tup xs, .tup ys]) rfl rfl rfl ?_
  show runB _ ⟨2, 3, true, b0⟩ _ _ = _
  rw [runB_eq rfl]
  have mn : ∀ m, biV true .min2 [.d (.int (xs.length : Nat)), .d (.int (ys.length : Nat))] m = .ok (.d (.int (min xs.length ys.length : Nat))) m := fun m => by
    rw [mn_i]
    have : (if ((ys.length : Nat) : Int) < ((xs.length : Nat) : Int) then ((ys.length : Nat) : Int) else ((xs.length : Nat) : Int)) = ((min xs.length ys.length : Nat) : Int) := by split <;> omega
    rw [this]
  have loop : ∀ (d n j : Nat), d = lcp xs ys - j → j ≤ lcp xs ys → d < n → whiL (wC ⟨callN pr k, pr.glo, WF⟩ (.and (.cmp .lt (.var 2) (.bi true .min2 (.cons (.bi true .len (.cons (.var 0) .nil)) (.cons (.bi true .len (.cons (.var 1) .nil)) .nil)))) (.cmp .eq (.idx (.var 0) (.var 2)) (.idx (.var 1) (.var 2))))) (wB ⟨callN pr k, pr.glo, WF⟩ (.cons (.aug 2 .add (.con (.int 1))) .nil)) n [some (.d (.tup xs)), some (.d (.tup ys)), some (.d (.int (j : Nat)))] [] = .ok (.nx [some (.d (.tup xs)), some (.d (.tup ys)), some (.d (.int (lcp xs ys : Nat)))]) [] := by
    intro d
    induction d with
    | zero =>
      intro n j hd hj hn
      obtain ⟨n, rfl⟩ : ∃ q, n = q + 1 := ⟨n - 1, by omega⟩
      have hje : j = lcp xs ys := by omega
      subst hje
      refine wh_f ?_
      unfold wC
      by_cases hm : lcp xs ys < min xs.length ys.length
      · have z1 : decide (((lcp xs ys : Nat) : Int) < ((min xs.length ys.length : Nat) : Int)) = true := decide_eq_true (by omega)
        obtain ⟨x, hxx⟩ : ∃ x, xs[lcp xs ys]? = some x := ⟨_, List.getElem?_eq_getElem (by omega)⟩
        obtain ⟨y, hyy⟩ : ∃ y, ys[lcp xs ys]? = some y := ⟨_, List.getElem?_eq_getElem (by omega)⟩
        have i1 := atN hxx
        have i2 := atN hyy
        have ne : D.eq x y = false := by
          cases h : D.eq x y with
          | false => rfl
          | true =>
            have := lcp_drop (lcp xs ys) xs ys (Nat.le_refl _)
            have e1 : xs.drop (lcp xs ys) = x :: xs.drop (lcp xs ys + 1) := by
              obtain ⟨hh, e⟩ := List.getElem?_eq_some_iff.mp hxx
              rw [← e]
              exact List.drop_eq_getElem_cons hh
            have e2 : ys.drop (lcp xs ys) = y :: ys.drop (lcp xs ys + 1) := by
              obtain ⟨hh, e⟩ := List.getElem?_eq_some_iff.mp hyy
              rw [← e]
              exact List.drop_eq_getElem_cons hh
            rw [e1, e2] at this
            have e3 : lcp (x :: xs.drop (lcp xs ys + 1)) (y :: ys.drop (lcp xs ys + 1)) = lcp (xs.drop (lcp xs ys + 1)) (ys.drop (lcp xs ys + 1)) + 1 := if_pos h
            omega
        have q := c_eqd (m := []) (kin_eqOk (hx x (List.mem_of_getElem? hxx)) (hy y (List.mem_of_getElem? hyy)))
        rw [ne] at q
        simp (disch := first | omega | (simp only [List.length_append, List.length_cons, List.length_nil, List.length_map, List.length_take, List.length_drop]; omega)) only [xs_cons, xs_nil, nxt_nx, nxt_rt, nxt_bk, nxt_ct, x_asg, x_set, x_aug, au_i, au_s, x_ex, x_ret, x_iff, x_forr, x_whil, x_par, x_pass, x_brk, x_cnt, q_var, gv, q_con, q_glo, q_tup, q_lst, q_bin, neg_i, q_cmp, q_and, q_or, q_not, q_ite, q_idx, ik_r, ik_s, ik_l, ik_t, ik_ds, c_ind, q_dct, q_slc, pv_t, pv_f, q_rev, q_call, q_bi, q_mth, q_isi, q_cmpr, q_nil, q_cons, y_ex, y_rng, y_rng3, turn_nm, lturn_nm, lturn_tup, forL_wkL, fd_nil, fd_cons, fx_nx, fx_ct, fx_bk, fx_rt, as_nm, as_tup, as_tupl, as_nil, as_cons, wp_nil, wp_cons, pa_nil', pa_cons', List.map_cons, List.map_nil, List.replicate, List.cons_append, List.nil_append, Nat.reduceSub, Nat.reduceAdd, List.getElem?_cons_zero, List.getElem?_cons_succ, List.set_cons_zero, List.set_cons_succ, r_ok, r_opt, b_add, b_sub, b_mul, b_div, b_mod, b_adds, c_lt, c_le, c_gt, c_ge, c_eq, c_ne, c_eqs, c_nes, c_ins, c_nis, v_b, t_b, l_s, l_l, l_t, i_s, i_l, i_t, m_t, m_r, dt_n, dt_c, datas_map, o_some, ob_some, w_rng, w_rng3, w_str, w_tup, w_lst, sl_s, sl_t, sl_l, n_b, n_i, tu_l, mn_i, k_s, k_i, k_b, k_t, decide_true, decide_false, Bool.not_true, Bool.not_false, q_chn, c_eqb, c_neb, c_isb, c_inb, c_isN, c_inN, al_l, an_l, or_s, k_n, k_l, rv_t, t_n, q_not', mn, z1, i1, i2, q]
      · have z1 : decide (((lcp xs ys : Nat) : Int) < ((min xs.length ys.length : Nat) : Int)) = false := decide_eq_false (by omega)
        simp (disch := first | omega | (simp only [List.length_append, List.length_cons, List.length_nil, List.length_map, List.length_take, List.length_drop]; omega)) only [xs_cons, xs_nil, nxt_nx, nxt_rt, nxt_bk, nxt_ct, x_asg, x_set, x_aug, au_i, au_s, x_ex, x_ret, x_iff, x_forr, x_whil, x_par, x_pass, x_brk, x_cnt, q_var, gv, q_con, q_glo, q_tup, q_lst, q_bin, neg_i, q_cmp, q_and, q_or, q_not, q_ite, q_idx, ik_r, ik_s, ik_l, ik_t, ik_ds, c_ind, q_dct, q_slc, pv_t, pv_f, q_rev, q_call, q_bi, q_mth, q_isi, q_cmpr, q_nil, q_cons, y_ex, y_rng, y_rng3, turn_nm, lturn_nm, lturn_tup, forL_wkL, fd_nil, fd_cons, fx_nx, fx_ct, fx_bk, fx_rt, as_nm, as_tup, as_tupl, as_nil, as_cons, wp_nil, wp_cons, pa_nil', pa_cons', List.map_cons, List.map_nil, List.replicate, List.cons_append, List.nil_append, Nat.reduceSub, Nat.reduceAdd, List.getElem?_cons_zero, List.getElem?_cons_succ, List.set_cons_zero, List.set_cons_succ, r_ok, r_opt, b_add, b_sub, b_mul, b_div, b_mod, b_adds, c_lt, c_le, c_gt, c_ge, c_eq, c_ne, c_eqs, c_nes, c_ins, c_nis, v_b, t_b, l_s, l_l, l_t, i_s, i_l, i_t, m_t, m_r, dt_n, dt_c, datas_map, o_some, ob_some, w_rng, w_rng3, w_str, w_tup, w_lst, sl_s, sl_t, sl_l, n_b, n_i, tu_l, mn_i, k_s, k_i, k_b, k_t, decide_true, decide_false, Bool.not_true, Bool.not_false, q_chn, c_eqb, c_neb, c_isb, c_inb, c_isN, c_inN, al_l, an_l, or_s, k_n, k_l, rv_t, t_n, q_not', mn, z1]
    | succ d ih =>
      intro n j hd hj hn
      obtain ⟨n, rfl⟩ : ∃ q, n = q + 1 := ⟨n - 1, by omega⟩
      have h1 := lcp_le1 xs ys
      have h2 := lcp_le2 xs ys
      have z1 : decide (((j : Nat) : Int) < ((min xs.length ys.length : Nat) : Int)) = true := decide_eq_true (by omega)
      obtain ⟨x, hxx⟩ : ∃ x, xs[j]? = some x := ⟨_, List.getElem?_eq_getElem (by omega)⟩
      obtain ⟨y, hyy⟩ : ∃ y, ys[j]? = some y := ⟨_, List.getElem?_eq_getElem (by omega)⟩
      have i1 := atN hxx
      have i2 := atN hyy
      have eqx : D.eq x y = true := by
        have := lcp_drop j xs ys hj
        have e1 : xs.drop j = x :: xs.drop (j + 1) := by
          obtain ⟨hh, e⟩ := List.getElem?_eq_some_iff.mp hxx
          rw [← e]
          exact List.drop_eq_getElem_cons hh
        have e2 : ys.drop j = y :: ys.drop (j + 1) := by
          obtain ⟨hh, e⟩ := List.getElem?_eq_some_iff.mp hyy
          rw [← e]
          exact List.drop_eq_getElem_cons hh
        rw [e1, e2] at this
        cases h : D.eq x y with
        | true => rfl
        | false =>
          have e3 : lcp (x :: xs.drop (j + 1)) (y :: ys.drop (j + 1)) = 0 := if_neg (by rw [h]; decide)
          omega
      have q := c_eqd (m := []) (kin_eqOk (hx x (List.mem_of_getElem? hxx)) (hy y (List.mem_of_getElem? hyy)))
      rw [eqx] at q
      have hc : wC ⟨callN pr k, pr.glo, WF⟩ (.and (.cmp .lt (.var 2) (.bi true .min2 (.cons (.bi true .len (.cons (.var 0) .nil)) (.cons (.bi true .len (.cons (.var 1) .nil)) .nil)))) (.cmp .eq (.idx (.var 0) (.var 2)) (.idx (.var 1) (.var 2)))) [some (.d (.tup xs)), some (.d (.tup ys)), some (.d (.int (j : Nat)))] [] = .ok true [] := by
        unfold wC
        simp (disch := first | omega | (simp only [List.length_append, List.length_cons, List.length_nil, List.length_map, List.length_take, List.length_drop]; omega)) only [xs_cons, xs_nil, nxt_nx, nxt_rt, nxt_bk, nxt_ct, x_asg, x_set, x_aug, au_i, au_s, x_ex, x_ret, x_iff, x_forr, x_whil, x_par, x_pass, x_brk, x_cnt, q_var, gv, q_con, q_glo, q_tup, q_lst, q_bin, neg_i, q_cmp, q_and, q_or, q_not, q_ite, q_idx, ik_r, ik_s, ik_l, ik_t, ik_ds, c_ind, q_dct, q_slc, pv_t, pv_f, q_rev, q_call, q_bi, q_mth, q_isi, q_cmpr, q_nil, q_cons, y_ex, y_rng, y_rng3, turn_nm, lturn_nm, lturn_tup, forL_wkL, fd_nil, fd_cons, fx_nx, fx_ct, fx_bk, fx_rt, as_nm, as_tup, as_tupl, as_nil, as_cons, wp_nil, wp_cons, pa_nil', pa_cons', List.map_cons, List.map_nil, List.replicate, List.cons_append, List.nil_append, Nat.reduceSub, Nat.reduceAdd, List.getElem?_cons_zero, List.getElem?_cons_succ, List.set_cons_zero, List.set_cons_succ, r_ok, r_opt, b_add, b_sub, b_mul, b_div, b_mod, b_adds, c_lt, c_le, c_gt, c_ge, c_eq, c_ne, c_eqs, c_nes, c_ins, c_nis, v_b, t_b, l_s, l_l, l_t, i_s, i_l, i_t, m_t, m_r, dt_n, dt_c, datas_map, o_some, ob_some, w_rng, w_rng3, w_str, w_tup, w_lst, sl_s, sl_t, sl_l, n_b, n_i, tu_l, mn_i, k_s, k_i, k_b, k_t, decide_true, decide_false, Bool.not_true, Bool.not_false, q_chn, c_eqb, c_neb, c_isb, c_inb, c_isN, c_inN, al_l, an_l, or_s, k_n, k_l, rv_t, t_n, q_not', mn, z1, i1, i2, q]
      have hb : wB ⟨callN pr k, pr.glo, WF⟩ (.cons (.aug 2 .add (.con (.int 1))) .nil) [some (.d (.tup xs)), some (.d (.tup ys)), some (.d (.int (j : Nat)))] [] = .ok (.nx [some (.d (.tup xs)), some (.d (.tup ys)), some (.d (.int (j + 1 : Nat)))]) [] := by
        unfold wB
        simp (disch := first | omega | (simp only [List.length_append, List.length_cons, List.length_nil, List.length_map, List.length_take, List.length_drop]; omega)) only [xs_cons, xs_nil, nxt_nx, nxt_rt, nxt_bk, nxt_ct, x_asg, x_set, x_aug, au_i, au_s, x_ex, x_ret, x_iff, x_forr, x_whil, x_par, x_pass, x_brk, x_cnt, q_var, gv, q_con, q_glo, q_tup, q_lst, q_bin, neg_i, q_cmp, q_and, q_or, q_not, q_ite, q_idx, ik_r, ik_s, ik_l, ik_t, ik_ds, c_ind, q_dct, q_slc, pv_t, pv_f, q_rev, q_call, q_bi, q_mth, q_isi, q_cmpr, q_nil, q_cons, y_ex, y_rng, y_rng3, turn_nm, lturn_nm, lturn_tup, forL_wkL, fd_nil, fd_cons, fx_nx, fx_ct, fx_bk, fx_rt, as_nm, as_tup, as_tupl, as_nil, as_cons, wp_nil, wp_cons, pa_nil', pa_cons', List.map_cons, List.map_nil, List.replicate, List.cons_append, List.nil_append, Nat.reduceSub, Nat.reduceAdd, List.getElem?_cons_zero, List.getElem?_cons_succ, List.set_cons_zero, List.set_cons_succ, r_ok, r_opt, b_add, b_sub, b_mul, b_div, b_mod, b_adds, c_lt, c_le, c_gt, c_ge, c_eq, c_ne, c_eqs, c_nes, c_ins, c_nis, v_b, t_b, l_s, l_l, l_t, i_s, i_l, i_t, m_t, m_r, dt_n, dt_c, datas_map, o_some, ob_some, w_rng, w_rng3, w_str, w_tup, w_lst, sl_s, sl_t, sl_l, n_b, n_i, tu_l, mn_i, k_s, k_i, k_b, k_t, decide_true, decide_false, Bool.not_true, Bool.not_false, q_chn, c_eqb, c_neb, c_isb, c_inb, c_isN, c_inN, al_l, an_l, or_s, k_n, k_l, rv_t, t_n, q_not']
        rfl
      rw [wh_t hc hb]
      exact ih n (j + 1) (by omega) (by omega) (by omega)
  have h1 := lcp_le1 xs ys
  have hw : lcp xs ys - 0 < WF := by have : 1000 < WF := (by decide); omega
  have := loop _ WF 0 rfl (Nat.zero_le _) hw
  have hb : b0 = .cons (.asg (.nm 2) (.con (.int 0))) (.cons (.whil (.and (.cmp .lt (.var 2) (.bi true .min2 (.cons (.bi true .len (.cons (.var 0) .nil)) (.cons (.bi true .len (.cons (.var 1) .nil)) .nil)))) (.cmp .eq (.idx (.var 0) (.var 2)) (.idx (.var 1) (.var 2)))) (.cons (.aug 2 .add (.con (.int 1))) .nil)) (.cons (.ret (.var 2)) .nil)) := rfl
  rw [hb]
  have this : whiL _ _ WF [some (.d (.tup xs)), some (.d (.tup ys)), some (.d (.int 0))] [] = _ := this
  simp (disch := first | omega | (simp only [List.length_append, List.length_cons, List.length_nil, List.length_map, List.length_take, List.length_drop]; omega)) only [xs_cons, xs_nil, nxt_nx, nxt_rt, nxt_bk, nxt_ct, x_asg, x_set, x_aug, au_i, au_s, x_ex, x_ret, x_iff, x_forr, x_whil, x_par, x_pass, x_brk, x_cnt, q_var, gv, q_con, q_glo, q_tup, q_lst, q_bin, neg_i, q_cmp, q_and, q_or, q_not, q_ite, q_idx, ik_r, ik_s, ik_l, ik_t, ik_ds, c_ind, q_dct, q_slc, pv_t, pv_f, q_rev, q_call, q_bi, q_mth, q_isi, q_cmpr, q_nil, q_cons, y_ex, y_rng, y_rng3, turn_nm, lturn_nm, lturn_tup, forL_wkL, fd_nil, fd_cons, fx_nx, fx_ct, fx_bk, fx_rt, as_nm, as_tup, as_tupl, as_nil, as_cons, wp_nil, wp_cons, pa_nil', pa_cons', List.map_cons, List.map_nil, List.replicate, List.cons_append, List.nil_append, Nat.reduceSub, Nat.reduceAdd, List.getElem?_cons_zero, List.getElem?_cons_succ, List.set_cons_zero, List.set_cons_succ, r_ok, r_opt, b_add, b_sub, b_mul, b_div, b_mod, b_adds, c_lt, c_le, c_gt, c_ge, c_eq, c_ne, c_eqs, c_nes, c_ins, c_nis, v_b, t_b, l_s, l_l, l_t, i_s, i_l, i_t, m_t, m_r, dt_n, dt_c, datas_map, o_some, ob_some, w_rng, w_rng3, w_str, w_tup, w_lst, sl_s, sl_t, sl_l, n_b, n_i, tu_l, mn_i, k_s, k_i, k_b, k_t, decide_true, decide_false, Bool.not_true, Bool.not_false, q_chn, c_eqb, c_neb, c_isb, c_inb, c_isN, c_inN, al_l, an_l, or_s, k_n, k_l, rv_t, t_n, q_not']
  rw [this]
  simp (disch := first | omega | (simp only [List.length_append, List.length_cons, List.length_nil, List.length_map, List.length_take, List.length_drop]; omega)) only [xs_cons, xs_nil, nxt_nx, nxt_rt, nxt_bk, nxt_ct, x_asg, x_set, x_aug, au_i, au_s, x_ex, x_ret, x_iff, x_forr, x_whil, x_par, x_pass, x_brk, x_cnt, q_var, gv, q_con, q_glo, q_tup, q_lst, q_bin, neg_i, q_cmp, q_and, q_or, q_not, q_ite, q_idx, ik_r, ik_s, ik_l, ik_t, ik_ds, c_ind, q_dct, q_slc, pv_t, pv_f, q_rev, q_call, q_bi, q_mth, q_isi, q_cmpr, q_nil, q_cons, y_ex, y_rng, y_rng3, turn_nm, lturn_nm, lturn_tup, forL_wkL, fd_nil, fd_cons, fx_nx, fx_ct, fx_bk, fx_rt, as_nm, as_tup, as_tupl, as_nil, as_cons, wp_nil, wp_cons, pa_nil', pa_cons', List.map_cons, List.map_nil, List.replicate, List.cons_append, List.nil_append, Nat.reduceSub, Nat.reduceAdd, List.getElem?_cons_zero, List.getElem?_cons_succ, List.set_cons_zero, List.set_cons_succ, r_ok, r_opt, b_add, b_sub, b_mul, b_div, b_mod, b_adds, c_lt, c_le, c_gt, c_ge, c_eq, c_ne, c_eqs, c_nes, c_ins, c_nis, v_b, t_b, l_s, l_l, l_t, i_s, i_l, i_t, m_t, m_r, dt_n, dt_c, datas_map, o_some, ob_some, w_rng, w_rng3, w_str, w_tup, w_lst, sl_s, sl_t, sl_l, n_b, n_i, tu_l, mn_i, k_s, k_i, k_b, k_t, decide_true, decide_false, Bool.not_true, Bool.not_false, q_chn, c_eqb, c_neb, c_isb, c_inb, c_isN, c_inN, al_l, an_l, or_s, k_n, k_l, rv_t, t_n, q_not']
/-! ### the stretch that is changed -/
def stL (b m : List D) : Nat := lcp b m
def stR (b m : List D) : Nat := lcp (b.drop (stL b m)).reverse (m.drop (stL b m)).reverse
def stE (b m : List D) : Nat := b.length - stR b m
def stI (b m : List D) : List D := (m.drop (stL b m)).take (m.length - stR b m - stL b m)
def stD (b m : List D) : D := .tup [.int (stL b m : Nat), .int (stE b m : Nat), .tup (stI b m)]
theorem kin_rev {xs : List D} {l : Nat} (h : ∀ x ∈ xs, Kin x) : ∀ x ∈ (xs.drop l).reverse, Kin x := fun x hx => h x (List.mem_of_mem_drop (List.mem_reverse.mp hx))
theorem stR_le {b m : List D} : stR b m ≤ b.length - stL b m ∧ stR b m ≤ m.length - stL b m := by
  have h1 := lcp_le1 (b.drop (stL b m)).reverse (m.drop (stL b m)).reverse
  have h2 := lcp_le2 (b.drop (stL b m)).reverse (m.drop (stL b m)).reverse
  rw [List.length_reverse, List.length_drop] at h1 h2
  exact ⟨h1, h2⟩
theorem stretch_ok (k : Nat) (b m : List D) (hb : ∀ x ∈ b, Kin x) (hm : ∀ y ∈ m, Kin y) (hl : b.length ≤ 1000) (M : Mem) : callN pr (k + 2) 1 [.d (.tup b), .d (.tup m)] M = .ok (.d (stD b m)) M := by
  refine call_pd (fn := cOf c1) (m' := []) (ds := [.tup b, .tup m]) rfl rfl rfl ?_
  show runB _ ⟨2, 4, true, b1⟩ _ _ = _
  rw [runB_eq rfl]
  have e1 : callN pr (k + 1) 0 [.d (.tup b), .d (.tup m)] [] = .ok (.d (.int (stL b m : Nat))) [] := begun_ok k b m hb hm hl []
  have e2 : callN pr (k + 1) 0 [.d (.tup (b.drop (stL b m)).reverse), .d (.tup (m.drop (stL b m)).reverse)] [] = .ok (.d (.int (stR b m : Nat))) [] := begun_ok k _ _ (kin_rev hb) (kin_rev hm) (by rw [List.length_reverse, List.length_drop]; omega) []
  obtain ⟨r1, r2⟩ := stR_le (b := b) (m := m)
  have l1 := lcp_le1 b m
  have l2 := lcp_le2 b m
  have s1 : ((b.length : Nat) : Int) - ((stR b m : Nat) : Int) = ((stE b m : Nat) : Int) := by unfold stE; omega
  have s2 : ((m.length : Nat) : Int) - ((stR b m : Nat) : Int) = ((m.length - stR b m : Nat) : Int) := by omega
  have c3 : cut m (some ((stL b m : Nat) : Int)) (some ((m.length - stR b m : Nat) : Int)) = stI b m := cut_both (show stL b m ≤ m.length from l2) (by omega)
  simp (disch := first | omega | (simp only [List.length_append, List.length_cons, List.length_nil, List.length_map, List.length_take, List.length_drop]; omega)) only [b1, xs_cons, xs_nil, nxt_nx, nxt_rt, nxt_bk, nxt_ct, x_asg, x_set, x_aug, au_i, au_s, x_ex, x_ret, x_iff, x_forr, x_whil, x_par, x_pass, x_brk, x_cnt, q_var, gv, q_con, q_glo, q_tup, q_lst, q_bin, neg_i, q_cmp, q_and, q_or, q_not, q_ite, q_idx, ik_r, ik_s, ik_l, ik_t, ik_ds, c_ind, q_dct, q_slc, pv_t, pv_f, q_rev, q_call, q_bi, q_mth, q_isi, q_cmpr, q_nil, q_cons, y_ex, y_rng, y_rng3, turn_nm, lturn_nm, lturn_tup, forL_wkL, fd_nil, fd_cons, fx_nx, fx_ct, fx_bk, fx_rt, as_nm, as_tup, as_tupl, as_nil, as_cons, wp_nil, wp_cons, pa_nil', pa_cons', List.map_cons, List.map_nil, List.replicate, List.cons_append, List.nil_append, Nat.reduceSub, Nat.reduceAdd, List.getElem?_cons_zero, List.getElem?_cons_succ, List.set_cons_zero, List.set_cons_succ, r_ok, r_opt, b_add, b_sub, b_mul, b_div, b_mod, b_adds, c_lt, c_le, c_gt, c_ge, c_eq, c_ne, c_eqs, c_nes, c_ins, c_nis, v_b, t_b, l_s, l_l, l_t, i_s, i_l, i_t, m_t, m_r, dt_n, dt_c, datas_map, o_some, ob_some, w_rng, w_rng3, w_str, w_tup, w_lst, sl_s, sl_t, sl_l, n_b, n_i, tu_l, mn_i, k_s, k_i, k_b, k_t, decide_true, decide_false, Bool.not_true, Bool.not_false, q_chn, c_eqb, c_neb, c_isb, c_inb, c_isN, c_inN, al_l, an_l, or_s, k_n, k_l, rv_t, t_n, q_not', e1, cut_drop, e2, s1, s2, c3]
  rfl
theorem ahead_ok (k : Nat) (l e l' e' : Nat) (i i' : D) (M : Mem) : callN pr (k + 1) 2 [.d (.tup [.int l, .int e, i]), .d (.tup [.int l', .int e', i'])] M = .ok (.d (.bl (decide (e ≤ l') && !decide (l = e')))) M := by
  refine call_pd (fn := cOf c2) (m' := []) (ds := [.tup [.int l, .int e, i], .tup [.int l', .int e', i']]) rfl rfl rfl ?_
  show runB _ ⟨2, 8, true, b2⟩ _ _ = _
  rw [runB_eq rfl]
  have z1 : decide ((e : Int) ≤ (l' : Int)) = decide (e ≤ l') := by
    rw [Bool.eq_iff_iff, decide_eq_true_eq, decide_eq_true_eq]; omega
  have z2 : decide ((l : Int) = (e' : Int)) = decide (l = e') := by
    rw [Bool.eq_iff_iff, decide_eq_true_eq, decide_eq_true_eq]; omega
  cases h : decide (e ≤ l') with
  | false =>
    rw [h] at z1
    simp (disch := first | omega | (simp only [List.length_append, List.length_cons, List.length_nil, List.length_map, List.length_take, List.length_drop]; omega)) only [b2, xs_cons, xs_nil, nxt_nx, nxt_rt, nxt_bk, nxt_ct, x_asg, x_set, x_aug, au_i, au_s, x_ex, x_ret, x_iff, x_forr, x_whil, x_par, x_pass, x_brk, x_cnt, q_var, gv, q_con, q_glo, q_tup, q_lst, q_bin, neg_i, q_cmp, q_and, q_or, q_not, q_ite, q_idx, ik_r, ik_s, ik_l, ik_t, ik_ds, c_ind, q_dct, q_slc, pv_t, pv_f, q_rev, q_call, q_bi, q_mth, q_isi, q_cmpr, q_nil, q_cons, y_ex, y_rng, y_rng3, turn_nm, lturn_nm, lturn_tup, forL_wkL, fd_nil, fd_cons, fx_nx, fx_ct, fx_bk, fx_rt, as_nm, as_tup, as_tupl, as_nil, as_cons, wp_nil, wp_cons, pa_nil', pa_cons', List.map_cons, List.map_nil, List.replicate, List.cons_append, List.nil_append, Nat.reduceSub, Nat.reduceAdd, List.getElem?_cons_zero, List.getElem?_cons_succ, List.set_cons_zero, List.set_cons_succ, r_ok, r_opt, b_add, b_sub, b_mul, b_div, b_mod, b_adds, c_lt, c_le, c_gt, c_ge, c_eq, c_ne, c_eqs, c_nes, c_ins, c_nis, v_b, t_b, l_s, l_l, l_t, i_s, i_l, i_t, m_t, m_r, dt_n, dt_c, datas_map, o_some, ob_some, w_rng, w_rng3, w_str, w_tup, w_lst, sl_s, sl_t, sl_l, n_b, n_i, tu_l, mn_i, k_s, k_i, k_b, k_t, decide_true, decide_false, Bool.not_true, Bool.not_false, q_chn, c_eqb, c_neb, c_isb, c_inb, c_isN, c_inN, al_l, an_l, or_s, k_n, k_l, rv_t, t_n, q_not', z1]
    rfl
  | true =>
    rw [h] at z1
    simp (disch := first | omega | (simp only [List.length_append, List.length_cons, List.length_nil, List.length_map, List.length_take, List.length_drop]; omega)) only [b2, xs_cons, xs_nil, nxt_nx, nxt_rt, nxt_bk, nxt_ct, x_asg, x_set, x_aug, au_i, au_s, x_ex, x_ret, x_iff, x_forr, x_whil, x_par, x_pass, x_brk, x_cnt, q_var, gv, q_con, q_glo, q_tup, q_lst, q_bin, neg_i, q_cmp, q_and, q_or, q_not, q_ite, q_idx, ik_r, ik_s, ik_l, ik_t, ik_ds, c_ind, q_dct, q_slc, pv_t, pv_f, q_rev, q_call, q_bi, q_mth, q_isi, q_cmpr, q_nil, q_cons, y_ex, y_rng, y_rng3, turn_nm, lturn_nm, lturn_tup, forL_wkL, fd_nil, fd_cons, fx_nx, fx_ct, fx_bk, fx_rt, as_nm, as_tup, as_tupl, as_nil, as_cons, wp_nil, wp_cons, pa_nil', pa_cons', List.map_cons, List.map_nil, List.replicate, List.cons_append, List.nil_append, Nat.reduceSub, Nat.reduceAdd, List.getElem?_cons_zero, List.getElem?_cons_succ, List.set_cons_zero, List.set_cons_succ, r_ok, r_opt, b_add, b_sub, b_mul, b_div, b_mod, b_adds, c_lt, c_le, c_gt, c_ge, c_eq, c_ne, c_eqs, c_nes, c_ins, c_nis, v_b, t_b, l_s, l_l, l_t, i_s, i_l, i_t, m_t, m_r, dt_n, dt_c, datas_map, o_some, ob_some, w_rng, w_rng3, w_str, w_tup, w_lst, sl_s, sl_t, sl_l, n_b, n_i, tu_l, mn_i, k_s, k_i, k_b, k_t, decide_true, decide_false, Bool.not_true, Bool.not_false, q_chn, c_eqb, c_neb, c_isb, c_inb, c_isN, c_inN, al_l, an_l, or_s, k_n, k_l, rv_t, t_n, q_not', z1, z2, q_not]
    rfl
theorem both_ok (k : Nat) (b i i' : List D) (l e l' e' : Nat) (h1 : e ≤ b.length) (h2 : l' ≤ b.length) (hb : b.length ≤ 1000) (hi : i.length ≤ 1000) (hi' : i'.length ≤ 1000) (M : Mem) : callN pr (k + 1) 3 [.d (.tup b), .d (.tup [.int l, .int e, .tup i]), .d (.tup [.int l', .int e', .tup i'])] M = .ok (.d (.tup (b.take l ++ i ++ (b.drop e).take (l' - e) ++ i' ++ b.drop e'))) M := by
  refine call_pd (fn := cOf c3) (m' := []) (ds := [.tup b, .tup [.int l, .int e, .tup i], .tup [.int l', .int e', .tup i']]) rfl rfl rfl ?_
  show runB _ ⟨3, 9, true, b3⟩ _ _ = _
  rw [runB_eq rfl]
  have c3 := cut_both h1 h2
  simp (disch := first | omega | (simp only [List.length_append, List.length_cons, List.length_nil, List.length_map, List.length_take, List.length_drop]; omega)) only [b3, xs_cons, xs_nil, nxt_nx, nxt_rt, nxt_bk, nxt_ct, x_asg, x_set, x_aug, au_i, au_s, x_ex, x_ret, x_iff, x_forr, x_whil, x_par, x_pass, x_brk, x_cnt, q_var, gv, q_con, q_glo, q_tup, q_lst, q_bin, neg_i, q_cmp, q_and, q_or, q_not, q_ite, q_idx, ik_r, ik_s, ik_l, ik_t, ik_ds, c_ind, q_dct, q_slc, pv_t, pv_f, q_rev, q_call, q_bi, q_mth, q_isi, q_cmpr, q_nil, q_cons, y_ex, y_rng, y_rng3, turn_nm, lturn_nm, lturn_tup, forL_wkL, fd_nil, fd_cons, fx_nx, fx_ct, fx_bk, fx_rt, as_nm, as_tup, as_tupl, as_nil, as_cons, wp_nil, wp_cons, pa_nil', pa_cons', List.map_cons, List.map_nil, List.replicate, List.cons_append, List.nil_append, Nat.reduceSub, Nat.reduceAdd, List.getElem?_cons_zero, List.getElem?_cons_succ, List.set_cons_zero, List.set_cons_succ, r_ok, r_opt, b_add, b_sub, b_mul, b_div, b_mod, b_adds, c_lt, c_le, c_gt, c_ge, c_eq, c_ne, c_eqs, c_nes, c_ins, c_nis, v_b, t_b, l_s, l_l, l_t, i_s, i_l, i_t, m_t, m_r, dt_n, dt_c, datas_map, o_some, ob_some, w_rng, w_rng3, w_str, w_tup, w_lst, sl_s, sl_t, sl_l, n_b, n_i, tu_l, mn_i, k_s, k_i, k_b, k_t, decide_true, decide_false, Bool.not_true, Bool.not_false, q_chn, c_eqb, c_neb, c_isb, c_inb, c_isN, c_inN, al_l, an_l, or_s, k_n, k_l, rv_t, t_n, q_not', cut_take, cut_drop, c3, b_addt]
/-! ### the plain law -/
theorem take_all {b m : List D} (hb : ∀ x ∈ b, Kin x) (hm : ∀ y ∈ m, Kin y) : b.take (stL b m) ++ stI b m ++ b.drop (stE b m) = m := by
  have t := lcp_take hb hm
  have t : b.take (stL b m) = m.take (stL b m) := t
  obtain ⟨r1, r2⟩ := stR_le (b := b) (m := m)
  have l1 : stL b m ≤ b.length := lcp_le1 b m
  have l2 : stL b m ≤ m.length := lcp_le2 b m
  have u : (b.drop (stL b m)).reverse.take (stR b m) = (m.drop (stL b m)).reverse.take (stR b m) := lcp_take (kin_rev hb) (kin_rev hm)
  rw [List.take_reverse, List.take_reverse, List.reverse_inj, List.length_drop, List.length_drop, List.drop_drop, List.drop_drop] at u
  have e1 : stL b m + (b.length - stL b m - stR b m) = stE b m := by unfold stE; omega
  have e2 : stL b m + (m.length - stL b m - stR b m) = m.length - stR b m := by omega
  rw [e1, e2] at u
  rw [u, t]
  unfold stI
  rw [List.append_assoc]
  have e3 : m.drop (m.length - stR b m) = (m.drop (stL b m)).drop (m.length - stR b m - stL b m) := by
    rw [List.drop_drop]
    congr 1
    omega
  rw [e3, List.take_append_drop, List.take_append_drop]
/-- where the one that stands alone stands -/
theorem at_alone {A : D} {X Y X' Y' : List D} {i : Nat} (h1 : A ∉ X) (h2 : A ∉ Y) (h : (X ++ A :: Y)[i]? = some A) : i = X.length := by
  rcases Nat.lt_trichotomy i X.length with g | g | g
  · rw [List.getElem?_append_left g] at h
    exact (h1 (List.mem_of_getElem? h)).elim
  · exact g
  · rw [List.getElem?_append_right (by omega)] at h
    obtain ⟨j, hj⟩ : ∃ j, i - X.length = j + 1 := ⟨i - X.length - 1, by omega⟩
    rw [hj, List.getElem?_cons_succ] at h
    exact (h2 (List.mem_of_getElem? h)).elim
theorem alone_at {A : D} {X Y : List D} : (X ++ A :: Y)[X.length]? = some A := by
  rw [List.getElem?_append_right (Nat.le_refl _), Nat.sub_self]
  rfl
theorem get_of_take {xs ys : List D} {n i : Nat} (h : xs.take n = ys.take n) (hi : i < n) : xs[i]? = ys[i]? := by
  have : (xs.take n)[i]? = (ys.take n)[i]? := by rw [h]
  rw [List.getElem?_take, List.getElem?_take, if_pos hi, if_pos hi] at this
  exact this
structure Far (A : D) (F L N O : List D) : Prop where
  f : A ∉ F
  l : A ∉ L
  n : A ∉ N
  o : A ∉ O
  kf : ∀ x ∈ F, Kin x
  kl : ∀ x ∈ L, Kin x
  kn : ∀ x ∈ N, Kin x
  ko : ∀ x ∈ O, Kin x
  ka : Kin A
section
variable {A : D} {F L N O : List D}
theorem kin3 {X Y : List D} {A : D} (h1 : ∀ x ∈ X, Kin x) (h2 : Kin A) (h3 : ∀ x ∈ Y, Kin x) : ∀ x ∈ X ++ A :: Y, Kin x := fun x hx => by
  rcases List.mem_append.mp hx with hx | hx
  · exact h1 x hx
  · rcases List.mem_cons.mp hx with rfl | hx
    · exact h2
    · exact h3 x hx
theorem left_le (h : Far A F L N O) (hne : N ≠ F) : stL (F ++ A :: L) (N ++ A :: L) ≤ F.length ∧ stL (F ++ A :: L) (N ++ A :: L) ≤ N.length := by
  have t : (F ++ A :: L).take (stL (F ++ A :: L) (N ++ A :: L)) = (N ++ A :: L).take (stL (F ++ A :: L) (N ++ A :: L)) := lcp_take (kin3 h.kf h.ka h.kl) (kin3 h.kn h.ka h.kl)
  have same : F.length = N.length → F.length < stL (F ++ A :: L) (N ++ A :: L) → False := fun e hlt => by
    have := congrArg (List.take F.length) t
    rw [List.take_take, List.take_take, Nat.min_eq_left (by omega), List.take_left, e, List.take_left] at this
    exact hne this.symm
  constructor
  · refine Nat.le_of_not_lt fun hlt => ?_
    have g := get_of_take t hlt
    rw [alone_at] at g
    exact same (at_alone (X' := []) (Y' := []) h.n h.l g.symm) hlt
  · refine Nat.le_of_not_lt fun hlt => ?_
    have g := get_of_take t hlt
    rw [alone_at] at g
    have e := at_alone (X' := []) (Y' := []) h.f h.l g
    exact same e.symm (by omega)
theorem left_end (h : Far A F L N O) (hne : N ≠ F) : stE (F ++ A :: L) (N ++ A :: L) ≤ F.length := by
  obtain ⟨l1, l2⟩ := left_le h hne
  have e1 : ((F ++ A :: L).drop (stL (F ++ A :: L) (N ++ A :: L))).reverse = (A :: L).reverse ++ (F.drop (stL (F ++ A :: L) (N ++ A :: L))).reverse := by
    rw [List.drop_append_of_le_length l1, List.reverse_append]
  have e2 : ((N ++ A :: L).drop (stL (F ++ A :: L) (N ++ A :: L))).reverse = (A :: L).reverse ++ (N.drop (stL (F ++ A :: L) (N ++ A :: L))).reverse := by
    rw [List.drop_append_of_le_length l2, List.reverse_append]
  have : L.length + 1 ≤ stR (F ++ A :: L) (N ++ A :: L) := by
    unfold stR
    rw [e1, e2]
    have := lcp_app (A :: L).reverse (F.drop (stL (F ++ A :: L) (N ++ A :: L))).reverse (N.drop (stL (F ++ A :: L) (N ++ A :: L))).reverse (fun x hx => by
      rcases List.mem_cons.mp (List.mem_reverse.mp hx) with rfl | hx
      · exact h.ka
      · exact h.kl x hx)
    rw [List.length_reverse, List.length_cons] at this
    exact this
  unfold stE
  rw [List.length_append, List.length_cons]
  omega
theorem right_beg (h : Far A F L N O) : F.length + 1 ≤ stL (F ++ A :: L) (F ++ A :: O) := by
  have e : ∀ Y, F ++ A :: Y = (F ++ [A]) ++ Y := fun Y => by simp
  unfold stL
  rw [e L, e O]
  have := lcp_app (F ++ [A]) L O (fun x hx => by
    rcases List.mem_append.mp hx with hx | hx
    · exact h.kf x hx
    · rw [List.mem_singleton.mp hx]; exact h.ka)
  rw [List.length_append, List.length_singleton] at this
  exact this
theorem stE_ge {b m : List D} : stL b m ≤ stE b m ∧ stE b m ≤ b.length := by
  obtain ⟨r1, r2⟩ := stR_le (b := b) (m := m)
  have l1 : stL b m ≤ b.length := lcp_le1 b m
  unfold stE
  omega
theorem both_eq (h : Far A F L N O) (hne : N ≠ F) : (F ++ A :: L).take (stL (F ++ A :: L) (N ++ A :: L)) ++ stI (F ++ A :: L) (N ++ A :: L) ++ ((F ++ A :: L).drop (stE (F ++ A :: L) (N ++ A :: L))).take (stL (F ++ A :: L) (F ++ A :: O) - stE (F ++ A :: L) (N ++ A :: L)) ++ stI (F ++ A :: L) (F ++ A :: O) ++ (F ++ A :: L).drop (stE (F ++ A :: L) (F ++ A :: O)) = N ++ A :: O := by
  have a1 := take_all (kin3 h.kf h.ka h.kl) (kin3 h.kn h.ka h.kl)
  have a2 := take_all (kin3 h.kf h.ka h.kl) (kin3 h.kf h.ka h.ko)
  have l1 := left_end h hne
  have l2 := right_beg h
  obtain ⟨l3, l4⟩ := stE_ge (b := F ++ A :: L) (m := F ++ A :: O)
  generalize stE (F ++ A :: L) (N ++ A :: L) = e1 at a1 l1 ⊢
  generalize (F ++ A :: L).take (stL (F ++ A :: L) (N ++ A :: L)) ++ stI (F ++ A :: L) (N ++ A :: L) = P at a1 ⊢
  generalize stE (F ++ A :: L) (F ++ A :: O) = e2 at a2 l3 l4 ⊢
  generalize stL (F ++ A :: L) (F ++ A :: O) = s2 at a2 l2 l3 ⊢
  generalize stI (F ++ A :: L) (F ++ A :: O) = I2 at a2 ⊢
  rw [List.length_append, List.length_cons] at l4
  have d1 : (F ++ A :: L).drop e1 = F.drop e1 ++ A :: L := List.drop_append_of_le_length l1
  have p1 : P ++ F.drop e1 = N := by
    rw [d1, ← List.append_assoc] at a1
    exact List.append_cancel_right a1
  obtain ⟨j, rfl⟩ : ∃ j, s2 = F.length + 1 + j := ⟨s2 - (F.length + 1), by omega⟩
  have t2 : (F ++ A :: L).take (F.length + 1 + j) = F ++ A :: L.take j := by
    rw [List.take_append, List.take_of_length_le (by omega), show F.length + 1 + j - F.length = j + 1 by omega, List.take_succ_cons]
  have p2 : L.take j ++ I2 ++ (F ++ A :: L).drop e2 = O := by
    rw [t2] at a2
    have : F ++ A :: (L.take j ++ I2 ++ (F ++ A :: L).drop e2) = F ++ A :: O := by
      rw [← a2]
      simp
    have := List.append_cancel_left this
    exact (List.cons.inj this).2
  have t3 : (F.drop e1 ++ A :: L).take (F.length + 1 + j - e1) = F.drop e1 ++ A :: L.take j := by
    rw [List.take_append, List.take_of_length_le (by rw [List.length_drop]; omega), List.length_drop, show F.length + 1 + j - e1 - (F.length - e1) = j + 1 by omega, List.take_succ_cons]
  rw [d1, t3, ← p1, ← p2]
  simp
end
section
variable {A : D} {F L N O : List D}
theorem left_inj {X Y Z : List D} {A : D} (h : X ++ A :: Z = Y ++ A :: Z) : X = Y := List.append_cancel_right h
theorem right_inj {X Y Z : List D} {A : D} (h : Z ++ A :: X = Z ++ A :: Y) : X = Y := (List.cons.inj (List.append_cancel_left h)).2
theorem both_inj (h : Far A F L N O) (e : N ++ A :: L = F ++ A :: O) : N = F ∧ L = O := by
  have g : (F ++ A :: O)[N.length]? = some A := by rw [← e]; exact alone_at
  have hl := at_alone (X' := []) (Y' := []) h.f h.o g
  have hN : N = F := by
    have := congrArg (List.take N.length) e
    rw [List.take_left, hl, List.take_left] at this
    exact this
  subst hN
  exact ⟨rfl, right_inj e⟩
theorem eq_tup {X Y : List D} (hx : Kin (.tup X)) (hy : Kin (.tup Y)) : D.eq (.tup X) (.tup Y) = true → X = Y := fun h => by
  have := eq_of_eq hx.2 hy.2 h
  exact D.tup.inj this
theorem eq_tup' {X Y : List D} (hx : Kin (.tup X)) (h : D.eq (.tup X) (.tup Y) = false) : X ≠ Y := fun e => by
  subst e
  rw [eq_refl hx.1.1] at h
  cases h
theorem met_ok (k : Nat) (h : Far A F L N O) (hB : Kin (.tup (F ++ A :: L))) (hX : Kin (.tup (N ++ A :: L))) (hY : Kin (.tup (F ++ A :: O))) (lf : F.length ≤ 100) (ll : L.length ≤ 100) (ln : N.length ≤ 100) (lo : O.length ≤ 100) (M : Mem) :
    callN pr (k + 3) 4 [.d (.tup (F ++ A :: L)), .d (.tup (N ++ A :: L)), .d (.tup (F ++ A :: O))] M = .ok (.d (.tup (N ++ A :: O))) M ∧
    callN pr (k + 3) 4 [.d (.tup (F ++ A :: L)), .d (.tup (F ++ A :: O)), .d (.tup (N ++ A :: L))] M = .ok (.d (.tup (N ++ A :: O))) M := by
  have q1 := fun m => c_eqd (m := m) (kin_eqOk hX hB)
  have q2 := fun m => c_eqd (m := m) (kin_eqOk hX hY)
  have q3 := fun m => c_eqd (m := m) (kin_eqOk hY hB)
  have q4 := fun m => c_eqd (m := m) (kin_eqOk hY hX)
  have kB := kin3 h.kf h.ka h.kl
  have kX := kin3 h.kn h.ka h.kl
  have kY := kin3 h.kf h.ka h.ko
  have lB : (F ++ A :: L).length ≤ 1000 := by rw [List.length_append, List.length_cons]; omega
  have s1 := stretch_ok k _ _ kB kX lB []
  have s2 := stretch_ok k _ _ kB kY lB []
  have iL : (stI (F ++ A :: L) (N ++ A :: L)).length ≤ 1000 := by
    unfold stI
    rw [List.length_take, List.length_drop, List.length_append, List.length_cons]
    omega
  have iR : (stI (F ++ A :: L) (F ++ A :: O)).length ≤ 1000 := by
    unfold stI
    rw [List.length_take, List.length_drop, List.length_append, List.length_cons]
    omega
  obtain ⟨g1, g2⟩ := stE_ge (b := F ++ A :: L) (m := N ++ A :: L)
  obtain ⟨g3, g4⟩ := stE_ge (b := F ++ A :: L) (m := F ++ A :: O)
  have l2 := right_beg h
  unfold stD at s1 s2
  constructor
  · refine call_pd (fn := cOf c4) (m' := []) (ds := [.tup (F ++ A :: L), .tup (N ++ A :: L), .tup (F ++ A :: O)]) rfl rfl rfl ?_
    show runB _ ⟨3, 5, true, b4⟩ _ _ = _
    rw [runB_eq rfl]
    cases d1 : D.eq (.tup (N ++ A :: L)) (.tup (F ++ A :: L)) with
    | true =>
      have e := left_inj (eq_tup hX hB d1)
      rw [d1] at q1
      simp (disch := first | omega | (simp only [List.length_append, List.length_cons, List.length_nil, List.length_map, List.length_take, List.length_drop]; omega)) only [b4, xs_cons, xs_nil, nxt_nx, nxt_rt, nxt_bk, nxt_ct, x_asg, x_set, x_aug, au_i, au_s, x_ex, x_ret, x_iff, x_forr, x_whil, x_par, x_pass, x_brk, x_cnt, q_var, gv, q_con, q_glo, q_tup, q_lst, q_bin, neg_i, q_cmp, q_and, q_or, q_not, q_ite, q_idx, ik_r, ik_s, ik_l, ik_t, ik_ds, c_ind, q_dct, q_slc, pv_t, pv_f, q_rev, q_call, q_bi, q_mth, q_isi, q_cmpr, q_nil, q_cons, y_ex, y_rng, y_rng3, turn_nm, lturn_nm, lturn_tup, forL_wkL, fd_nil, fd_cons, fx_nx, fx_ct, fx_bk, fx_rt, as_nm, as_tup, as_tupl, as_nil, as_cons, wp_nil, wp_cons, pa_nil', pa_cons', List.map_cons, List.map_nil, List.replicate, List.cons_append, List.nil_append, Nat.reduceSub, Nat.reduceAdd, List.getElem?_cons_zero, List.getElem?_cons_succ, List.set_cons_zero, List.set_cons_succ, r_ok, r_opt, b_add, b_sub, b_mul, b_div, b_mod, b_adds, c_lt, c_le, c_gt, c_ge, c_eq, c_ne, c_eqs, c_nes, c_ins, c_nis, v_b, t_b, l_s, l_l, l_t, i_s, i_l, i_t, m_t, m_r, dt_n, dt_c, datas_map, o_some, ob_some, w_rng, w_rng3, w_str, w_tup, w_lst, sl_s, sl_t, sl_l, n_b, n_i, tu_l, mn_i, k_s, k_i, k_b, k_t, decide_true, decide_false, Bool.not_true, Bool.not_false, q_chn, c_eqb, c_neb, c_isb, c_inb, c_isN, c_inN, al_l, an_l, or_s, k_n, k_l, rv_t, t_n, q_not', q1]
      rw [e]
    | false =>
      rw [d1] at q1
      have hne : N ≠ F := fun e => eq_tup' hX d1 (by rw [e])
      cases d2 : D.eq (.tup (N ++ A :: L)) (.tup (F ++ A :: O)) with
      | true => exact (hne (both_inj h (eq_tup hX hY d2)).1).elim
      | false =>
        rw [d2] at q2
        cases d3 : D.eq (.tup (F ++ A :: O)) (.tup (F ++ A :: L)) with
        | true =>
          have e := right_inj (eq_tup hY hB d3)
          rw [d3] at q3
          simp (disch := first | omega | (simp only [List.length_append, List.length_cons, List.length_nil, List.length_map, List.length_take, List.length_drop]; omega)) only [b4, xs_cons, xs_nil, nxt_nx, nxt_rt, nxt_bk, nxt_ct, x_asg, x_set, x_aug, au_i, au_s, x_ex, x_ret, x_iff, x_forr, x_whil, x_par, x_pass, x_brk, x_cnt, q_var, gv, q_con, q_glo, q_tup, q_lst, q_bin, neg_i, q_cmp, q_and, q_or, q_not, q_ite, q_idx, ik_r, ik_s, ik_l, ik_t, ik_ds, c_ind, q_dct, q_slc, pv_t, pv_f, q_rev, q_call, q_bi, q_mth, q_isi, q_cmpr, q_nil, q_cons, y_ex, y_rng, y_rng3, turn_nm, lturn_nm, lturn_tup, forL_wkL, fd_nil, fd_cons, fx_nx, fx_ct, fx_bk, fx_rt, as_nm, as_tup, as_tupl, as_nil, as_cons, wp_nil, wp_cons, pa_nil', pa_cons', List.map_cons, List.map_nil, List.replicate, List.cons_append, List.nil_append, Nat.reduceSub, Nat.reduceAdd, List.getElem?_cons_zero, List.getElem?_cons_succ, List.set_cons_zero, List.set_cons_succ, r_ok, r_opt, b_add, b_sub, b_mul, b_div, b_mod, b_adds, c_lt, c_le, c_gt, c_ge, c_eq, c_ne, c_eqs, c_nes, c_ins, c_nis, v_b, t_b, l_s, l_l, l_t, i_s, i_l, i_t, m_t, m_r, dt_n, dt_c, datas_map, o_some, ob_some, w_rng, w_rng3, w_str, w_tup, w_lst, sl_s, sl_t, sl_l, n_b, n_i, tu_l, mn_i, k_s, k_i, k_b, k_t, decide_true, decide_false, Bool.not_true, Bool.not_false, q_chn, c_eqb, c_neb, c_isb, c_inb, c_isN, c_inN, al_l, an_l, or_s, k_n, k_l, rv_t, t_n, q_not', q1, q2, q3]
          rw [e]
        | false =>
          rw [d3] at q3
          have l1 := left_end h hne
          have a1 := ahead_ok (k + 1) (stL (F ++ A :: L) (N ++ A :: L)) (stE (F ++ A :: L) (N ++ A :: L)) (stL (F ++ A :: L) (F ++ A :: O)) (stE (F ++ A :: L) (F ++ A :: O)) (.tup (stI (F ++ A :: L) (N ++ A :: L))) (.tup (stI (F ++ A :: L) (F ++ A :: O))) []
          rw [decide_eq_true (by omega), decide_eq_false (by omega), Bool.not_false, Bool.true_and, show k + 1 + 1 = k + 2 from rfl] at a1
          have b := both_ok (k + 1) (F ++ A :: L) (stI (F ++ A :: L) (N ++ A :: L)) (stI (F ++ A :: L) (F ++ A :: O)) (stL (F ++ A :: L) (N ++ A :: L)) (stE (F ++ A :: L) (N ++ A :: L)) (stL (F ++ A :: L) (F ++ A :: O)) (stE (F ++ A :: L) (F ++ A :: O)) g2 (Nat.le_trans g3 g4) lB iL iR []
          rw [both_eq h hne, show k + 1 + 1 = k + 2 from rfl] at b
          simp (disch := first | omega | (simp only [List.length_append, List.length_cons, List.length_nil, List.length_map, List.length_take, List.length_drop]; omega)) only [b4, xs_cons, xs_nil, nxt_nx, nxt_rt, nxt_bk, nxt_ct, x_asg, x_set, x_aug, au_i, au_s, x_ex, x_ret, x_iff, x_forr, x_whil, x_par, x_pass, x_brk, x_cnt, q_var, gv, q_con, q_glo, q_tup, q_lst, q_bin, neg_i, q_cmp, q_and, q_or, q_not, q_ite, q_idx, ik_r, ik_s, ik_l, ik_t, ik_ds, c_ind, q_dct, q_slc, pv_t, pv_f, q_rev, q_call, q_bi, q_mth, q_isi, q_cmpr, q_nil, q_cons, y_ex, y_rng, y_rng3, turn_nm, lturn_nm, lturn_tup, forL_wkL, fd_nil, fd_cons, fx_nx, fx_ct, fx_bk, fx_rt, as_nm, as_tup, as_tupl, as_nil, as_cons, wp_nil, wp_cons, pa_nil', pa_cons', List.map_cons, List.map_nil, List.replicate, List.cons_append, List.nil_append, Nat.reduceSub, Nat.reduceAdd, List.getElem?_cons_zero, List.getElem?_cons_succ, List.set_cons_zero, List.set_cons_succ, r_ok, r_opt, b_add, b_sub, b_mul, b_div, b_mod, b_adds, c_lt, c_le, c_gt, c_ge, c_eq, c_ne, c_eqs, c_nes, c_ins, c_nis, v_b, t_b, l_s, l_l, l_t, i_s, i_l, i_t, m_t, m_r, dt_n, dt_c, datas_map, o_some, ob_some, w_rng, w_rng3, w_str, w_tup, w_lst, sl_s, sl_t, sl_l, n_b, n_i, tu_l, mn_i, k_s, k_i, k_b, k_t, decide_true, decide_false, Bool.not_true, Bool.not_false, q_chn, c_eqb, c_neb, c_isb, c_inb, c_isN, c_inN, al_l, an_l, or_s, k_n, k_l, rv_t, t_n, q_not', q1, q2, q3, s1, s2, a1, b]
  · refine call_pd (fn := cOf c4) (m' := []) (ds := [.tup (F ++ A :: L), .tup (F ++ A :: O), .tup (N ++ A :: L)]) rfl rfl rfl ?_
    show runB _ ⟨3, 5, true, b4⟩ _ _ = _
    rw [runB_eq rfl]
    cases d3 : D.eq (.tup (F ++ A :: O)) (.tup (F ++ A :: L)) with
    | true =>
      have e := right_inj (eq_tup hY hB d3)
      rw [d3] at q3
      simp (disch := first | omega | (simp only [List.length_append, List.length_cons, List.length_nil, List.length_map, List.length_take, List.length_drop]; omega)) only [b4, xs_cons, xs_nil, nxt_nx, nxt_rt, nxt_bk, nxt_ct, x_asg, x_set, x_aug, au_i, au_s, x_ex, x_ret, x_iff, x_forr, x_whil, x_par, x_pass, x_brk, x_cnt, q_var, gv, q_con, q_glo, q_tup, q_lst, q_bin, neg_i, q_cmp, q_and, q_or, q_not, q_ite, q_idx, ik_r, ik_s, ik_l, ik_t, ik_ds, c_ind, q_dct, q_slc, pv_t, pv_f, q_rev, q_call, q_bi, q_mth, q_isi, q_cmpr, q_nil, q_cons, y_ex, y_rng, y_rng3, turn_nm, lturn_nm, lturn_tup, forL_wkL, fd_nil, fd_cons, fx_nx, fx_ct, fx_bk, fx_rt, as_nm, as_tup, as_tupl, as_nil, as_cons, wp_nil, wp_cons, pa_nil', pa_cons', List.map_cons, List.map_nil, List.replicate, List.cons_append, List.nil_append, Nat.reduceSub, Nat.reduceAdd, List.getElem?_cons_zero, List.getElem?_cons_succ, List.set_cons_zero, List.set_cons_succ, r_ok, r_opt, b_add, b_sub, b_mul, b_div, b_mod, b_adds, c_lt, c_le, c_gt, c_ge, c_eq, c_ne, c_eqs, c_nes, c_ins, c_nis, v_b, t_b, l_s, l_l, l_t, i_s, i_l, i_t, m_t, m_r, dt_n, dt_c, datas_map, o_some, ob_some, w_rng, w_rng3, w_str, w_tup, w_lst, sl_s, sl_t, sl_l, n_b, n_i, tu_l, mn_i, k_s, k_i, k_b, k_t, decide_true, decide_false, Bool.not_true, Bool.not_false, q_chn, c_eqb, c_neb, c_isb, c_inb, c_isN, c_inN, al_l, an_l, or_s, k_n, k_l, rv_t, t_n, q_not', q3]
      rw [e]
    | false =>
      rw [d3] at q3
      cases d4 : D.eq (.tup (F ++ A :: O)) (.tup (N ++ A :: L)) with
      | true =>
        have e := both_inj h (eq_tup hY hX d4).symm
        exact (eq_tup' hY d3 (by rw [e.2])).elim
      | false =>
        rw [d4] at q4
        cases d1 : D.eq (.tup (N ++ A :: L)) (.tup (F ++ A :: L)) with
        | true =>
          have e := left_inj (eq_tup hX hB d1)
          rw [d1] at q1
          simp (disch := first | omega | (simp only [List.length_append, List.length_cons, List.length_nil, List.length_map, List.length_take, List.length_drop]; omega)) only [b4, xs_cons, xs_nil, nxt_nx, nxt_rt, nxt_bk, nxt_ct, x_asg, x_set, x_aug, au_i, au_s, x_ex, x_ret, x_iff, x_forr, x_whil, x_par, x_pass, x_brk, x_cnt, q_var, gv, q_con, q_glo, q_tup, q_lst, q_bin, neg_i, q_cmp, q_and, q_or, q_not, q_ite, q_idx, ik_r, ik_s, ik_l, ik_t, ik_ds, c_ind, q_dct, q_slc, pv_t, pv_f, q_rev, q_call, q_bi, q_mth, q_isi, q_cmpr, q_nil, q_cons, y_ex, y_rng, y_rng3, turn_nm, lturn_nm, lturn_tup, forL_wkL, fd_nil, fd_cons, fx_nx, fx_ct, fx_bk, fx_rt, as_nm, as_tup, as_tupl, as_nil, as_cons, wp_nil, wp_cons, pa_nil', pa_cons', List.map_cons, List.map_nil, List.replicate, List.cons_append, List.nil_append, Nat.reduceSub, Nat.reduceAdd, List.getElem?_cons_zero, List.getElem?_cons_succ, List.set_cons_zero, List.set_cons_succ, r_ok, r_opt, b_add, b_sub, b_mul, b_div, b_mod, b_adds, c_lt, c_le, c_gt, c_ge, c_eq, c_ne, c_eqs, c_nes, c_ins, c_nis, v_b, t_b, l_s, l_l, l_t, i_s, i_l, i_t, m_t, m_r, dt_n, dt_c, datas_map, o_some, ob_some, w_rng, w_rng3, w_str, w_tup, w_lst, sl_s, sl_t, sl_l, n_b, n_i, tu_l, mn_i, k_s, k_i, k_b, k_t, decide_true, decide_false, Bool.not_true, Bool.not_false, q_chn, c_eqb, c_neb, c_isb, c_inb, c_isN, c_inN, al_l, an_l, or_s, k_n, k_l, rv_t, t_n, q_not', q1, q3, q4]
          rw [e]
        | false =>
          rw [d1] at q1
          have hne : N ≠ F := fun e => eq_tup' hX d1 (by rw [e])
          have l1 := left_end h hne
          have a0 := ahead_ok (k + 1) (stL (F ++ A :: L) (F ++ A :: O)) (stE (F ++ A :: L) (F ++ A :: O)) (stL (F ++ A :: L) (N ++ A :: L)) (stE (F ++ A :: L) (N ++ A :: L)) (.tup (stI (F ++ A :: L) (F ++ A :: O))) (.tup (stI (F ++ A :: L) (N ++ A :: L))) []
          rw [decide_eq_false (by omega : ¬ stE (F ++ A :: L) (F ++ A :: O) ≤ stL (F ++ A :: L) (N ++ A :: L)), Bool.false_and, show k + 1 + 1 = k + 2 from rfl] at a0
          have a1 := ahead_ok (k + 1) (stL (F ++ A :: L) (N ++ A :: L)) (stE (F ++ A :: L) (N ++ A :: L)) (stL (F ++ A :: L) (F ++ A :: O)) (stE (F ++ A :: L) (F ++ A :: O)) (.tup (stI (F ++ A :: L) (N ++ A :: L))) (.tup (stI (F ++ A :: L) (F ++ A :: O))) []
          rw [decide_eq_true (by omega), decide_eq_false (by omega), Bool.not_false, Bool.true_and, show k + 1 + 1 = k + 2 from rfl] at a1
          have b := both_ok (k + 1) (F ++ A :: L) (stI (F ++ A :: L) (N ++ A :: L)) (stI (F ++ A :: L) (F ++ A :: O)) (stL (F ++ A :: L) (N ++ A :: L)) (stE (F ++ A :: L) (N ++ A :: L)) (stL (F ++ A :: L) (F ++ A :: O)) (stE (F ++ A :: L) (F ++ A :: O)) g2 (Nat.le_trans g3 g4) lB iL iR []
          rw [both_eq h hne, show k + 1 + 1 = k + 2 from rfl] at b
          simp (disch := first | omega | (simp only [List.length_append, List.length_cons, List.length_nil, List.length_map, List.length_take, List.length_drop]; omega)) only [b4, xs_cons, xs_nil, nxt_nx, nxt_rt, nxt_bk, nxt_ct, x_asg, x_set, x_aug, au_i, au_s, x_ex, x_ret, x_iff, x_forr, x_whil, x_par, x_pass, x_brk, x_cnt, q_var, gv, q_con, q_glo, q_tup, q_lst, q_bin, neg_i, q_cmp, q_and, q_or, q_not, q_ite, q_idx, ik_r, ik_s, ik_l, ik_t, ik_ds, c_ind, q_dct, q_slc, pv_t, pv_f, q_rev, q_call, q_bi, q_mth, q_isi, q_cmpr, q_nil, q_cons, y_ex, y_rng, y_rng3, turn_nm, lturn_nm, lturn_tup, forL_wkL, fd_nil, fd_cons, fx_nx, fx_ct, fx_bk, fx_rt, as_nm, as_tup, as_tupl, as_nil, as_cons, wp_nil, wp_cons, pa_nil', pa_cons', List.map_cons, List.map_nil, List.replicate, List.cons_append, List.nil_append, Nat.reduceSub, Nat.reduceAdd, List.getElem?_cons_zero, List.getElem?_cons_succ, List.set_cons_zero, List.set_cons_succ, r_ok, r_opt, b_add, b_sub, b_mul, b_div, b_mod, b_adds, c_lt, c_le, c_gt, c_ge, c_eq, c_ne, c_eqs, c_nes, c_ins, c_nis, v_b, t_b, l_s, l_l, l_t, i_s, i_l, i_t, m_t, m_r, dt_n, dt_c, datas_map, o_some, ob_some, w_rng, w_rng3, w_str, w_tup, w_lst, sl_s, sl_t, sl_l, n_b, n_i, tu_l, mn_i, k_s, k_i, k_b, k_t, decide_true, decide_false, Bool.not_true, Bool.not_false, q_chn, c_eqb, c_neb, c_isb, c_inb, c_isN, c_inN, al_l, an_l, or_s, k_n, k_l, rv_t, t_n, q_not', q1, q3, q4, s1, s2, a0, a1, b]
end
/-! ### the law -/
def ALONE : List Nat := [115, 116, 97, 110, 100, 115, 32, 97, 108, 111, 110, 101]
def Hn : Nat → Nat → Bool := fun f i => f == 11 && i == 3
def S0 : ASl := [none, some .dk, none, none, none, none, none, none, none, none, none, none, none, none]
def turnB : Sts := match b11 with
  | .cons _ (.cons (.forr _ _ b) _) => b
  | _ => .nil
def elOf (S : ASl) (i : Nat) : Option Sq := match S[i]? with
  | some (some (AV.sh s)) => s.asTup
  | _ => none
def noA (s : Sh) : Bool := s.alts.all fun a => match a with
  | .con (.str x) => !(x == ALONE)
  | .str _ hi _ => decide (hi < 12)
  | .tup _ => true
  | .con (.tup _) => true
  | _ => false
def uni (a b c d : Sh) : Sh := .or (.con (.str ALONE)) (.or a (.or b (.or c d)))
def fR (S : ASl) (P : APl) : Bool := match elOf S 7, elOf S 8, elOf S 9, elOf S 10 with
  | some a, some b, some c, some d => decide (a.hi ≤ 3) && decide (b.hi ≤ 3) && decide (c.hi ≤ 3) && decide (d.hi ≤ 3) && noA a.el && noA b.el && noA c.el && noA d.el && (uni a.el b.el c.el d.el).kin && (Sh.tups 0 7 (uni a.el b.el c.el d.el)).kin
  | _, _, _, _ => false
theorem chk : nxOk fR 1000 (aSs ⟨aCallN pr Hn noTab (nTab 6) 39, pr.glo, Hn 11⟩ (turnB.take 2) S0 []) = true := by decide +kernel
def p0 : PT := fun _ _ => False
theorem dr : pr.fn 6 = some ⟨2, 10, false, nextB⟩ := rfl
theorem el_ok {F : Fam} {p : PT} {ρ : List Nat} {S : ASl} {s : Slots} {i : Nat} {q : Sq} (h : elOf S i = some q) (g : SlR F p ρ S s) : ∃ ds, s[i]? = some (some (.d (.tup ds))) ∧ q.has p ds := by
  unfold elOf at h
  split at h
  · rename_i sh hS
    obtain ⟨v, hv, d, rfl, hd⟩ := g.at_ i _ hS
    obtain ⟨ds, rfl, hds⟩ := asTup_ok h hd
    exact ⟨ds, hv, hds⟩
  · cases h
theorem noA_ok {p : PT} {s : Sh} {x : D} (h : noA s = true) (g : s.has p x) : x ≠ .str ALONE := by
  obtain ⟨a, ha, hx⟩ := alts_ok g
  have := List.all_eq_true.mp h a ha
  intro e
  subst e
  split at this
  · unfold Sh.has at hx
    cases hx
    simp at this
  · unfold Sh.has at hx
    obtain ⟨t, e, _, h2, _⟩ := hx
    cases e
    have : ALONE.length = 12 := rfl
    simp only [decide_eq_true_eq] at *
    omega
  · unfold Sh.has at hx
    obtain ⟨ds, e, _⟩ := hx
    cases e
  · unfold Sh.has at hx
    cases hx
  · cases this
theorem kin_tup {a b c d : Sh} (h : (Sh.tups 0 7 (uni a b c d)).kin = true) {X Y : List D} {x y : Sh} (hx : ∀ z ∈ X, x.has p0 z) (hy : ∀ z ∈ Y, y.has p0 z) (lx : X.length ≤ 3) (ly : Y.length ≤ 3) (ux : ∀ z, x.has p0 z → (uni a b c d).has p0 z) (uy : ∀ z, y.has p0 z → (uni a b c d).has p0 z) : Kin (.tup (X ++ .str ALONE :: Y)) := by
  refine kin_ok (p := p0) h ?_
  unfold Sh.has
  refine ⟨_, rfl, Nat.zero_le _, by rw [List.length_append, List.length_cons]; omega, fun z hz => ?_⟩
  rcases List.mem_append.mp hz with hz | hz
  · exact ux z (hx z hz)
  · rcases List.mem_cons.mp hz with rfl | hz
    · unfold uni Sh.has
      exact .inl (by unfold Sh.has; rfl)
    · exact uy z (hy z hz)
theorem turn_ok {x0 x2 x3 x4 x5 x6 x7 x8 x9 x10 x11 x12 x13 : Option Val} (κ : DK2) (n : Nat) (r : Mem) (hn : n ≤ 100000) :
    ∃ (y3 y4 y5 y6 y7 y8 y9 y10 y11 y12 y13 : Option Val) (κ' : DK2) (n' : Nat) (r' : Mem), exSs ⟨callN pr 39, pr.glo, WF⟩ turnB [x0, some (.r 1), x2, x3, x4, x5, x6, x7, x8, x9, x10, x11, x12, x13] (dm κ n r) = .ok (.nx [x0, some (.r 1), x2, y3, y4, y5, y6, y7, y8, y9, y10, y11, y12, y13]) (dm κ' n' r') ∧ n' ≤ n + 1000 := by
  obtain ⟨S', P', s', κ', n', t, ρ, h1, h2, h3, h4, h5, h6⟩ := nx_run2 (p := p0) (n := n) (κ := κ) (r := r) (s := [x0, some (.r 1), x2, x3, x4, x5, x6, x7, x8, x9, x10, x11, x12, x13]) dr chk
    (slr_none (slr_some rfl (slr_none (slr_none (slr_none (slr_none (slr_none (slr_none (slr_none (slr_none (slr_none (slr_none (slr_none (slr_none slr_nil)))))))))))))) (by omega)
  have hlen : s'.length = 14 := nx_len h1
  have hs0 : s'[0]? = some x0 := nx_own h1 0 rfl
  have hs1 : s'[1]? = some (some (.r 1)) := nx_own h1 1 rfl
  have hs2 : s'[2]? = some x2 := nx_own h1 2 rfl
  unfold fR at h2
  split at h2
  · rename_i a b c d ea eb ec ed
    simp only [Bool.and_eq_true, decide_eq_true_eq] at h2
    obtain ⟨⟨⟨⟨⟨⟨⟨⟨⟨la, lb⟩, lc⟩, ld⟩, na⟩, nb⟩, nc⟩, nd⟩, ku⟩, kt⟩ := h2
    obtain ⟨F, f7, hF⟩ := el_ok ea h4
    obtain ⟨L, f8, hL⟩ := el_ok eb h4
    obtain ⟨N, f9, hN⟩ := el_ok ec h4
    obtain ⟨O, f10, hO⟩ := el_ok ed h4
    have lF := (Sq.len hF).2
    have lL := (Sq.len hL).2
    have lN := (Sq.len hN).2
    have lO := (Sq.len hO).2
    have ua : ∀ z, a.el.has p0 z → (uni a.el b.el c.el d.el).has p0 z := fun z hz => by
      unfold uni Sh.has; right; unfold Sh.has; left; exact hz
    have ub : ∀ z, b.el.has p0 z → (uni a.el b.el c.el d.el).has p0 z := fun z hz => by
      unfold uni Sh.has; right; unfold Sh.has; right; unfold Sh.has; left; exact hz
    have uc : ∀ z, c.el.has p0 z → (uni a.el b.el c.el d.el).has p0 z := fun z hz => by
      unfold uni Sh.has; right; unfold Sh.has; right; unfold Sh.has; right; unfold Sh.has; left; exact hz
    have ud : ∀ z, d.el.has p0 z → (uni a.el b.el c.el d.el).has p0 z := fun z hz => by
      unfold uni Sh.has; right; unfold Sh.has; right; unfold Sh.has; right; unfold Sh.has; right; exact hz
    have far : Far (.str ALONE) F L N O := ⟨fun h => noA_ok na (Sq.mem hF _ h) rfl, fun h => noA_ok nb (Sq.mem hL _ h) rfl, fun h => noA_ok nc (Sq.mem hN _ h) rfl, fun h => noA_ok nd (Sq.mem hO _ h) rfl,
      fun x hx => kin_ok ku (ua x (Sq.mem hF x hx)), fun x hx => kin_ok ku (ub x (Sq.mem hL x hx)), fun x hx => kin_ok ku (uc x (Sq.mem hN x hx)), fun x hx => kin_ok ku (ud x (Sq.mem hO x hx)),
      kin_ok (p := p0) ku (by unfold uni Sh.has; left; unfold Sh.has; rfl)⟩
    have k1 := kin_tup kt (Sq.mem hF) (Sq.mem hL) (by omega) (by omega) ua ub
    have k2 := kin_tup kt (Sq.mem hN) (Sq.mem hL) (by omega) (by omega) uc ub
    have k3 := kin_tup kt (Sq.mem hF) (Sq.mem hO) (by omega) (by omega) ua ud
    have k4 := kin_tup kt (Sq.mem hN) (Sq.mem hO) (by omega) (by omega) uc ud
    obtain ⟨z0, z1, z2, z3, z4, z5, z6, z7, z8, z9, z10, z11, z12, z13, rfl⟩ : ∃ a b c d e f g h i j k l m n, s' = [a, b, c, d, e, f, g, h, i, j, k, l, m, n] := by
      match s', hlen with
      | [a, b, c, d, e, f, g, h, i, j, k, l, m, n], _ => exact ⟨a, b, c, d, e, f, g, h, i, j, k, l, m, n, rfl⟩
    obtain rfl : z0 = x0 := by simpa using hs0
    obtain rfl : z1 = some (.r 1) := by simpa using hs1
    obtain rfl : z2 = x2 := by simpa using hs2
    obtain rfl : z7 = some (.d (.tup F)) := by simpa using f7
    obtain rfl : z8 = some (.d (.tup L)) := by simpa using f8
    obtain rfl : z9 = some (.d (.tup N)) := by simpa using f9
    obtain rfl : z10 = some (.d (.tup O)) := by simpa using f10
    generalize hM : dm κ' n' (r ++ t) = M at h1
    obtain ⟨m1, m2⟩ := met_ok 36 far k1 k2 k3 (by omega) (by omega) (by omega) (by omega) M
    rw [show 36 + 3 = 39 from rfl] at m1 m2
    have ass : ∀ X Y : List D, X ++ [D.str ALONE] ++ Y = X ++ .str ALONE :: Y := fun X Y => by simp
    have r1 : ∀ m, biV true .repr [.d (.tup (N ++ .str ALONE :: O))] m = .ok (.d (.str (D.rp (.tup (N ++ .str ALONE :: O))))) m := fun m => rp_r k4.1
    have q0 : ∀ (x : List Nat) m, cmpV .ne (.d (.str x)) (.d (.str x)) m = .ok false m := fun x m => by rw [c_nes]; simp
    refine ⟨z3, some (.d (.tup [.str ALONE])), some (.d (.tup (F ++ .str ALONE :: L))), some (.d (.tup (N ++ .str ALONE :: O))), some (.d (.tup F)), some (.d (.tup L)), some (.d (.tup N)), some (.d (.tup O)), some (.d (.tup (N ++ .str ALONE :: L))), some (.d (.tup (F ++ .str ALONE :: O))), z13, κ', n', r ++ t, ?_, h6⟩
    rw [xs_split 2, h1, r_ok, nxt_nx, hM]
    have hb : turnB.drop 2 = .cons (.asg (.nm 4) (.tup (.cons (.con (.str ALONE)) .nil))) (.cons (.asg (.nm 5) (.bin true .add (.bin true .add (.var 7) (.var 4)) (.var 8))) (.cons (.asg (.nm 6) (.bin true .add (.bin true .add (.var 9) (.var 4)) (.var 10))) (.cons (.par [11, 12] (.cons (.bin true .add (.bin true .add (.var 9) (.var 4)) (.var 8)) (.cons (.bin true .add (.bin true .add (.var 7) (.var 4)) (.var 10)) .nil))) (.cons (.iff (.or (.cmp .ne (.bi true .repr (.cons (.call 4 (.cons (.var 5) (.cons (.var 11) (.cons (.var 12) .nil)))) .nil)) (.bi true .repr (.cons (.var 6) .nil))) (.cmp .ne (.bi true .repr (.cons (.call 4 (.cons (.var 5) (.cons (.var 12) (.cons (.var 11) .nil)))) .nil)) (.bi true .repr (.cons (.var 6) .nil)))) (.cons (.ret (.con (.bl false))) .nil) .nil) .nil)))) := rfl
    rw [hb]
    simp (disch := first | omega | (simp only [List.length_append, List.length_cons, List.length_nil, List.length_map, List.length_take, List.length_drop]; omega)) only [xs_cons, xs_nil, nxt_nx, nxt_rt, nxt_bk, nxt_ct, x_asg, x_set, x_aug, au_i, au_s, x_ex, x_ret, x_iff, x_forr, x_whil, x_par, x_pass, x_brk, x_cnt, q_var, gv, q_con, q_glo, q_tup, q_lst, q_bin, neg_i, q_cmp, q_and, q_or, q_not, q_ite, q_idx, ik_r, ik_s, ik_l, ik_t, ik_ds, c_ind, q_dct, q_slc, pv_t, pv_f, q_rev, q_call, q_bi, q_mth, q_isi, q_cmpr, q_nil, q_cons, y_ex, y_rng, y_rng3, turn_nm, lturn_nm, lturn_tup, forL_wkL, fd_nil, fd_cons, fx_nx, fx_ct, fx_bk, fx_rt, as_nm, as_tup, as_tupl, as_nil, as_cons, wp_nil, wp_cons, pa_nil', pa_cons', List.map_cons, List.map_nil, List.replicate, List.cons_append, List.nil_append, Nat.reduceSub, Nat.reduceAdd, List.getElem?_cons_zero, List.getElem?_cons_succ, List.set_cons_zero, List.set_cons_succ, r_ok, r_opt, b_add, b_sub, b_mul, b_div, b_mod, b_adds, c_lt, c_le, c_gt, c_ge, c_eq, c_ne, c_eqs, c_nes, c_ins, c_nis, v_b, t_b, l_s, l_l, l_t, i_s, i_l, i_t, m_t, m_r, dt_n, dt_c, datas_map, o_some, ob_some, w_rng, w_rng3, w_str, w_tup, w_lst, sl_s, sl_t, sl_l, n_b, n_i, tu_l, mn_i, k_s, k_i, k_b, k_t, decide_true, decide_false, Bool.not_true, Bool.not_false, q_chn, c_eqb, c_neb, c_isb, c_inb, c_isN, c_inN, al_l, an_l, or_s, k_n, k_l, rv_t, t_n, q_not', b_addt, ass, m1, m2, r1, q0]
  · cases h2
theorem law_ok (ns : List Int) : ∃ M, callN pr 40 11 [.d (.scr ns)] [] = .ok (.d (.bl true)) M := by
  rw [call_imp (k := 39) (fn := cOf c11) rfl rfl]
  show ∃ M, runB _ ⟨1, 14, false, b11⟩ _ _ = _
  rw [runB_eq rfl]
  obtain ⟨κ, e0⟩ : ∃ κ : DK2, callN pr 39 5 [.d (.scr ns)] [] = .ok (.r 1) (dm κ 0 []) := by
    obtain ⟨q, h1, h2⟩ := draws2_ok ⟨callN pr 38, pr.glo, WF⟩ ns
    refine ⟨⟨cells2 ns, q, h2, (cells2_len ns).1⟩, ?_⟩
    rw [call_imp (fn := cOf c5) rfl rfl]
    exact h1
  have hb : b11 = .cons (.asg (.nm 1) (.call 5 (.cons (.var 0) .nil))) (.cons (.forr (.nm 2) (.rng (.con (.int 0)) (.con (.int 8))) turnB) (.cons (.ret (.con (.bl true))) .nil)) := rfl
  obtain ⟨s5, m5, e5, x2, x3, x4, x5, x6, x7, x8, x9, x10, x11, x12, x13, κ5, n5, r5, rfl, rfl, hn5⟩ := forD_inv (f := fun v => lturn ⟨callN pr 39, pr.glo, WF⟩ (.nm 2) turnB (.v v))
    (fun j s m => ∃ (x2 x3 x4 x5 x6 x7 x8 x9 x10 x11 x12 x13 : Option Val) (κ : DK2) (n : Nat) (r : Mem), s = [some (.d (.scr ns)), some (.r 1), x2, x3, x4, x5, x6, x7, x8, x9, x10, x11, x12, x13] ∧ m = dm κ n r ∧ n ≤ 1000 * j)
    (((List.range 8).map fun k => D.int (k : Nat)).map .d) 0 [some (.d (.scr ns)), some (.r 1), none, none, none, none, none, none, none, none, none, none, none, none] (dm κ 0 [])
    (by
      rintro i v s m hv ⟨x2, x3, x4, x5, x6, x7, x8, x9, x10, x11, x12, x13, κ, n, r, rfl, rfl, hn⟩
      obtain ⟨hi, rfl⟩ := rng_at hv
      obtain ⟨y3, y4, y5, y6, y7, y8, y9, y10, y11, y12, y13, κ', n', r', e, hn'⟩ := turn_ok (x0 := some (.d (.scr ns))) (x2 := some (.d (.int (i : Nat)))) (x3 := x3) (x4 := x4) (x5 := x5) (x6 := x6) (x7 := x7) (x8 := x8) (x9 := x9) (x10 := x10) (x11 := x11) (x12 := x12) (x13 := x13) κ n r (by omega)
      exact ⟨_, _, e, _, y3, y4, y5, y6, y7, y8, y9, y10, y11, y12, y13, κ', n', r', rfl, rfl, by omega⟩)
    ⟨none, none, none, none, none, none, none, none, none, none, none, none, κ, 0, [], rfl, rfl, by omega⟩
  refine ⟨dm κ5 n5 r5, ?_⟩
  have e5 : forD _ (((List.range 8).map fun k => D.int (k : Nat)).map .d) _ _ = _ := e5
  rw [hb]
  have rg : ((List.range ((8 : Int) - 0).toNat).map fun (k : Nat) => Val.d (.int (0 + (k : Int)))) = ((List.range 8).map fun k => D.int (k : Nat)).map .d := rng0 8
  simp (disch := first | omega | (simp only [List.length_append, List.length_cons, List.length_nil]; omega)) only [xs_cons, xs_nil, nxt_nx, nxt_rt, nxt_bk, nxt_ct, x_asg, x_set, x_aug, au_i, au_s, x_ex, x_ret, x_iff, x_forr, x_whil, x_par, x_pass, x_brk, x_cnt, q_var, gv, q_con, q_glo, q_tup, q_lst, q_bin, neg_i, q_cmp, q_and, q_or, q_not, q_ite, q_idx, ik_r, ik_s, ik_l, ik_t, ik_ds, c_ind, q_dct, q_slc, pv_t, pv_f, q_rev, q_call, q_bi, q_mth, q_isi, q_cmpr, q_nil, q_cons, y_ex, y_rng, y_rng3, turn_nm, lturn_nm, lturn_tup, forL_wkL, fd_nil, fd_cons, fx_nx, fx_ct, fx_bk, fx_rt, as_nm, as_tup, as_tupl, as_nil, as_cons, wp_nil, wp_cons, pa_nil', pa_cons', List.map_cons, List.map_nil, List.replicate, List.cons_append, List.nil_append, Nat.reduceSub, Nat.reduceAdd, List.getElem?_cons_zero, List.getElem?_cons_succ, List.set_cons_zero, List.set_cons_succ, r_ok, r_opt, b_add, b_sub, b_mul, b_div, b_mod, b_adds, c_lt, c_le, c_gt, c_ge, c_eq, c_ne, c_eqs, c_nes, c_ins, c_nis, v_b, t_b, l_s, l_l, l_t, i_s, i_l, i_t, m_t, m_r, dt_n, dt_c, datas_map, o_some, ob_some, w_rng, w_rng3, w_str, w_tup, w_lst, sl_s, sl_t, sl_l, n_b, n_i, tu_l, mn_i, k_s, k_i, k_b, k_t, decide_true, decide_false, Bool.not_true, Bool.not_false, q_chn, c_eqb, c_neb, c_isb, c_inb, c_isN, c_inN, al_l, an_l, or_s, k_n, k_l, rv_t, t_n, q_not', e0, rg]
  rw [e5]
  simp (disch := first | omega | (simp only [List.length_append, List.length_cons, List.length_nil]; omega)) only [xs_cons, xs_nil, nxt_nx, nxt_rt, nxt_bk, nxt_ct, x_asg, x_set, x_aug, au_i, au_s, x_ex, x_ret, x_iff, x_forr, x_whil, x_par, x_pass, x_brk, x_cnt, q_var, gv, q_con, q_glo, q_tup, q_lst, q_bin, neg_i, q_cmp, q_and, q_or, q_not, q_ite, q_idx, ik_r, ik_s, ik_l, ik_t, ik_ds, c_ind, q_dct, q_slc, pv_t, pv_f, q_rev, q_call, q_bi, q_mth, q_isi, q_cmpr, q_nil, q_cons, y_ex, y_rng, y_rng3, turn_nm, lturn_nm, lturn_tup, forL_wkL, fd_nil, fd_cons, fx_nx, fx_ct, fx_bk, fx_rt, as_nm, as_tup, as_tupl, as_nil, as_cons, wp_nil, wp_cons, pa_nil', pa_cons', List.map_cons, List.map_nil, List.replicate, List.cons_append, List.nil_append, Nat.reduceSub, Nat.reduceAdd, List.getElem?_cons_zero, List.getElem?_cons_succ, List.set_cons_zero, List.set_cons_succ, r_ok, r_opt, b_add, b_sub, b_mul, b_div, b_mod, b_adds, c_lt, c_le, c_gt, c_ge, c_eq, c_ne, c_eqs, c_nes, c_ins, c_nis, v_b, t_b, l_s, l_l, l_t, i_s, i_l, i_t, m_t, m_r, dt_n, dt_c, datas_map, o_some, ob_some, w_rng, w_rng3, w_str, w_tup, w_lst, sl_s, sl_t, sl_l, n_b, n_i, tu_l, mn_i, k_s, k_i, k_b, k_t, decide_true, decide_false, Bool.not_true, Bool.not_false, q_chn, c_eqb, c_neb, c_isb, c_inb, c_isN, c_inN, al_l, an_l, or_s, k_n, k_l, rv_t, t_n, q_not']
end Rf.K41

theorem PySem.Challenge.cw_tonguehouse_k41_changes_far_apart_holds : PySem.Challenge.rw_tonguehouse_k41_changes_far_apart.Holds := by
  exact Rf.K41.row_of fun ns _ => Rf.K41.law_ok ns
