import PyProof.Rows.All
import Wide.All
import OpenK.AllK
import Wide.FinOn
import HandS.ForMost
import HandS.TupAny
import HandS.Flow
import HandS.IsInst
import HandS.NoneIn
import HandS.StrMore
import HandS.Replace
import HandS.Style
import HandS.Zip
import HandS.Wide
import HandS.WideMore
import HandS.HeadHook2
import HandS.Words
import HandS.WordsExc
import HandS.Head0
import HandS.Head1
import HandS.Head2
import HandS.HeadEnd
import HandS.More
import HandS.Ends
import KE.KStateDown
import PySem.Challenge.RW_tonguehouse_k15_whole_written_ever_wider
set_option Elab.async false
set_option linter.all false
set_option maxRecDepth 100000
set_option maxHeartbeats 0
/-! Data, memory, erased programs and what they come to. -/
namespace Rf

/-- deep data: what never changes -/
inductive D where
  | non
  | bl (b : Bool)
  | int (i : Int)
  | str (s : List Nat)
  | tup (xs : List D)
  | lst (xs : List D)
  | dct (kvs : List (D × D))
  | set (xs : List D)
  | scr (ns : List Int)
  | fn (f : Nat)
  | obj (c : Nat) (fs : List (Nat × D))

/-- what a name may hold: data, or a place of the memory -/
inductive Val where
  | d (x : D)
  | r (i : Nat)

inductive Ob where
  | lst (vs : List Val)
  | dct (kvs : List (D × Val))
  | ins (c : Nat) (fs : List (Nat × Val))

abbrev Mem := List Ob
abbrev Slots := List (Option Val)

inductive R (α : Type) where
  | ok (a : α) (m : Mem)
  | ex (e : D) (m : Mem)
  | no

def R.bind {α β : Type} (x : R α) (f : α → Mem → R β) : R β :=
  match x with
  | .ok a m => f a m
  | .ex e m => .ex e m
  | .no => .no
def R.opt {α : Type} (x : Option α) (m : Mem) : R α :=
  match x with
  | some a => .ok a m
  | none => .no

inductive Bop where | add | sub | mul | div | mod | pow | xor
inductive Cop where | eq | ne | lt | le | gt | ge | is | isNot | isIn | notIn
inductive Ty where | int | str | bool | tuple | list | dict | cls (c : Nat)
inductive Bi where | len | int | str | abs | tuple | list | sorted | sum | all | any | min2 | max2 | min | max | repr | ord | bool
  | dict
inductive Mt where | join | zfill | index | append | extend | pop | popAt | get | values | split | upper

mutual
inductive Tg where
  | nm (i : Nat)
  | tup (ts : Tgs)
inductive Tgs where
  | nil
  | cons (t : Tg) (ts : Tgs)
end

mutual
inductive Ex where
  | var (i : Nat)
  | con (d : D)
  | glo (g : Nat)
  | tup (es : Exs)
  | lst (z : Bool) (es : Exs)
  | dct (ps : Exs)
  | bin (z : Bool) (o : Bop) (a b : Ex)
  | neg (a : Ex)
  | cmp (o : Cop) (a b : Ex)
  | chn (o p : Cop) (a b c : Ex)
  | and (a b : Ex)
  | or (a b : Ex)
  | not (a : Ex)
  | ite (c a b : Ex)
  | idx (a i : Ex)
  | slc (z l h : Bool) (a lo hi : Ex)
  | rev (z : Bool) (a : Ex)
  | call (f : Nat) (es : Exs)
  | bi (z : Bool) (b : Bi) (es : Exs)
  | mth (m : Mt) (o : Ex) (es : Exs)
  | isi (a : Ex) (ts : List Ty)
  | cmpr (z : Bool) (own : List Nat) (tg : Tg) (it : It) (c : Ex) (e : Ex)
inductive Exs where
  | nil
  | cons (e : Ex) (es : Exs)
inductive It where
  | ex (e : Ex)
  | rng (a b : Ex)
  | rng3 (a b c : Ex)
  | enum (e : Ex)
  | zip (a b : Ex)
end

mutual
inductive St where
  | asg (t : Tg) (e : Ex)
  | set (o i e : Ex)
  | aug (i : Nat) (o : Bop) (e : Ex)
  | ex (e : Ex)
  | ret (e : Ex)
  | iff (c : Ex) (a b : Sts)
  | forr (t : Tg) (it : It) (b : Sts)
  | whil (c : Ex) (b : Sts)
  | par (is : List Nat) (es : Exs)
  | pass
  | brk
  | cnt
inductive Sts where
  | nil
  | cons (s : St) (ss : Sts)
end

/-! ### what operations come to -/
def LINE : Nat := 16777216

def isSc : D → Bool
  | .non => true
  | .bl _ => true
  | .int _ => true
  | .str _ => true
  | _ => false

mutual
def D.eq : D → D → Bool
  | .non, .non => true
  | .bl a, .bl b => a == b
  | .bl a, .int j => (if a then 1 else 0) == j
  | .int i, .bl b => i == (if b then 1 else 0)
  | .int i, .int j => i == j
  | .str x, .str y => x == y
  | .lst xs, .lst ys => D.eqs xs ys
  | .tup xs, .tup ys => D.eqs xs ys
  | _, _ => false
def D.eqs : List D → List D → Bool
  | [], [] => true
  | x :: xs, y :: ys => D.eq x y && D.eqs xs ys
  | _, _ => false
end
mutual
/-- plain data: of None, truths, numbers, texts, tuples, lists -/
def D.pl : D → Bool
  | .non => true
  | .bl _ => true
  | .int _ => true
  | .str _ => true
  | .tup xs => D.pls xs
  | .lst xs => D.pls xs
  | _ => false
def D.pls : List D → Bool
  | [] => true
  | x :: xs => D.pl x && D.pls xs
end
mutual
def D.dep : D → Nat
  | .tup xs => D.deps xs + 1
  | .lst xs => D.deps xs + 1
  | _ => 0
def D.deps : List D → Nat
  | [] => 0
  | x :: xs => max (D.dep x) (D.deps xs)
end
/-- may be held against one another -/
def eqOk (a b : D) : Bool := D.pl a && D.pl b && (decide (D.dep a ≤ 60) || decide (D.dep b ≤ 60))

def ixOf (n : Nat) (i : Int) : Option Nat :=
  if 0 ≤ i then (if i < n then some i.toNat else none) else if -(n : Int) ≤ i then some (i + n).toNat else none
def cutAt (n d : Nat) : Option Int → Nat
  | none => d
  | some v => if v < 0 then (v + (n : Int)).toNat else min v.toNat n
def cut {α : Type} (xs : List α) (lo hi : Option Int) : List α :=
  (xs.drop (cutAt xs.length 0 lo)).take (cutAt xs.length xs.length hi - cutAt xs.length 0 lo)
/-- where a text stands first in another -/
def findSub (x : List Nat) : List Nat → Option Nat
  | [] => if x.isEmpty then some 0 else none
  | c :: r => if x.isPrefixOf (c :: r) then some 0 else (findSub x r).map (· + 1)

def numD : D → Option Int
  | .int i => some i
  | _ => none
def binI (o : Bop) (i j : Int) : Option D :=
  match o with
  | .add => some (.int (i + j))
  | .sub => some (.int (i - j))
  | .mul => if (-(2 ^ 64) < i ∧ i < 2 ^ 64) ∨ (-(2 ^ 64) < j ∧ j < 2 ^ 64) then some (.int (i * j)) else none
  | .div => if 0 < j ∧ j < 18446744073709551616 then some (.int (i / j)) else none
  | .mod => if 0 < j then some (.int (i % j)) else none
  | .pow => if 0 ≤ j ∧ j ≤ 1000000 ∧ i.natAbs < 2 ^ 64 then some (.int (i ^ j.toNat)) else none
  | .xor => none

def datas : List Val → Option (List D)
  | [] => some []
  | .d x :: vs => match datas vs with
    | some xs => some (x :: xs)
    | none => none
  | .r _ :: _ => none
/-- a new list: data where z says so, else a place of the memory -/
def mkL (z : Bool) (vs : List Val) (m : Mem) : R Val :=
  match z with
  | true => match datas vs with
    | some ds => .ok (.d (.lst ds)) m
    | none => .no
  | false => .ok (.r m.length) (m ++ [.lst vs])
def lstOf (m : Mem) : Val → Option (List Val)
  | .d (.lst xs) => some (xs.map .d)
  | .r i => match m[i]? with
    | some (.lst vs) => some vs
    | _ => none
  | _ => none
def rep {α : Type} (xs : List α) : Nat → List α
  | 0 => []
  | n + 1 => xs ++ rep xs n

def binV (z : Bool) (o : Bop) (a b : Val) (m : Mem) : R Val :=
  match a, b with
  | .d (.int i), .d (.int j) => (R.opt (binI o i j) m).bind fun x m => .ok (.d x) m
  | .d (.str x), .d (.str y) => match o with
    | .add => if x.length + y.length ≤ LINE then .ok (.d (.str (x ++ y))) m else .no
    | _ => .no
  | .d (.tup x), .d (.tup y) => match o with
    | .add => if x.length + y.length ≤ LINE then .ok (.d (.tup (x ++ y))) m else .no
    | _ => .no
  | a, b => match lstOf m a with
    | some xs => match o, b with
      | .mul, .d (.int k) => if k < 2 ^ 62 ∧ -(2 ^ 62) < k ∧ xs.length * k.toNat ≤ LINE then mkL z (rep xs k.toNat) m else .no
      | .add, b => match lstOf m b with
        | some ys => if xs.length + ys.length ≤ LINE then mkL z (xs ++ ys) m else .no
        | none => .no
      | _, _ => .no
    | none => .no

/-! dicts that never change, keys numbers and texts -/
def keyB : D → Bool
  | .int _ => true
  | .str _ => true
  | _ => false
def keq : D → D → Bool
  | .int i, .int j => i == j
  | .str x, .str y => x == y
  | _, _ => false
def isFlat : D → Bool
  | .non => true
  | .bl _ => true
  | .int _ => true
  | .str _ => true
  | _ => false
def inD (x : D) (xs : List D) : Bool := xs.any fun y => D.eq y x
def inB (x : D) : D → Option Bool
  | .str t => match x with
    | .str s => some (findSub s t).isSome
    | _ => none
  | .dct kvs => if keyB x then some (kvs.any fun q => keq q.1 x) else none
  | .tup xs => if D.pl x && D.pls xs && decide (D.dep x ≤ 60) then some (inD x xs) else none
  | .lst xs => if D.pl x && D.pls xs && decide (D.dep x ≤ 60) then some (inD x xs) else none
  | _ => none
def cmpI (o : Cop) (i j : Int) : Option Bool :=
  match o with
  | .lt => some (decide (i < j))
  | .le => some (decide (i ≤ j))
  | .gt => some (decide (j < i))
  | .ge => some (decide (j ≤ i))
  | .eq => some (decide (i = j))
  | .ne => some (!decide (i = j))
  | _ => none
def isNon : D → Bool
  | .non => true
  | _ => false
def cmpD (o : Cop) (a b : D) : Option Bool :=
  match a, b with
  | .int i, .int j => cmpI o i j
  | a, b => match o with
    | .eq => if eqOk a b then some (D.eq a b) else none
    | .ne => if eqOk a b then some (!D.eq a b) else none
    | .is => if isNon b then some (isNon a) else none
    | .isNot => if isNon b then some (!isNon a) else none
    | .isIn => inB a b
    | .notIn => (inB a b).map fun c => !c
    | _ => none
def cmpV (o : Cop) (a b : Val) (m : Mem) : R Bool :=
  match a, b with
  | .d a, .d b => R.opt (cmpD o a b) m
  | _, _ => .no
def bV (x : R Bool) : R Val := x.bind fun b m => .ok (.d (.bl b)) m

def truth (m : Mem) : Val → Option Bool
  | .d .non => some false
  | .d (.bl b) => some b
  | .d (.int i) => some (i != 0)
  | .d (.str s) => some (!s.isEmpty)
  | .d (.tup xs) => some (!xs.isEmpty)
  | .d (.lst xs) => some (!xs.isEmpty)
  | .r i => match m[i]? with
    | some (.lst vs) => some (!vs.isEmpty)
    | _ => none
  | _ => none

def lenV (m : Mem) : Val → Option Nat
  | .d (.str s) => some s.length
  | .d (.tup xs) => some xs.length
  | .d (.lst xs) => some xs.length
  | .d (.scr xs) => some xs.length
  | .r i => match m[i]? with
    | some (.lst vs) => some vs.length
    | _ => none
  | _ => none
def atL {α : Type} (xs : List α) (i : Int) : Option α := (ixOf xs.length i).bind fun j => xs[j]?
def idxV (m : Mem) (a : Val) (i : Int) : Option Val :=
  match a with
  | .d (.str s) => (atL s i).map fun c => .d (.str [c])
  | .d (.tup xs) => (atL xs i).map .d
  | .d (.lst xs) => (atL xs i).map .d
  | .d (.scr xs) => (atL xs i).map fun n => .d (.int n)
  | .r j => match m[j]? with
    | some (.lst vs) => atL vs i
    | _ => none
  | _ => none
def getK (kvs : List (D × D)) (k : D) : Option D := (kvs.find? fun q => keq q.1 k).map (·.2)
def putD (kvs : List (D × D)) (k v : D) : List (D × D) := if (kvs.any fun q => keq q.1 k) = true then kvs.map fun q => if keq q.1 k = true then (q.1, v) else q else kvs ++ [(k, v)]
def pairsD : List Val → Option (List (D × D))
  | [] => some []
  | .d k :: .d v :: r => if keyB k then (pairsD r).map fun l => (k, v) :: l else none
  | _ => none
def mkDct (vs : List Val) : Option (List (D × D)) := match pairsD vs with
  | some ps => if ps.length ≤ 15 then some (ps.foldl (fun acc q => putD acc q.1 q.2) []) else none
  | none => none
def idxK (m : Mem) (a : Val) (y : Val) : Option Val :=
  match a, y with
  | .d (.dct kvs), .d k => if keyB k then (getK kvs k).map .d else none
  | .d (.dct _), _ => none
  | a, .d (.int k) => idxV m a k
  | _, _ => none
def slcV (z : Bool) (a : Val) (lo hi : Option Int) (m : Mem) : R Val :=
  match a with
  | .d (.str s) => .ok (.d (.str (cut s lo hi))) m
  | .d (.tup xs) => .ok (.d (.tup (cut xs lo hi))) m
  | .d (.scr ns) => mkL z (cut (ns.map fun n => .d (.int n)) lo hi) m
  | a => match lstOf m a with
    | some vs => mkL z (cut vs lo hi) m
    | none => .no
def revV (z : Bool) (a : Val) (m : Mem) : R Val :=
  match lstOf m a with
  | some vs => mkL z vs.reverse m
  | none => .no
def partV (p : Bool) (v : Val) : Option (Option Int) :=
  match p, v with
  | true, .d (.int i) => some (some i)
  | false, _ => some none
  | _, _ => none

/-! ### texts of numbers, sorting -/
def codesS (x : PySem.Str) : List Nat := x.cps.toList
def numText (i : Int) : List Nat := (toString i).toList.map Char.toNat
def insI (x : Int) : List Int → List Int
  | [] => [x]
  | y :: ys => if x ≤ y then x :: y :: ys else y :: insI x ys
def sortI : List Int → List Int
  | [] => []
  | x :: xs => insI x (sortI xs)
def insS (x : List Nat) : List (List Nat) → List (List Nat)
  | [] => [x]
  | y :: ys => if decide (y < x) then y :: insS x ys else x :: y :: ys
def sortS : List (List Nat) → List (List Nat)
  | [] => []
  | x :: xs => insS x (sortS xs)
def intsD : List Val → Option (List Int)
  | [] => some []
  | .d (.int i) :: vs => (intsD vs).map (i :: ·)
  | _ => none
def strsD : List Val → Option (List (List Nat))
  | [] => some []
  | .d (.str i) :: vs => (strsD vs).map (i :: ·)
  | _ => none
def blsD : List Val → Option (List Bool)
  | [] => some []
  | .d (.bl i) :: vs => (blsD vs).map (i :: ·)
  | _ => none
/-- the items of what can be walked -/
def items (m : Mem) : Val → Option (List Val)
  | .d (.str s) => some (s.map fun c => .d (.str [c]))
  | .d (.tup xs) => some (xs.map .d)
  | .d (.scr ns) => some (ns.map fun n => .d (.int n))
  | v => lstOf m v
def joinL (sep : List Nat) : List (List Nat) → List Nat
  | [] => []
  | [x] => x
  | x :: y :: r => x ++ sep ++ joinL sep (y :: r)
def firstAt (x s : List Nat) : Option Nat := (PySem.Builtin.Str.occurrences ⟨s.toArray⟩ ⟨x.toArray⟩ 0 s.length 1).head?
def padZ (s : List Nat) (n : Nat) : List Nat := List.replicate (n - s.length) 48 ++ s

/-- the number that figures write -/
def digV (s : List Nat) : Nat := s.foldl (fun n c => n * 10 + (c - 48)) 0
def biV (z : Bool) (b : Bi) (vs : List Val) (m : Mem) : R Val :=
  match b, vs with
  | .len, [v] => (R.opt (lenV m v) m).bind fun n m => .ok (.d (.int n)) m
  | .int, [.d (.int i)] => .ok (.d (.int i)) m
  | .int, [.d (.bl c)] => .ok (.d (.int (if c then 1 else 0))) m
  | .int, [.d (.str s)] => if s ≠ [] ∧ s.length ≤ 640 ∧ (∀ c ∈ s, 48 ≤ c ∧ c ≤ 57) then .ok (.d (.int (digV s : Nat))) m else .no
  | .str, [.d (.int i)] => if i.natAbs.log2 < 1920 then .ok (.d (.str (numText i))) m else .no
  | .abs, [.d (.int i)] => .ok (.d (.int (if i < 0 then -i else i))) m
  | .tuple, [.d (.tup xs)] => .ok (.d (.tup xs)) m
  | .tuple, [v] => match lstOf m v with
    | some us => match datas us with
      | some ds => .ok (.d (.tup ds)) m
      | none => .no
    | none => .no
  | .list, [.d (.tup xs)] => mkL z (xs.map .d) m
  | .list, [.d (.scr ns)] => mkL z (ns.map fun n => .d (.int n)) m
  | .list, [v] => match lstOf m v with
    | some us => mkL z us m
    | none => .no
  | .sum, [v] => (R.opt ((lstOf m v).bind intsD) m).bind fun ns m => .ok (.d (.int ns.sum)) m
  | .all, [v] => (R.opt ((lstOf m v).bind blsD) m).bind fun bs m => .ok (.d (.bl (bs.all id))) m
  | .any, [v] => (R.opt ((lstOf m v).bind blsD) m).bind fun bs m => .ok (.d (.bl (bs.any id))) m
  | .min2, [.d (.int i), .d (.int j)] => .ok (.d (.int (if j < i then j else i))) m
  | .max2, [.d (.int i), .d (.int j)] => .ok (.d (.int (if j > i then j else i))) m
  | .ord, [.d (.str [c])] => .ok (.d (.int c)) m
  | _, _ => .no

def mtV (mt : Mt) (o : Val) (vs : List Val) (m : Mem) : R Val :=
  match mt, o, vs with
  | .join, .d (.str sep), [v] => (R.opt ((lstOf m v).bind strsD) m).bind fun ss m => if (ss.map List.length).sum + ss.length * sep.length ≤ LINE then .ok (.d (.str (joinL sep ss))) m else .no
  | .zfill, .d (.str s), [.d (.int n)] => if (0 ≤ n ∧ n ≤ 1000) ∧ s.length ≤ 1000 ∧ (∀ c ∈ s, 48 ≤ c ∧ c ≤ 57) then .ok (.d (.str (padZ s n.toNat))) m else .no
  | .index, .d (.str s), [.d (.str x)] => (R.opt (firstAt x s) m).bind fun n m => .ok (.d (.int (n : Nat))) m
  | .append, .r i, [v] => match m[i]? with
    | some (.lst us) => if us.length < LINE then .ok (.d .non) (m.set i (.lst (us ++ [v]))) else .no
    | _ => .no
  | .pop, .r i, [] => match m[i]? with
    | some (.lst us) => (R.opt us.getLast? m).bind fun v m => .ok v (m.set i (.lst us.dropLast))
    | _ => .no
  | .popAt, .r i, [.d (.int k)] => match m[i]? with
    | some (.lst us) => if k < 2 ^ 62 ∧ -(2 ^ 62) < k then (R.opt ((ixOf us.length k).bind fun j => (us[j]?).map fun v => (j, v)) m).bind fun p m => .ok p.2 (m.set i (.lst (us.eraseIdx p.1))) else .no
    | _ => .no
  | _, _, _ => .no

def setV (o : Val) (i : Int) (v : Val) (m : Mem) : R Unit :=
  match o with
  | .r j => match m[j]? with
    | some (.lst us) => (R.opt (ixOf us.length i) m).bind fun k m => .ok () (m.set j (.lst (us.set k v)))
    | _ => .no
  | _ => .no

/-- how many numbers a range has -/
def rgN (i j c : Int) : Nat := (if c > 0 then (if i < j then (j - i - 1) / c + 1 else 0) else (if i > j then (i - j - 1) / (-c) + 1 else 0)).toNat
/-! ### targets -/
def tgItems (m : Mem) : Val → Option (List Val)
  | .d (.tup xs) => some (xs.map .d)
  | v => lstOf m v
mutual
def asgT (m : Mem) : Tg → Val → Slots → Option Slots
  | .nm i, v, s => some (s.set i (some v))
  | .tup ts, v, s => match tgItems m v with
    | some vs => asgTs m ts vs s
    | none => none
def asgTs (m : Mem) : Tgs → List Val → Slots → Option Slots
  | .nil, [], s => some s
  | .cons t ts, v :: vs, s => match asgT m t v s with
    | some s' => asgTs m ts vs s'
    | none => none
  | _, _, _ => none
end
def wipeS (s : Slots) : List Nat → Slots
  | [] => s
  | v :: vs => (wipeS s vs).set v none

/-! ### the machine -/
structure Cal where
  call : Nat → List Val → Mem → R Val
  glo : Nat → Option D
  wf : Nat

inductive Kd where | non | bool | int | str | tuple | list | dict
def kdOf (m : Mem) : Val → Option Kd
  | .d .non => some .non
  | .d (.bl _) => some .bool
  | .d (.int _) => some .int
  | .d (.str _) => some .str
  | .d (.tup _) => some .tuple
  | .d (.lst _) => some .list
  | .d (.scr _) => some .list
  | .r i => match m[i]? with
    | some (.lst _) => some .list
    | _ => none
  | _ => none
def tyB : Ty → Kd → Bool
  | .int, .int => true
  | .int, .bool => true
  | .bool, .bool => true
  | .str, .str => true
  | .tuple, .tuple => true
  | .list, .list => true
  | .dict, .dict => true
  | _, _ => false

/-- what a walk hands out: a value, or a new tuple of values -/
inductive Wv where
  | v (x : Val)
  | t (xs : List Val)
/-- a walk: what comes at each turn (as the memory then stands), and whether it ends behind the last -/
structure Wk where
  rs : List (Mem → Option Wv)
  fin : Mem → Bool
def wkL (vs : List Val) : Wk := ⟨vs.map fun v _ => some (.v v), fun _ => true⟩
def wkT (vs : List (List Val)) : Wk := ⟨vs.map fun v _ => some (.t v), fun _ => true⟩
def lstR (i n : Nat) (m : Mem) : Option (List Val) := match m[i]? with
  | some (.lst us) => if us.length = n then some us else none
  | _ => none
def wkR (i n : Nat) : Wk := ⟨(List.range n).map fun k m => (lstR i n m).bind fun us => (us[k]?).map .v, fun m => (lstR i n m).isSome⟩
def wkE (i n : Nat) : Wk := ⟨(List.range n).map fun k m => (lstR i n m).bind fun us => (us[k]?).map fun x => .t [.d (.int (k : Nat)), x], fun m => (lstR i n m).isSome⟩
def enumV : Nat → List Val → List (List Val)
  | _, [] => []
  | k, x :: xs => [.d (.int (k : Nat)), x] :: enumV (k + 1) xs
def zipV : List Val → List Val → List (List Val)
  | x :: xs, y :: ys => [x, y] :: zipV xs ys
  | _, _ => []
def asgW (m : Mem) (tg : Tg) (w : Wv) (s : Slots) : Option Slots :=
  match w with
  | .v x => asgT m tg x s
  | .t xs => match tg with
    | .tup ts => asgTs m ts xs s
    | _ => none
def compL (f : Wv → Mem → R (Option Val)) (fin : Mem → Bool) : List (Mem → Option Wv) → List Val → Mem → R (List Val)
  | [], acc, m => match fin m with
    | true => .ok acc m
    | false => .no
  | r :: rs, acc, m => match r m with
    | none => .no
    | some v => (f v m).bind fun o m => match o with
      | some y => if acc.length < LINE then compL f fin rs (acc ++ [y]) m else .no
      | none => compL f fin rs acc m

def exW (v : Val) (m : Mem) : R Wk := match v with
  | .r i => match m[i]? with
    | some (.lst us) => .ok (wkR i us.length) m
    | _ => .no
  | v => (R.opt (items m v) m).bind fun vs m => .ok (wkL vs) m
def rngW (x y : Val) (m : Mem) : R Wk := match x, y with
  | .d (.int i), .d (.int j) => if -(2 ^ 40) ≤ i ∧ i < 2 ^ 40 ∧ -(2 ^ 40) ≤ j ∧ j < 2 ^ 40 ∧ j - i ≤ LINE then .ok (wkL ((List.range (j - i).toNat).map fun (k : Nat) => .d (.int (i + (k : Int))))) m else .no
  | _, _ => .no
def rng3W (x y z : Val) (m : Mem) : R Wk := match x, y, z with
  | .d (.int i), .d (.int j), .d (.int c) => if -(2 ^ 40) ≤ i ∧ i < 2 ^ 40 ∧ -(2 ^ 40) ≤ j ∧ j < 2 ^ 40 ∧ 0 < c.natAbs ∧ c.natAbs < 2 ^ 30 then .ok (wkL ((List.range (rgN i j c)).map fun (k : Nat) => .d (.int (i + (k : Int) * c)))) m else .no
  | _, _, _ => .no
def enumW (v : Val) (m : Mem) : R Wk := match v with
  | .r i => match m[i]? with
    | some (.lst us) => .ok (wkE i us.length) m
    | _ => .no
  | v => (R.opt (lstOf m v) m).bind fun vs m => .ok (wkT (enumV 0 vs)) m
def zipW (x y : Val) (m : Mem) : R Wk := match x, y with
  | .d (.lst xs), .d (.lst ys) => .ok (wkT (zipV (xs.map .d) (ys.map .d))) m
  | .d (.tup xs), .d (.tup ys) => .ok (wkT (zipV (xs.map .d) (ys.map .d))) m
  | _, _ => .no

mutual
def evE (C : Cal) : Ex → Slots → Mem → R Val
  | .var i, s, m => match s[i]? with
    | some (some v) => .ok v m
    | _ => .no
  | .con d, _, m => .ok (.d d) m
  | .glo g, _, m => (R.opt (C.glo g) m).bind fun d m => .ok (.d d) m
  | .tup es, s, m => (evEs C es s m).bind fun vs m => match datas vs with
    | some ds => .ok (.d (.tup ds)) m
    | none => .no
  | .lst z es, s, m => (evEs C es s m).bind fun vs m => mkL z vs m
  | .dct ps, s, m => (evEs C ps s m).bind fun vs m => (R.opt (mkDct vs) m).bind fun d m => .ok (.d (.dct d)) m
  | .bin z o a b, s, m => (evE C a s m).bind fun x m => (evE C b s m).bind fun y m => binV z o x y m
  | .neg a, s, m => (evE C a s m).bind fun x m => match x with
    | .d (.int i) => .ok (.d (.int (-i))) m
    | _ => .no
  | .cmp o a b, s, m => (evE C a s m).bind fun x m => (evE C b s m).bind fun y m => bV (cmpV o x y m)
  | .chn o p a b c, s, m => (evE C a s m).bind fun x m => (evE C b s m).bind fun y m => (cmpV o x y m).bind fun k m =>
    match k with
    | true => (evE C c s m).bind fun w m => bV (cmpV p y w m)
    | false => .ok (.d (.bl false)) m
  | .and a b, s, m => (evE C a s m).bind fun x m => match truth m x with
    | some true => evE C b s m
    | some false => .ok x m
    | none => .no
  | .or a b, s, m => (evE C a s m).bind fun x m => match truth m x with
    | some true => .ok x m
    | some false => evE C b s m
    | none => .no
  | .not a, s, m => (evE C a s m).bind fun x m => match truth m x with
    | some k => .ok (.d (.bl (!k))) m
    | none => .no
  | .ite c a b, s, m => (evE C c s m).bind fun x m => match truth m x with
    | some true => evE C a s m
    | some false => evE C b s m
    | none => .no
  | .idx a i, s, m => (evE C a s m).bind fun x m => (evE C i s m).bind fun y m => R.opt (idxK m x y) m
  | .slc z pl ph a lo hi, s, m => (evE C a s m).bind fun x m => (evE C lo s m).bind fun l m => (evE C hi s m).bind fun h m =>
    match partV pl l, partV ph h with
    | some l, some h => slcV z x l h m
    | _, _ => .no
  | .rev z a, s, m => (evE C a s m).bind fun x m => revV z x m
  | .call f es, s, m => (evEs C es s m).bind fun vs m => C.call f vs m
  | .bi z b es, s, m => (evEs C es s m).bind fun vs m => biV z b vs m
  | .mth mt o es, s, m => (evE C o s m).bind fun x m => (evEs C es s m).bind fun vs m => mtV mt x vs m
  | .isi a ts, s, m => (evE C a s m).bind fun x m => (R.opt (kdOf m x) m).bind fun k m => .ok (.d (.bl (ts.any fun t => tyB t k))) m
  | .cmpr z own tg it c e, s, m => (evIt C it s m).bind fun wk m =>
    (compL (fun v m => match asgW m tg v (wipeS s own) with
      | some s' => (evE C c s' m).bind fun k m => match truth m k with
        | some true => (evE C e s' m).bind fun y m => .ok (some y) m
        | some false => .ok none m
        | none => .no
      | none => .no) wk.fin wk.rs [] m).bind fun acc m => mkL z acc m
def evEs (C : Cal) : Exs → Slots → Mem → R (List Val)
  | .nil, _, m => .ok [] m
  | .cons e es, s, m => (evE C e s m).bind fun v m => (evEs C es s m).bind fun vs m => .ok (v :: vs) m
def evIt (C : Cal) : It → Slots → Mem → R Wk
  | .ex e, s, m => (evE C e s m).bind fun v m => exW v m
  | .rng a b, s, m => (evE C a s m).bind fun x m => (evE C b s m).bind fun y m => rngW x y m
  | .rng3 a b c, s, m => (evE C a s m).bind fun x m => (evE C b s m).bind fun y m => (evE C c s m).bind fun z m => rng3W x y z m
  | .enum e, s, m => (evE C e s m).bind fun v m => enumW v m
  | .zip a b, s, m => (evE C a s m).bind fun x m => (evE C b s m).bind fun y m => zipW x y m
end

inductive Fl where
  | nx (s : Slots)
  | rt (v : Val)
  | bk (s : Slots)
  | ct (s : Slots)
def forL (f : Wv → Slots → Mem → R Fl) (fin : Mem → Bool) : List (Mem → Option Wv) → Slots → Mem → R Fl
  | [], s, m => match fin m with
    | true => .ok (.nx s) m
    | false => .no
  | r :: rs, s, m => match r m with
    | none => .no
    | some v => (f v s m).bind fun r m => match r with
      | .nx s' => forL f fin rs s' m
      | .ct s' => forL f fin rs s' m
      | .bk s' => .ok (.nx s') m
      | .rt v => .ok (.rt v) m
def whiL (c : Slots → Mem → R Bool) (f : Slots → Mem → R Fl) : Nat → Slots → Mem → R Fl
  | 0, _, _ => .no
  | n + 1, s, m => (c s m).bind fun k m => match k with
    | false => .ok (.nx s) m
    | true => (f s m).bind fun r m => match r with
      | .nx s' => whiL c f n s' m
      | .ct s' => whiL c f n s' m
      | .bk s' => .ok (.nx s') m
      | .rt v => .ok (.rt v) m
def parS : List Nat → List Val → Slots → Option Slots
  | [], [], s => some s
  | i :: is, v :: vs, s => parS is vs (s.set i (some v))
  | _, _, _ => none
mutual
def exS (C : Cal) : St → Slots → Mem → R Fl
  | .asg t e, s, m => (evE C e s m).bind fun v m => (R.opt (asgT m t v s) m).bind fun s' m => .ok (.nx s') m
  | .set o i e, s, m => (evE C e s m).bind fun v m => (evE C o s m).bind fun x m => (evE C i s m).bind fun y m => match y with
    | .d (.int k) => (setV x k v m).bind fun _ m => .ok (.nx s) m
    | _ => .no
  | .aug i o e, s, m => match s[i]? with
    | some (some x) => (evE C e s m).bind fun y m => match x, y with
      | .d (.int _), .d (.int _) => (binV true o x y m).bind fun v m => .ok (.nx (s.set i (some v))) m
      | .d (.str _), .d (.str _) => (binV true o x y m).bind fun v m => .ok (.nx (s.set i (some v))) m
      | _, _ => .no
    | _ => .no
  | .ex e, s, m => (evE C e s m).bind fun _ m => .ok (.nx s) m
  | .ret e, s, m => (evE C e s m).bind fun v m => .ok (.rt v) m
  | .iff c a b, s, m => (evE C c s m).bind fun x m => match truth m x with
    | some true => exSs C a s m
    | some false => exSs C b s m
    | none => .no
  | .forr t it b, s, m => (evIt C it s m).bind fun wk m => forL (fun v s m => (R.opt (asgW m t v s) m).bind fun s' m => exSs C b s' m) wk.fin wk.rs s m
  | .whil c b, s, m => whiL (fun s m => (evE C c s m).bind fun x m => R.opt (truth m x) m) (fun s m => exSs C b s m) C.wf s m
  | .par is es, s, m => (evEs C es s m).bind fun vs m => (R.opt (parS is vs s) m).bind fun s' m => .ok (.nx s') m
  | .pass, s, m => .ok (.nx s) m
  | .brk, s, m => .ok (.bk s) m
  | .cnt, s, m => .ok (.ct s) m
def exSs (C : Cal) : Sts → Slots → Mem → R Fl
  | .nil, s, m => .ok (.nx s) m
  | .cons x xs, s, m => (exS C x s m).bind fun r m => match r with
    | .nx s' => exSs C xs s' m
    | r => .ok r m
end

/-! ### programs -/
structure Fn where
  np : Nat
  n : Nat
  pure : Bool
  body : Sts
structure Prog where
  fn : Nat → Option Fn
  glo : Nat → Option D
def runB (C : Cal) (f : Fn) (vs : List Val) (m : Mem) : R Val :=
  match decide (vs.length = f.np) with
  | true => (exSs C f.body (vs.map some ++ List.replicate (f.n - f.np) none) m).bind fun r m => match r with
    | .nx _ => .ok (.d .non) m
    | .rt v => .ok v m
    | _ => .no
  | false => .no
/-- what a pure def hands back, as data -/
def froz (m : Mem) : Val → Option D
  | .d x => some x
  | .r i => match m[i]? with
    | some (.lst vs) => (datas vs).map .lst
    | _ => none
def WF : Nat := 1000000
def callN (P : Prog) : Nat → Nat → List Val → Mem → R Val
  | 0, _, _, _ => .no
  | k + 1, f, vs, m => match P.fn f with
    | none => .no
    | some fn => match fn.pure with
      | false => runB ⟨callN P k, P.glo, WF⟩ fn vs m
      | true => match datas vs with
        | none => .no
        | some _ => match runB ⟨callN P k, P.glo, WF⟩ fn vs [] with
          | .ok v m' => (R.opt (froz m' v) m).bind fun x m => .ok (.d x) m
          | .ex e _ => .ex e m
          | .no => .no
end Rf

namespace Rf
open PySem PySem.Spec PyProof.Rows L2

/-! ### the readings that say all -/
def seE (X : Cx) (e : Expr) : TE := fun σ H Q => ∀ pins s, Inv X pins σ H s → wpAny (model X.prog X.w) X.A (eval e X.env) (EP X pins σ Q) X.xe s
def seT (X : Cx) (e : Expr) : TT := fun σ H Q => ∀ pins s, Inv X pins σ H s → wpAny (model X.prog X.w) X.A (isTrue e X.env (eval e X.env)) (TP X pins σ Q) X.xe s
def seA (X : Cx) (es : List Expr) : TA := fun σ H Q => ∀ pos pins s, Inv X pins σ H s → wpAny (model X.prog X.w) X.A (spliced (backTo pos (starEach es X.env))) (AP X pins σ Q) X.xe s
def seS (X : Cx) (st : Stmt) : TS := fun D σ H => ∀ pins s, Inv X pins σ H s → wpAny (model X.prog X.w) X.A (exec st X.env) (SP X pins D) X.xe s
def seSs (X : Cx) (st : List Stmt) : TS := fun D σ H => ∀ pins s, Inv X pins σ H s → wpAny (model X.prog X.w) X.A (execs st X.env) (SP X pins D) X.xe s
def seG (X : Cx) (tg : Expr) : TG := fun v σ H Q => ∀ pins s u, Inv X pins σ H s → RelV v u → wpAny (model X.prog X.w) X.A (assign tg X.env u) (fun _ s' => ∃ σ' H', Inv X pins σ' H' s' ∧ Q σ' H') X.xe s
def seI (X : Cx) (tg it : Expr) : TI := fun σ H R => ∀ pins s, Inv X pins σ H s → wpAny (model X.prog X.w) X.A (eval it X.env) (fun v s1 => wpAny (model X.prog X.w) X.A (pyIter v) (PIE X pins σ tg R) X.xe s1) X.xe s

section
variable {X : Cx}
theorem pE (e : Expr) : PE X e (seE X e) := ⟨fun pins s _ _ _ I h => h pins s I⟩
theorem pT (e : Expr) : PT X e (seT X e) := ⟨fun pins s _ _ _ I h => h pins s I⟩
theorem pA (es : List Expr) : PA X es (seA X es) := ⟨fun pos pins s _ _ _ I h => h pos pins s I⟩
theorem pS (st : Stmt) : PS X st (seS X st) := ⟨fun pins s _ _ _ I h => h pins s I⟩
theorem pSs (st : List Stmt) : PSs X st (seSs X st) := ⟨fun pins s _ _ _ I h => h pins s I⟩
theorem pG (tg : Expr) : PG X tg (seG X tg) := ⟨fun pins s _ _ _ u _ I r h => h pins s u I r⟩
theorem pI (tg it : Expr) : PI X tg it (seI X tg it) := ⟨fun pins s _ _ _ I h => h pins s I⟩
theorem ofE {e : Expr} {t : TE} (h : PE X e t) {σ : L2.St} {H : Hp} {Q : VK} (q : t σ H Q) : seE X e σ H Q := fun pins s I => h.run pins s σ H Q I q
theorem ofT {e : Expr} {t : TT} (h : PT X e t) {σ : L2.St} {H : Hp} {Q : Bool → Hp → Prop} (q : t σ H Q) : seT X e σ H Q := fun pins s I => h.run pins s σ H Q I q
theorem ofA {es : List Expr} {t : TA} (h : PA X es t) {σ : L2.St} {H : Hp} {Q : List V → Hp → Prop} (q : t σ H Q) : seA X es σ H Q := fun pos pins s I => h.run pos pins s σ H Q I q
theorem ofS {st : Stmt} {t : TS} (h : PS X st t) {σ : L2.St} {H : Hp} {D : Ends} (q : t D σ H) : seS X st D σ H := fun pins s I => h.run pins s σ H D I q
theorem ofSs {st : List Stmt} {t : TS} (h : PSs X st t) {σ : L2.St} {H : Hp} {D : Ends} (q : t D σ H) : seSs X st D σ H := fun pins s I => h.run pins s σ H D I q
theorem ofG {tg : Expr} {t : TG} (h : PG X tg t) {v : V} {σ : L2.St} {H : Hp} {Q : L2.St → Hp → Prop} (q : t v σ H Q) : seG X tg v σ H Q := fun pins s u I r => h.run pins s σ H v u Q I r q
theorem ofI {tg it : Expr} {t : TI} (h : PI X tg it t) {σ : L2.St} {H : Hp} {R : L2.It → Hp → Prop} (q : t σ H R) : seI X tg it σ H R := fun pins s I => h.run pins s σ H R I q

/-- the written part is tracked nowhere; no list is too long -/
structure KF (K : PySem.W.Frag) (H : Hp) : Prop where
  f : ∀ b o, K.lookup b = some o → H b = none
theorem KF.free {K : PySem.W.Frag} {H : Hp} (kf : KF K H) {p : Addr} {o : HO} (h : H p = some o) : K.lookup p = none := by
  cases q : K.lookup p with
  | none => rfl
  | some o' => rw [kf.f p o' q] at h; cases h
theorem kf_of {pins : List (Addr × Obj)} {σ : L2.St} {H : Hp} {s : Shared} (I : Inv X pins σ H s) : KF X.K H := ⟨fun b o e => (I.bs b o (I.mod.kin b o e)).2⟩

theorem seE.thn {e : Expr} {σ : L2.St} {H : Hp} {Q Q' : VK} (h : seE X e σ H Q) (q : ∀ v H', KF X.K H' → Q v H' → Q' v H') : seE X e σ H Q' := fun pins s I =>
  L2.thn (h pins s I) fun _ _ ⟨v, H', I', r, z⟩ => ⟨v, H', I', r, q v H' (kf_of I') z⟩
theorem seT.thn {e : Expr} {σ : L2.St} {H : Hp} {Q Q' : Bool → Hp → Prop} (h : seT X e σ H Q) (q : ∀ v H', KF X.K H' → Q v H' → Q' v H') : seT X e σ H Q' := fun pins s I =>
  L2.thn (h pins s I) fun _ _ ⟨H', I', z⟩ => ⟨H', I', q _ H' (kf_of I') z⟩
theorem seA.thn {es : List Expr} {σ : L2.St} {H : Hp} {Q Q' : List V → Hp → Prop} (h : seA X es σ H Q) (q : ∀ v H', KF X.K H' → Q v H' → Q' v H') : seA X es σ H Q' := fun pos pins s I =>
  L2.thn (h pos pins s I) fun _ _ ⟨v, H', I', r, z⟩ => ⟨v, H', I', r, q v H' (kf_of I') z⟩
theorem seE.kf {e : Expr} {σ : L2.St} {H : Hp} {Q : VK} (h : KF X.K H → seE X e σ H Q) : seE X e σ H Q := fun pins s I => h (kf_of I) pins s I
theorem seA.kf {e : List Expr} {σ : L2.St} {H : Hp} {Q : List V → Hp → Prop} (h : KF X.K H → seA X e σ H Q) : seA X e σ H Q := fun pos pins s I => h (kf_of I) pos pins s I
theorem seG.kf {e : Expr} {v : V} {σ : L2.St} {H : Hp} {Q : L2.St → Hp → Prop} (h : KF X.K H → seG X e v σ H Q) : seG X e v σ H Q := fun pins s u I r => h (kf_of I) pins s u I r
theorem seG.thn {e : Expr} {v : V} {σ : L2.St} {H : Hp} {Q Q' : L2.St → Hp → Prop} (h : seG X e v σ H Q) (q : ∀ σ' H', Q σ' H' → Q' σ' H') : seG X e v σ H Q' := fun pins s u I r =>
  L2.thn (h pins s u I r) fun _ _ ⟨σ', H', I', z⟩ => ⟨σ', H', I', q σ' H' z⟩
theorem seS.thn {e : Stmt} {σ : L2.St} {H : Hp} {D D' : Ends} (h : seS X e D σ H) (q1 : ∀ σ' H', KF X.K H' → D.nx σ' H' → D'.nx σ' H') (q2 : ∀ v H', KF X.K H' → D.rt v H' → D'.rt v H')
    (q3 : ∀ σ' H', KF X.K H' → D.bk σ' H' → D'.bk σ' H') (q4 : ∀ σ' H', KF X.K H' → D.ct σ' H' → D'.ct σ' H') : seS X e D' σ H := fun pins s I =>
  L2.thn (h pins s I) fun f s' z => by
    cases f with
    | next => obtain ⟨σ', H', I', z⟩ := z; exact ⟨σ', H', I', q1 _ _ (kf_of I') z⟩
    | brk => obtain ⟨σ', H', I', z⟩ := z; exact ⟨σ', H', I', q3 _ _ (kf_of I') z⟩
    | cont => obtain ⟨σ', H', I', z⟩ := z; exact ⟨σ', H', I', q4 _ _ (kf_of I') z⟩
    | ret u => obtain ⟨v, σ', H', I', r, z⟩ := z; exact ⟨v, σ', H', I', r, q2 _ _ (kf_of I') z⟩
theorem seSs.thn {e : List Stmt} {σ : L2.St} {H : Hp} {D D' : Ends} (h : seSs X e D σ H) (q1 : ∀ σ' H', KF X.K H' → D.nx σ' H' → D'.nx σ' H') (q2 : ∀ v H', KF X.K H' → D.rt v H' → D'.rt v H')
    (q3 : ∀ σ' H', KF X.K H' → D.bk σ' H' → D'.bk σ' H') (q4 : ∀ σ' H', KF X.K H' → D.ct σ' H' → D'.ct σ' H') : seSs X e D' σ H := fun pins s I =>
  L2.thn (h pins s I) fun f s' z => by
    cases f with
    | next => obtain ⟨σ', H', I', z⟩ := z; exact ⟨σ', H', I', q1 _ _ (kf_of I') z⟩
    | brk => obtain ⟨σ', H', I', z⟩ := z; exact ⟨σ', H', I', q3 _ _ (kf_of I') z⟩
    | cont => obtain ⟨σ', H', I', z⟩ := z; exact ⟨σ', H', I', q4 _ _ (kf_of I') z⟩
    | ret u => obtain ⟨v, σ', H', I', r, z⟩ := z; exact ⟨v, σ', H', I', r, q2 _ _ (kf_of I') z⟩
end

/-! ### data in the abstract heap -/
theorem line_eq : LINE = sizeLine := by rw [sizeLine_eq]; rfl
abbrev S0 (s : List Nat) : Str := ⟨s.toArray⟩
/-- codes of signs -/
def CP (s : List Nat) : Prop := ∀ c ∈ s, c < 0x110000

/-- the addresses that may be written: those of the memory, and hidden ones -/
structure Wd where
  l : List Addr
  z : List Addr
def Wd.out (ρ : Wd) (p : Addr) : Prop := p ∉ ρ.l ∧ p ∉ ρ.z

/-- a key -/
def KR : D → Key → Prop
  | .int i, .inl j => i = j
  | .str s, .inr x => x = S0 s
  | _, _ => False
section
variable (K : PySem.W.Frag) (fa : Nat → Addr)
/-- where a tuple stands: out of what is written, or in the written part -/
def TupO (ρ : Wd) (H : Hp) (p : Addr) (vs : List V) : Prop :=
  (Rd H p (.tup vs) ∧ ρ.out p) ∨ ∃ (o : Obj) (its : Array Value) (n : Nat), K.lookup p = some o ∧ o.cls = .type "tuple" ∧ o.data = .seq its n ∧ its.size ≤ sizeLine ∧ Vals vs its.toList
def LstO (ρ : Wd) (H : Hp) (p : Addr) (vs : List V) : Prop :=
  (Rd H p (.lst vs) ∧ ρ.out p) ∨ ∃ (o : Obj) (its : Array Value) (n : Nat), K.lookup p = some o ∧ o.cls = .type "list" ∧ o.dict = none ∧ o.data = .seq its n ∧ its.size ≤ sizeLine ∧ Vals vs its.toList
mutual
inductive RD : Wd → Hp → D → V → Prop where
  | non {ρ H} : RD ρ H .non .non
  | bl {ρ H b} : RD ρ H (.bl b) (.bl b)
  | int {ρ H i} : RD ρ H (.int i) (.int i)
  | str {ρ H s} : s.length ≤ LINE → CP s → RD ρ H (.str s) (.str (S0 s))
  | tup {ρ H ds p vs} : SqT K H p vs → TupO K ρ H p vs → RDs ρ H ds vs → RD ρ H (.tup ds) (.ref p)
  | lst {ρ H ds p vs} : H p = some (.lst vs) → ρ.out p → RDs ρ H ds vs → RD ρ H (.lst ds) (.ref p)
  | scr {ρ H ns p} : SqL K H p (ns.map V.int) → LstO K ρ H p (ns.map V.int) → RD ρ H (.scr ns) (.ref p)
  | fn {ρ H f} : RD ρ H (.fn f) (.ref (fa f))
  | dct {ρ H kvs p ks} : H p = some (.dK ks) → ρ.out p → RKs ρ H kvs ks → RD ρ H (.dct kvs) (.ref p)
inductive RDs : Wd → Hp → List D → List V → Prop where
  | nil {ρ H} : RDs ρ H [] []
  | cons {ρ H d ds v vs} : RD ρ H d v → RDs ρ H ds vs → RDs ρ H (d :: ds) (v :: vs)
inductive RKs : Wd → Hp → List (D × D) → List (Key × V) → Prop where
  | nil {ρ H} : RKs ρ H [] []
  | cons {ρ H k d r k' v r'} : KR k k' → RD ρ H d v → RKs ρ H r r' → RKs ρ H ((k, d) :: r) ((k', v) :: r')
end
def RV (ρ : Wd) (H : Hp) : Val → V → Prop
  | .d x, v => RD K fa ρ H x v
  | .r i, v => ∃ a, ρ.l[i]? = some a ∧ v = .ref a
inductive RVs : Wd → Hp → List Val → List V → Prop where
  | nil {ρ H} : RVs ρ H [] []
  | cons {ρ H x xs v vs} : RV K fa ρ H x v → RVs ρ H xs vs → RVs ρ H (x :: xs) (v :: vs)
def RO (ρ : Wd) (H : Hp) (a : Addr) : Ob → Prop
  | .lst us => ∃ vs, H a = some (.lst vs) ∧ RVs K fa ρ H us vs
  | .dct _ => False
  | .ins _ _ => False
/-- the memory is what the heap bears -/
structure HR (ρ : Wd) (M : Mem) (H : Hp) : Prop where
  len : ρ.l.length = M.length
  nd : ρ.l.Nodup
  at_ : ∀ (i : Nat) a o, ρ.l[i]? = some a → M[i]? = some o → RO K fa ρ H a o
  zr : ∀ a ∈ ρ.z, H a ≠ none
/-- how heaps go on -/
structure Go (ρ : Wd) (H : Hp) (ρ' : Wd) (H' : Hp) : Prop where
  gr : ∃ n, ρ'.l = ρ.l ++ n ∧ ∀ a ∈ n, H a = none
  zz : ρ'.z = ρ.z
  fr : ∀ b o, H b = some o → b ∉ ρ.l → H' b = some o
  dm : ∀ b, H b ≠ none → H' b ≠ none
/-- what data is, it stays -/
structure Kp (ρ : Wd) (H : Hp) (ρ' : Wd) (H' : Hp) : Prop where
  rd : ∀ p o, H p = some o → ρ.out p → H' p = some o ∧ ρ'.out p
def Pl (ρ ρ' : Wd) : Prop := ∀ (i : Nat) a, ρ.l[i]? = some a → ρ'.l[i]? = some a
structure SR (ρ : Wd) (H : Hp) (s : Slots) (σ : L2.St) : Prop where
  len : s.length = σ.length
  at_ : ∀ (i : Nat) x, s[i]? = some (some x) → ∃ v, σ[i]? = some (some v) ∧ RV K fa ρ H x v
end

section
variable {K : PySem.W.Frag} {fa : Nat → Addr} {ρ ρ' ρ1 ρ2 : Wd} {H H' H1 H2 : Hp} {M M' : Mem}
theorem Go.refl : Go ρ H ρ H := ⟨⟨[], by simp, by simp⟩, rfl, fun _ _ h _ => h, fun _ h => h⟩
theorem Go.trans (a : Go ρ H ρ1 H1) (b : Go ρ1 H1 ρ2 H2) : Go ρ H ρ2 H2 := by
  obtain ⟨⟨n1, e1, h1⟩, z1, f1, d1⟩ := a
  obtain ⟨⟨n2, e2, h2⟩, z2, f2, d2⟩ := b
  refine ⟨⟨n1 ++ n2, by rw [e2, e1, List.append_assoc], fun x hx => ?_⟩, z2.trans z1, fun x o hx hn => ?_, fun x h => d2 x (d1 x h)⟩
  · rcases List.mem_append.mp hx with hx | hx
    · exact h1 x hx
    · cases q : H x with
      | none => rfl
      | some o => exact absurd (h2 x hx) (d1 x (by rw [q]; simp))
  · refine f2 x o (f1 x o hx hn) ?_
    rw [e1]
    intro hm
    rcases List.mem_append.mp hm with hm | hm
    · exact hn hm
    · rw [h1 x hm] at hx; cases hx
theorem Go.nl (g : Go ρ H ρ' H') {p : Addr} (h : p ∉ ρ.l) (t : H p ≠ none) : p ∉ ρ'.l := by
  obtain ⟨⟨n, e, q⟩, _, _, _⟩ := g
  rw [e]
  intro hm
  rcases List.mem_append.mp hm with hm | hm
  · exact h hm
  · exact t (q p hm)
theorem Go.out (g : Go ρ H ρ' H') {p : Addr} (h : ρ.out p) (t : H p ≠ none) : ρ'.out p := by
  refine ⟨g.nl h.1 t, ?_⟩
  rw [g.zz]
  exact h.2
theorem Go.kp (g : Go ρ H ρ' H') : Kp ρ H ρ' H' := ⟨fun p o h n => ⟨g.fr p o h n.1, g.out n (by rw [h]; simp)⟩⟩
theorem Go.pl (g : Go ρ H ρ' H') : Pl ρ ρ' := by
  intro i a e
  obtain ⟨⟨n, e2, _⟩, _, _, _⟩ := g
  rw [e2, List.getElem?_append_left (by exact (List.getElem?_eq_some_iff.mp e).1)]
  exact e
theorem TupO.sq {p : Addr} {vs : List V} (n : TupO K ρ H p vs) : SqT K H p vs := n.elim (fun h => .inl h.1) .inr
theorem LstO.sq {p : Addr} {vs : List V} (n : LstO K ρ H p vs) : SqL K H p vs := n.elim (fun h => .inl h.1) .inr
theorem Kp.tupO (g : Kp ρ H ρ' H') {p : Addr} {vs : List V} (n : TupO K ρ H p vs) : TupO K ρ' H' p vs := by
  rcases n with ⟨h | ⟨o, h⟩, n⟩ | h
  · exact .inl ⟨.inl (g.rd _ _ h n).1, (g.rd _ _ h n).2⟩
  · exact .inl ⟨.inr ⟨o, (g.rd _ _ h n).1⟩, (g.rd _ _ h n).2⟩
  · exact .inr h
theorem Kp.lstO (g : Kp ρ H ρ' H') {p : Addr} {vs : List V} (n : LstO K ρ H p vs) : LstO K ρ' H' p vs := by
  rcases n with ⟨h | ⟨o, h⟩, n⟩ | h
  · exact .inl ⟨.inl (g.rd _ _ h n).1, (g.rd _ _ h n).2⟩
  · exact .inl ⟨.inr ⟨o, (g.rd _ _ h n).1⟩, (g.rd _ _ h n).2⟩
  · exact .inr h
mutual
theorem RD.kp (g : Kp ρ H ρ' H') : ∀ {d : D} {v : V}, RD K fa ρ H d v → RD K fa ρ' H' d v
  | _, _, .non => .non
  | _, _, .bl => .bl
  | _, _, .int => .int
  | _, _, .str h c => .str h c
  | _, _, .tup h n r => .tup (g.tupO n).sq (g.tupO n) (RDs.kp g r)
  | _, _, .lst h n r => .lst (g.rd _ _ h n).1 (g.rd _ _ h n).2 (RDs.kp g r)
  | _, _, .scr h n => .scr (g.lstO n).sq (g.lstO n)
  | _, _, .fn => .fn
  | _, _, .dct h n r => .dct (g.rd _ _ h n).1 (g.rd _ _ h n).2 (RKs.kp g r)
theorem RDs.kp (g : Kp ρ H ρ' H') : ∀ {ds : List D} {vs : List V}, RDs K fa ρ H ds vs → RDs K fa ρ' H' ds vs
  | _, _, .nil => .nil
  | _, _, .cons a b => .cons (RD.kp g a) (RDs.kp g b)
theorem RKs.kp (g : Kp ρ H ρ' H') : ∀ {kvs : List (D × D)} {ks : List (Key × V)}, RKs K fa ρ H kvs ks → RKs K fa ρ' H' kvs ks
  | _, _, .nil => .nil
  | _, _, .cons k a b => .cons k (RD.kp g a) (RKs.kp g b)
end
theorem RV.kp (g : Kp ρ H ρ' H') (q : Pl ρ ρ') {x : Val} {v : V} (h : RV K fa ρ H x v) : RV K fa ρ' H' x v := by
  cases x with
  | d x => exact RD.kp g h
  | r i =>
    obtain ⟨a, e, w⟩ := h
    exact ⟨a, q i a e, w⟩
theorem RVs.kp (g : Kp ρ H ρ' H') (q : Pl ρ ρ') : ∀ {xs : List Val} {vs : List V}, RVs K fa ρ H xs vs → RVs K fa ρ' H' xs vs
  | _, _, .nil => .nil
  | _, _, .cons a b => .cons (RV.kp g q a) (RVs.kp g q b)
theorem SR.kp (g : Kp ρ H ρ' H') (q : Pl ρ ρ') {s : Slots} {σ : L2.St} (h : SR K fa ρ H s σ) : SR K fa ρ' H' s σ :=
  ⟨h.len, fun i x e => let ⟨v, a, b⟩ := h.at_ i x e; ⟨v, a, RV.kp g q b⟩⟩
theorem RD.go (g : Go ρ H ρ' H') {d : D} {v : V} (h : RD K fa ρ H d v) : RD K fa ρ' H' d v := h.kp g.kp
theorem RDs.go (g : Go ρ H ρ' H') {d : List D} {v : List V} (h : RDs K fa ρ H d v) : RDs K fa ρ' H' d v := h.kp g.kp
theorem RV.go (g : Go ρ H ρ' H') {d : Val} {v : V} (h : RV K fa ρ H d v) : RV K fa ρ' H' d v := h.kp g.kp g.pl
theorem RVs.go (g : Go ρ H ρ' H') {d : List Val} {v : List V} (h : RVs K fa ρ H d v) : RVs K fa ρ' H' d v := h.kp g.kp g.pl
theorem SR.go (g : Go ρ H ρ' H') {s : Slots} {σ : L2.St} (h : SR K fa ρ H s σ) : SR K fa ρ' H' s σ := h.kp g.kp g.pl

theorem RDs.length : ∀ {ds : List D} {vs : List V}, RDs K fa ρ H ds vs → ds.length = vs.length
  | _, _, .nil => rfl
  | _, _, .cons _ b => by simp [RDs.length b]
theorem RVs.length : ∀ {ds : List Val} {vs : List V}, RVs K fa ρ H ds vs → ds.length = vs.length
  | _, _, .nil => rfl
  | _, _, .cons _ b => by simp [RVs.length b]
theorem RDs.vs : ∀ {ds : List D} {vs : List V}, RDs K fa ρ H ds vs → RVs K fa ρ H (ds.map .d) vs
  | _, _, .nil => .nil
  | _, _, .cons a b => .cons a (RDs.vs b)
theorem RVs.ds : ∀ {us : List Val} {vs : List V} {ds : List D}, RVs K fa ρ H us vs → datas us = some ds → RDs K fa ρ H ds vs
  | _, _, _, .nil, h => by simp [datas] at h; subst h; exact .nil
  | _, _, _, .cons (x := .d y) (xs := xs) a b, h => by
    unfold datas at h
    split at h
    · rename_i ys q
      cases h
      exact .cons a (RVs.ds b q)
    · cases h
  | _, _, _, .cons (x := .r y) a b, h => by simp [datas] at h
theorem RVs.append : ∀ {a b : List Val} {vs ws : List V}, RVs K fa ρ H a vs → RVs K fa ρ H b ws → RVs K fa ρ H (a ++ b) (vs ++ ws)
  | _, _, _, _, .nil, h => h
  | _, _, _, _, .cons x y, h => .cons x (RVs.append y h)
theorem RDs.append : ∀ {a b : List D} {vs ws : List V}, RDs K fa ρ H a vs → RDs K fa ρ H b ws → RDs K fa ρ H (a ++ b) (vs ++ ws)
  | _, _, _, _, .nil, h => h
  | _, _, _, _, .cons x y, h => .cons x (RDs.append y h)
theorem RVs.get : ∀ {a : List Val} {vs : List V} {i : Nat} {x : Val}, RVs K fa ρ H a vs → a[i]? = some x → ∃ v, vs[i]? = some v ∧ RV K fa ρ H x v
  | _, _, _, _, .nil, h => by simp at h
  | _, _, 0, _, .cons a _, h => by simp at h; subst h; exact ⟨_, rfl, a⟩
  | _, _, i + 1, _, .cons _ b, h => by simpa using RVs.get (i := i) b (by simpa using h)
theorem RDs.get {a : List D} {vs : List V} {i : Nat} {x : D} (r : RDs K fa ρ H a vs) (h : a[i]? = some x) : ∃ v, vs[i]? = some v ∧ RD K fa ρ H x v := by
  obtain ⟨v, e, q⟩ := RVs.get (i := i) (x := .d x) r.vs (by rw [List.getElem?_map, h]; rfl)
  exact ⟨v, e, q⟩
theorem RVs.set : ∀ {a : List Val} {vs : List V} (i : Nat) {x : Val} {v : V}, RVs K fa ρ H a vs → RV K fa ρ H x v → RVs K fa ρ H (a.set i x) (vs.set i v)
  | _, _, _, _, _, .nil, _ => .nil
  | _, _, 0, _, _, .cons _ b, h => .cons h b
  | _, _, i + 1, _, _, .cons a b, h => .cons a (RVs.set i b h)
theorem RVs.take : ∀ {a : List Val} {vs : List V} (n : Nat), RVs K fa ρ H a vs → RVs K fa ρ H (a.take n) (vs.take n)
  | _, _, 0, _ => .nil
  | _, _, _ + 1, .nil => .nil
  | _, _, n + 1, .cons a b => .cons a (RVs.take n b)
theorem RVs.drop : ∀ {a : List Val} {vs : List V} (n : Nat), RVs K fa ρ H a vs → RVs K fa ρ H (a.drop n) (vs.drop n)
  | _, _, 0, h => h
  | _, _, _ + 1, .nil => .nil
  | _, _, n + 1, .cons _ b => RVs.drop n b
theorem RDs.take : ∀ {a : List D} {vs : List V} (n : Nat), RDs K fa ρ H a vs → RDs K fa ρ H (a.take n) (vs.take n)
  | _, _, 0, _ => .nil
  | _, _, _ + 1, .nil => .nil
  | _, _, n + 1, .cons a b => .cons a (RDs.take n b)
theorem RDs.drop : ∀ {a : List D} {vs : List V} (n : Nat), RDs K fa ρ H a vs → RDs K fa ρ H (a.drop n) (vs.drop n)
  | _, _, 0, h => h
  | _, _, _ + 1, .nil => .nil
  | _, _, n + 1, .cons _ b => RDs.drop n b
theorem RVs.rev : ∀ {a : List Val} {vs : List V}, RVs K fa ρ H a vs → RVs K fa ρ H a.reverse vs.reverse
  | _, _, .nil => .nil
  | _, _, .cons a b => by rw [List.reverse_cons, List.reverse_cons]; exact (RVs.rev b).append (.cons a .nil)
theorem RDs.rev : ∀ {a : List D} {vs : List V}, RDs K fa ρ H a vs → RDs K fa ρ H a.reverse vs.reverse
  | _, _, .nil => .nil
  | _, _, .cons a b => by rw [List.reverse_cons, List.reverse_cons]; exact (RDs.rev b).append (.cons a .nil)
theorem RVs.rep {a : List Val} {vs : List V} (h : RVs K fa ρ H a vs) : ∀ n : Nat, RVs K fa ρ H (Rf.rep a n) (List.replicate n vs).flatten
  | 0 => .nil
  | n + 1 => by
    show RVs K fa ρ H (a ++ Rf.rep a n) (List.replicate (n + 1) vs).flatten
    rw [List.replicate_succ, List.flatten_cons]
    exact h.append (RVs.rep h n)

/-- a place of the memory, in the heap -/
theorem HR.lst (h : HR K fa ρ M H) {i : Nat} {us : List Val} {v : V} (e : M[i]? = some (.lst us)) (r : RV K fa ρ H (.r i) v) :
    ∃ a vs, ρ.l[i]? = some a ∧ v = .ref a ∧ H a = some (.lst vs) ∧ RVs K fa ρ H us vs := by
  obtain ⟨a, q, w⟩ := r
  obtain ⟨vs, x, y⟩ := h.at_ i a _ q e
  exact ⟨a, vs, q, w, x, y⟩
/-- a list of either sort -/
theorem HR.lstOf (h : HR K fa ρ M H) {x : Val} {us : List Val} {v : V} (e : lstOf M x = some us) (r : RV K fa ρ H x v) :
    ∃ a vs, v = .ref a ∧ H a = some (.lst vs) ∧ RVs K fa ρ H us vs := by
  cases x with
  | d x =>
    cases x with
    | lst ds =>
      have e' : ds.map Val.d = us := Option.some.inj e
      subst e'
      cases r with
      | lst hp n rs => exact ⟨_, _, rfl, hp, rs.vs⟩
    | _ => cases e
  | r i =>
    have e' : (match M[i]? with
      | some (.lst vs) => some vs
      | _ => none) = some us := e
    cases q : M[i]? with
    | none => rw [q] at e'; cases e'
    | some o =>
      rw [q] at e'
      cases o with
      | lst us' =>
        cases e'
        obtain ⟨a, vs, _, x, y, z⟩ := h.lst q r
        exact ⟨a, vs, x, y, z⟩
      | dct _ => cases e'
      | ins _ _ => cases e'

theorem HR.trk (h : HR K fa ρ M H) {a : Addr} (m : a ∈ ρ.l) : ∃ vs, H a = some (.lst vs) := by
  obtain ⟨i, hi, e⟩ := List.mem_iff_getElem.mp m
  have e1 : ρ.l[i]? = some a := by rw [List.getElem?_eq_getElem hi, e]
  obtain ⟨o, e2⟩ : ∃ o, M[i]? = some o := ⟨_, List.getElem?_eq_getElem (by rw [← h.len]; exact hi)⟩
  have q := h.at_ i a _ e1 e2
  cases o with
  | lst us => obtain ⟨vs, x, _⟩ := q; exact ⟨vs, x⟩
  | dct _ => exact q.elim
  | ins _ _ => exact q.elim
theorem HR.out (h : HR K fa ρ M H) {p : Addr} (hn : H p = none) : ρ.out p := by
  refine ⟨fun hm => ?_, fun hm => h.zr p hm hn⟩
  obtain ⟨vs, e⟩ := h.trk hm
  rw [hn] at e; cases e
/-- the memory under another heap -/
theorem HR.kp (h : HR K fa ρ M H) (g : Kp ρ H ρ' H') (e : ρ'.l = ρ.l) (k : ∀ a ∈ ρ.l, H' a = H a) (z : ∀ a ∈ ρ'.z, H' a ≠ none) : HR K fa ρ' M H' := by
  refine ⟨by rw [e]; exact h.len, by rw [e]; exact h.nd, fun i a ob e1 e2 => ?_, z⟩
  rw [e] at e1
  have q := h.at_ i a ob e1 e2
  cases ob with
  | lst us =>
    obtain ⟨vs, x, y⟩ := q
    exact ⟨vs, by rw [k a (List.mem_of_getElem? e1)]; exact x, y.kp g (fun i a q => by rw [e]; exact q)⟩
  | dct _ => exact q
  | ins _ _ => exact q

/-- a new object that is data -/
theorem go_new (hn : H p = none) {o : HO} : Go ρ H ρ (upd H p o) :=
  ⟨⟨[], by simp, by simp⟩, rfl, fun b x e _ => by rw [upd_ne (fun z => by rw [z, hn] at e; cases e)]; exact e, fun b e => by
    by_cases z : b = p
    · rw [z, upd_same]; simp
    · rw [upd_ne z]; exact e⟩
theorem HR.new (h : HR K fa ρ M H) {p : Addr} {o : HO} (hn : H p = none) : HR K fa ρ M (upd H p o) := by
  refine h.kp (go_new hn).kp rfl (fun a m => ?_) (fun a m => (go_new (ρ := ρ) hn).dm a (h.zr a m))
  exact upd_ne (fun z => (h.out hn).1 (by rw [← z]; exact m))
/-- a new object that is a place of the memory -/
theorem go_place (hn : H p = none) : Go ρ H ⟨ρ.l ++ [p], ρ.z⟩ (upd H p o) := by
  refine ⟨⟨[p], rfl, fun a ha => ?_⟩, rfl, (go_new hn (ρ := ρ)).fr, (go_new hn (ρ := ρ)).dm⟩
  have e : a = p := by simpa using ha
  subst e
  exact hn
/-- a list becomes a place -/
theorem HR.adopt (h : HR K fa ρ M H) (g : Kp ρ H ρ' H') {p : Addr} (e : ρ'.l = ρ.l ++ [p]) (k : ∀ a ∈ ρ.l, H' a = H a) {us : List Val} {vs : List V} (hp : H' p = some (.lst vs)) (n : p ∉ ρ.l)
    (z : ∀ a ∈ ρ'.z, H' a ≠ none) (r : RVs K fa ρ' H' us vs) : HR K fa ρ' (M ++ [.lst us]) H' := by
  have pl : Pl ρ ρ' := fun i a q => by
    rw [e, List.getElem?_append_left (by exact (List.getElem?_eq_some_iff.mp q).1)]
    exact q
  refine ⟨by simp [e, h.len], ?_, fun i a ob e1 e2 => ?_, z⟩
  · rw [e]
    refine List.nodup_append.mpr ⟨h.nd, by simp, fun a ha b hb => ?_⟩
    have e : b = p := by simpa using hb
    subst e
    intro z
    subst z
    exact n ha
  · rw [e] at e1
    by_cases hi : i < ρ.l.length
    · rw [List.getElem?_append_left hi] at e1
      rw [List.getElem?_append_left (by rw [← h.len]; exact hi)] at e2
      have q := h.at_ i a ob e1 e2
      cases ob with
      | lst us =>
        obtain ⟨vs, x, y⟩ := q
        exact ⟨vs, by rw [k a (List.mem_of_getElem? e1)]; exact x, y.kp g pl⟩
      | dct _ => exact q
      | ins _ _ => exact q
    · rw [List.getElem?_append_right (by omega)] at e1
      rw [List.getElem?_append_right (by rw [← h.len]; omega)] at e2
      have e0 : i - ρ.l.length = 0 := by
        have := (List.getElem?_eq_some_iff.mp e1).1
        simp at this
        omega
      rw [e0] at e1
      rw [← h.len, e0] at e2
      simp at e1 e2
      subst e1 e2
      exact ⟨vs, hp, r⟩
theorem HR.place (h : HR K fa ρ M H) {p : Addr} {us : List Val} {vs : List V} (hn : H p = none) (r : RVs K fa ρ H us vs) :
    HR K fa ⟨ρ.l ++ [p], ρ.z⟩ (M ++ [.lst us]) (upd H p (.lst vs)) := by
  have g := go_place (ρ := ρ) (o := .lst vs) hn
  exact h.adopt g.kp rfl (fun a m => upd_ne (fun z => (h.out hn).1 (by rw [← z]; exact m))) upd_same (h.out hn).1 (fun a m => g.dm a (h.zr a m)) (r.go g)
/-- a place is written -/
theorem HR.write (h : HR K fa ρ M H) {i : Nat} {p : Addr} {us us' : List Val} {vs vs' : List V} (e : ρ.l[i]? = some p) (hp : H p = some (.lst vs)) (r : RVs K fa ρ H us' vs') :
    HR K fa ρ (M.set i (.lst us')) (upd H p (.lst vs')) ∧ Go ρ H ρ (upd H p (.lst vs')) := by
  have hm : p ∈ ρ.l := List.mem_of_getElem? e
  have g : Go ρ H ρ (upd H p (.lst vs')) := ⟨⟨[], by simp, by simp⟩, rfl, fun b x e n => by rw [upd_ne (fun z => n (by rw [z]; exact hm))]; exact e, fun b q => by
    by_cases z : b = p
    · rw [z, upd_same]; simp
    · rw [upd_ne z]; exact q⟩
  refine ⟨⟨by simp [h.len], h.nd, fun j a ob e1 e2 => ?_, fun a m => g.dm a (h.zr a m)⟩, g⟩
  by_cases hj : j = i
  · subst hj
    rw [e] at e1
    cases e1
    have hlt : j < M.length := by rw [← h.len]; exact (List.getElem?_eq_some_iff.mp e).1
    rw [List.getElem?_set_self hlt] at e2
    cases e2
    exact ⟨vs', upd_same, r.go g⟩
  · rw [List.getElem?_set_ne (Ne.symm hj)] at e2
    have q := h.at_ j a ob e1 e2
    have ne : a ≠ p := by
      intro z
      subst z
      obtain ⟨h1, q1⟩ := List.getElem?_eq_some_iff.mp e
      obtain ⟨h2, q2⟩ := List.getElem?_eq_some_iff.mp e1
      exact hj ((List.getElem_inj h.nd).mp (q2.trans q1.symm))
    cases ob with
    | lst us =>
      obtain ⟨vs, x, y⟩ := q
      exact ⟨vs, by rw [upd_ne ne]; exact x, y.go g⟩
    | dct _ => exact q
    | ins _ _ => exact q

/-! hidden writable places -/
/-- a new hidden one -/
theorem kp_hide (hn : H p = none) {o : HO} : Kp ρ H ⟨ρ.l, p :: ρ.z⟩ (upd H p o) := by
  refine ⟨fun q x e w => ?_⟩
  have ne : q ≠ p := fun z => by rw [z, hn] at e; cases e
  exact ⟨by rw [upd_ne ne]; exact e, w.1, fun m => (List.mem_cons.mp m).elim ne w.2⟩
theorem HR.hide (h : HR K fa ρ M H) (hn : H p = none) {o : HO} : HR K fa ⟨ρ.l, p :: ρ.z⟩ M (upd H p o) := by
  refine h.kp (kp_hide hn) rfl (fun a m => upd_ne (fun z => (h.out hn).1 (by rw [← z]; exact m))) (fun a m => ?_)
  rcases List.mem_cons.mp m with rfl | m
  · rw [upd_same]; simp
  · exact (go_new (ρ := ρ) hn).dm a (h.zr a m)
/-- it is written -/
theorem kp_step (hz : p ∈ ρ.z) {o : HO} : Kp ρ H ρ (upd H p o) :=
  ⟨fun q x e w => ⟨(upd_ne (fun z => w.2 (by rw [z]; exact hz))).trans e, w⟩⟩
theorem HR.step (h : HR K fa ρ M H) (hz : p ∈ ρ.z) (hl : p ∉ ρ.l) {o : HO} : HR K fa ρ M (upd H p o) := by
  refine h.kp (kp_step hz) rfl (fun a m => upd_ne (fun z => hl (by rw [← z]; exact m))) (fun a m => ?_)
  by_cases z : a = p
  · rw [z, upd_same]; simp
  · rw [upd_ne z]; exact h.zr a m
/-- no longer hidden -/
theorem kp_show {l zs : List Addr} : Kp ⟨l, p :: zs⟩ H ⟨l, zs⟩ H :=
  ⟨fun q x e w => ⟨e, w.1, fun m => w.2 (List.mem_cons_of_mem _ m)⟩⟩
theorem HR.shown {l zs : List Addr} (h : HR K fa ⟨l, p :: zs⟩ M H) : HR K fa ⟨l, zs⟩ M H :=
  h.kp kp_show rfl (fun _ _ => rfl) (fun a m => h.zr a (List.mem_cons_of_mem _ m))
theorem kp_take {l zs : List Addr} : Kp ⟨l, p :: zs⟩ H ⟨l ++ [p], zs⟩ H := by
  refine ⟨fun q x e w => ⟨e, fun m => ?_, fun m => w.2 (List.mem_cons_of_mem _ m)⟩⟩
  rcases List.mem_append.mp m with m | m
  · exact w.1 m
  · have e : q = p := by simpa using m
    exact w.2 (by rw [e]; exact List.mem_cons_self)
/-- the memory goes on under less hiding -/
theorem Go.drop {l l' zs : List Addr} (g : Go ⟨l, p :: zs⟩ H ⟨l', p :: zs⟩ H') : Go ⟨l, zs⟩ H ⟨l', zs⟩ H' := ⟨g.gr, rfl, g.fr, g.dm⟩
end
end Rf

namespace Rf
open PySem PySem.Spec PyProof.Rows L2

/-! ### from the text to erased programs -/
abbrev Nms := List (Str × NameKind)
structure Tab where
  N : List Str
  fid : List (Str × Nat × Nat)
  gid : List (Str × Nat)
  free : List Str
  mu : List (Nat × Nat)

def ixIn (x : Str) : List Str → Option Nat
  | [] => none
  | y :: r => if x = y then some 0 else (ixIn x r).map (· + 1)
def isGl (T : Tab) (nm : Nms) (x : Str) : Bool := decide (nm.lookup x = some .globalImplicit) && !decide (x = "__debug__")
def isFr (T : Tab) (nm : Nms) (x : Str) : Bool := isGl T nm x && decide (x ∈ T.free) && !decide (x = "__name__")
def slot (T : Tab) (nm : Nms) (x : Str) : Option Nat :=
  match nm.lookup x with
  | some .local => if x = "__debug__" ∨ x = "__classdict__" then none else ixIn x T.N
  | some .cell => if x = "__debug__" ∨ x = "__classdict__" then none else ixIn x T.N
  | some .free => if x = "__debug__" ∨ x = "__classdict__" then none else ixIn x T.N
  | _ => none
/-- a name that is stored -/
def slotS (T : Tab) (nm : Nms) (x : Str) : Option Nat :=
  match nm.lookup x with
  | some .local => ixIn x T.N
  | some .cell => ixIn x T.N
  | _ => none
def bopOf : Operator → Option Bop
  | .Add => some .add
  | .Sub => some .sub
  | .Mult => some .mul
  | .FloorDiv => some .div
  | .Mod => some .mod
  | .Pow => some .pow
  | _ => none
def copOf : CmpOp → Cop
  | .Eq => .eq
  | .NotEq => .ne
  | .Lt => .lt
  | .LtE => .le
  | .Gt => .gt
  | .GtE => .ge
  | .Is => .is
  | .IsNot => .isNot
  | .In => .isIn
  | .NotIn => .notIn
def isCell (c : NameKind) : Bool := match c with
  | .cell => true
  | .free => true
  | _ => false
/-- the expressions that are taken -/
def okE : Expr → Bool
  | .BoolOp .. => true
  | .BinOp .. => true
  | .UnaryOp .. => true
  | .IfExp .. => true
  | .Compare .. => true
  | .Call .. => true
  | .Constant .. => true
  | .Subscript .. => true
  | .Name .. => true
  | .List .. => true
  | .Tuple .. => true
  | .ListComp .. => true
  | .Attribute .. => true
  | .Dict .. => true
  | _ => false
def cE (f : Expr → Option Ex) (e : Expr) : Option Ex := if okE e then f e else none
def cL (f : Expr → Option Ex) : List Expr → Option Exs
  | [] => some .nil
  | e :: r => match cE f e, cL f r with
    | some a, some b => some (.cons a b)
    | _, _ => none
def bEx : BoolOp → Ex → Ex → Ex
  | .And, a, b => .and a b
  | .Or, a, b => .or a b
def cBool (f : Expr → Option Ex) (op : BoolOp) : List Expr → Option Ex
  | [] => none
  | [e] => cE f e
  | e :: r => match cE f e, cBool f op r with
    | some a, some b => some (bEx op a b)
    | _, _ => none
def cO (f : Expr → Option Ex) : Option Expr → Option Ex
  | none => some (.con .non)
  | some e => cE f e
def cT (T : Tab) (nm : Nms) : Expr → Option Tg
  | .Name x _ => (slotS T nm x).map .nm
  | _ => none
def cTs (T : Tab) (nm : Nms) : List Expr → Option Tgs
  | [] => some .nil
  | e :: r => match cT T nm e, cTs T nm r with
    | some a, some b => some (.cons a b)
    | _, _ => none
def cTg (T : Tab) (nm : Nms) : Expr → Option Tg
  | .Name x _ => (slotS T nm x).map .nm
  | .Tuple es _ _ => (cTs T nm es).map .tup
  | _ => none
def zOf (T : Tab) (p : Pos) : Bool := !(T.mu.any fun q => q.1 == p.line && q.2 == p.col)
/-- keys and values in turn -/
def altL : List (Option Expr) → List Expr → Option (List Expr)
  | [], [] => some []
  | some k :: ks, v :: vs => (altL ks vs).map fun r => k :: v :: r
  | _, _ => none
def bi1T : List (Str × Bi) := [("len", .len), ("int", .int), ("str", .str), ("abs", .abs), ("tuple", .tuple), ("list", .list), ("sum", .sum), ("all", .all), ("any", .any), ("ord", .ord), ("repr", .repr), ("sorted", .sorted)]
def bi2T : List (Str × Bi) := [("min", .min2), ("max", .max2)]
def bi1 (x : Str) : Option Bi := bi1T.lookup x
def bi2 (x : Str) : Option Bi := bi2T.lookup x
def mt0T : List (Str × Mt) := [("pop", .pop)]
def mt1T : List (Str × Mt) := [("join", .join), ("zfill", .zfill), ("index", .index), ("append", .append), ("pop", .popAt)]
def mt0 (x : Str) : Option Mt := mt0T.lookup x
def mt1 (x : Str) : Option Mt := mt1T.lookup x
def tyT : List (Str × Ty) := [("int", .int), ("str", .str), ("bool", .bool), ("tuple", .tuple), ("list", .list), ("dict", .dict)]
def tyOf (x : Str) : Option Ty := tyT.lookup x
def cTys (T : Tab) (nm : Nms) : List Expr → Option (List Ty)
  | [] => some []
  | .Name x _ :: r => match isFr T nm x, tyOf x, cTys T nm r with
    | true, some t, some ts => some (t :: ts)
    | _, _, _ => none
  | _ => none
/-- the names of a comprehension: its own ones with their places -/
def ownOf (T : Tab) : Nms → Option (List (Str × Nat))
  | [] => some []
  | (x, .local) :: r => match ixIn x T.N with
    | some i => (ownOf T r).map fun l => (x, i) :: l
    | none => ownOf T r
  | (x, .cell) :: r => match ixIn x T.N with
    | some i => (ownOf T r).map fun l => (x, i) :: l
    | none => ownOf T r
  | _ :: r => ownOf T r
def blkB (T : Tab) (nm : Nms) (sc : Scope) : Bool :=
  decide (sc.kind = .function) && (sc.names.all fun y => decide (sc.names.lookup y.1 = some y.2)) &&
    (sc.names.all fun y => match y.2 with
      | .free => (match nm.lookup y.1 with
        | some .cell => true
        | some .free => true
        | _ => false)
      | _ => true)
def isTupE : Expr → Bool
  | .Tuple .. => true
  | _ => false
def cIt (f : Expr → Option Ex) (T : Tab) (nm : Nms) (tg e : Expr) : Option It :=
  match e with
  | .Call (.Name x _) as [] _ => if (isFr T nm x && decide (x = "range")) = true then
      (match as with
      | [b] => match cE f b with
        | some b => some (.rng (.con (.int 0)) b)
        | none => none
      | [a, b] => match cE f a, cE f b with
        | some a, some b => some (.rng a b)
        | _, _ => none
      | [a, b, c] => match cE f a, cE f b, cE f c with
        | some a, some b, some c => some (.rng3 a b c)
        | _, _, _ => none
      | _ => none)
    else if (isFr T nm x && decide (x = "enumerate") && isTupE tg) = true then
      (match as with
      | [a] => (cE f a).map .enum
      | _ => none)
    else if (isFr T nm x && decide (x = "zip") && isTupE tg) = true then
      (match as with
      | [a, b] => match cE f a, cE f b with
        | some a, some b => some (.zip a b)
        | _, _ => none
      | _ => none)
    else (cE f e).map .ex
  | e => (cE f e).map .ex
def cIf (f : Expr → Option Ex) : List Expr → Option Ex
  | [] => some (.con (.bl true))
  | [c] => cE f c
  | _ => none
def compE : Nat → Tab → Nms → Expr → Option Ex
  | 0, _, _, _ => none
  | n + 1, T, nm, e =>
    match e with
    | .Constant c _ _ => match c with
      | .int i => some (.con (.int i))
      | .str s => if s.cps.size ≤ LINE ∧ (s.cps.toList.all fun c => decide (c < 0x110000)) = true then some (.con (.str s.cps.toList)) else none
      | .bool b => some (.con (.bl b))
      | .none => some (.con .non)
      | _ => none
    | .Name x _ => match slot T nm x with
      | some i => some (.var i)
      | none => if isGl T nm x then (T.gid.lookup x).map .glo else none
    | .Tuple es _ _ => if es.length ≤ 1000 then (cL (compE n T nm) es).map .tup else none
    | .List es p => if es.length ≤ 1000 then (cL (compE n T nm) es).map (.lst (zOf T p)) else none
    | .Dict ks vs _ => match altL ks vs with
      | some es => if 0 < ks.length ∧ ks.length ≤ 15 then (cL (compE n T nm) es).map .dct else none
      | none => none
    | .BinOp a op b p => match cE (compE n T nm) a, bopOf op, cE (compE n T nm) b with
      | some a, some o, some b => some (.bin (zOf T p) o a b)
      | _, _, _ => none
    | .UnaryOp .USub a _ => (cE (compE n T nm) a).map .neg
    | .UnaryOp .Not a _ => (cE (compE n T nm) a).map .not
    | .Compare a [op] [b] _ => match cE (compE n T nm) a, cE (compE n T nm) b with
      | some a, some b => some (.cmp (copOf op) a b)
      | _, _ => none
    | .Compare a [op, op'] [b, c] _ => match cE (compE n T nm) a, cE (compE n T nm) b, cE (compE n T nm) c with
      | some a, some b, some c => some (.chn (copOf op) (copOf op') a b c)
      | _, _, _ => none
    | .BoolOp op es _ => cBool (compE n T nm) op es
    | .IfExp c a b _ => match cE (compE n T nm) c, cE (compE n T nm) a, cE (compE n T nm) b with
      | some c, some a, some b => some (.ite c a b)
      | _, _, _ => none
    | .Subscript a (.Slice lo hi none _) p => match cE (compE n T nm) a, cO (compE n T nm) lo, cO (compE n T nm) hi with
      | some a, some l, some h => some (.slc (zOf T p) lo.isSome hi.isSome a l h)
      | _, _, _ => none
    | .Subscript a (.Slice none none (some (.UnaryOp .USub (.Constant (.int 1) _ _) _)) _) p => (cE (compE n T nm) a).map (.rev (zOf T p))
    | .Subscript a i _ => match cE (compE n T nm) a, cE (compE n T nm) i with
      | some a, some i => some (.idx a i)
      | _, _ => none
    | .Call (.Name x _) as [] p =>
      if isFr T nm x then
        (match as with
        | [a, .Name y py] => if x = "isinstance" then
            (match cE (compE n T nm) a, cTys T nm [.Name y py] with
            | some a, some ts => some (.isi a ts)
            | _, _ => none)
          else (match bi2 x, cL (compE n T nm) as with
            | some b, some es => some (.bi (zOf T p) b es)
            | _, _ => none)
        | [a, .Tuple ts _ _] => if x = "isinstance" ∧ ts.length ≤ 1000 then
            (match cE (compE n T nm) a, cTys T nm ts with
            | some a, some ts => some (.isi a ts)
            | _, _ => none)
          else none
        | [_] => (match bi1 x, cL (compE n T nm) as with
            | some b, some es => some (.bi (zOf T p) b es)
            | _, _ => none)
        | [_, _] => (match bi2 x, cL (compE n T nm) as with
            | some b, some es => some (.bi (zOf T p) b es)
            | _, _ => none)
        | _ => none)
      else if isGl T nm x then
        (match T.fid.lookup x, cL (compE n T nm) as with
        | some f, some es => if as.length = f.2 then some (.call f.1 es) else none
        | _, _ => none)
      else none
    | .Call (.Attribute o a ap) as [] p => if (ap.endLine == p.line) = true then (match cE (compE n T nm) o, cL (compE n T nm) as with
      | some x, some es => (match o with
        | .Call (.Name _ _) [] [] _ => none
        | _ => (match as with
          | [] => (mt0 a).map fun m => .mth m x es
          | [_] => (mt1 a).map fun m => .mth m x es
          | _ => none))
      | _, _ => none) else none
    | .ListComp elt [⟨tg, it, ifs, as⟩] sc p => if as = 0 then
        (match ownOf T sc.names, blkB T nm sc, cIt (compE n T nm) T nm tg it with
        | some own, true, some it => (match cTg T sc.names tg, cIf (compE n T sc.names) ifs, cE (compE n T sc.names) elt with
          | some tg, some c, some e => some (.cmpr (zOf T p) (own.map (·.2)) tg it c e)
          | _, _, _ => none)
        | _, _, _ => none)
      else none
    | _ => none

/-! statements -/
def isLC : Expr → Bool
  | .ListComp .. => true
  | _ => false
def isTup : Expr → Bool
  | .Tuple .. => true
  | _ => false
def ipOf : Operator → Option Bop
  | .Add => some .add
  | .Sub => some .sub
  | .Mult => some .mul
  | .FloorDiv => some .div
  | .Mod => some .mod
  | _ => none
/-- targets of a pair that is stored from the right: names of locals on one line, other ones -/
def parN (T : Tab) (nm : Nms) : List Expr → Option (List (Str × Nat × Nat))
  | [] => some []
  | .Name x p :: r => match decide (nm.lookup x = some .local), ixIn x T.N, parN T nm r with
    | true, some i, some l => if l.all (fun q => !decide (q.1 = x) && !decide (q.2.1 = i) && decide (q.2.2 = p.line)) then some ((x, i, p.line) :: l) else none
    | _, _, _ => none
  | _ => none
def parOk (vs : List Expr) : Bool := !(vs.all (foldedForSure 8)) && !(vs.all (constantsAlone 8)) && !(vs.any fun | .Starred .. => true | _ => false)
def compSs (f : Stmt → Option St) : List Stmt → Option Sts
  | [] => some .nil
  | s :: r => match f s, compSs f r with
    | some a, some b => some (.cons a b)
    | _, _ => none
def compS : Nat → Tab → Nms → Stmt → Option St
  | 0, _, _, _ => none
  | n + 1, T, nm, s =>
    match s with
    | .Expr (.Constant (.str _) _ _) _ => some .pass
    | .Expr e _ => if isLC e then none else (cE (compE n T nm) e).map .ex
    | .Return none _ => some (.ret (.con .non))
    | .Return (some e) _ => (cE (compE n T nm) e).map .ret
    | .Pass _ => some .pass
    | .Break _ => some .brk
    | .Continue _ => some .cnt
    | .If c a b _ => match cE (compE n T nm) c, compSs (compS n T nm) a, compSs (compS n T nm) b with
      | some c, some a, some b => some (.iff c a b)
      | _, _, _ => none
    | .While c b [] _ => match cE (compE n T nm) c, compSs (compS n T nm) b with
      | some c, some b => some (.whil c b)
      | _, _ => none
    | .For tg it b [] _ => match cTg T nm tg, cIt (compE n T nm) T nm tg it, compSs (compS n T nm) b with
      | some tg, some it, some b => some (.forr tg it b)
      | _, _, _ => none
    | .Assign [.Name x p] e _ => match cTg T nm (.Name x p), cE (compE n T nm) e with
      | some tg, some e => some (.asg tg e)
      | _, _ => none
    | .Assign [.Tuple ts j p] e _ => match e with
      | .Tuple vs _ _ => if parOk vs ∧ vs.length = ts.length ∧ (ts.length = 2 ∨ ts.length = 3) then (match parN T nm ts, cL (compE n T nm) vs with
        | some l, some es => some (.par (l.map (·.2.1)) es)
        | _, _ => none) else none
      | e => match cTg T nm (.Tuple ts j p), cE (compE n T nm) e with
        | some tg, some e => some (.asg tg e)
        | _, _ => none
    | .Assign [.Subscript o i p] e _ => match cE (compE n T nm) o, cE (compE n T nm) i, cE (compE n T nm) e with
      | some o, some i, some e => some (.set o i e)
      | _, _, _ => none
    | .AugAssign (.Name x _) op e _ => match slotS T nm x, ipOf op, cE (compE n T nm) e with
      | some i, some o, some e => some (.aug i o e)
      | _, _, _ => none
    | _ => none

theorem cE_ok {f : Expr → Option Ex} {e : Expr} {x : Ex} (h : cE f e = some x) : okE e = true ∧ f e = some x := by
  unfold cE at h
  by_cases q : okE e = true
  · rw [if_pos q] at h; exact ⟨q, h⟩
  · rw [if_neg q] at h; cases h
/-! what the text's form says -/
theorem ok_star {e : Expr} (h : okE e = true) (r : List Expr) (env : Env) : starEach (e :: r) env = (false, eval e env) :: starEach r env := by
  cases e <;> first | rfl | cases h
theorem ok_mark {e : Expr} (h : okE e = true) (op : CmpOp) : behindInMarks op e = false := by
  cases e <;> first | rfl | cases h
theorem ok_plain {e : Expr} (h : okE e = true) : PlainIx e := by
  intro o i
  cases e <;> first | rfl | cases h
theorem ok_fold {e : Expr} (h : okE e = true) (env : Env) : ∀ x, foldedSetIterable e env x = pure x := by
  intro x
  cases e <;> first | rfl | cases h
/-- is its truth its value's? -/
def tvE : Expr → Bool
  | .UnaryOp .Not _ _ => false
  | .BoolOp .. => false
  | .IfExp .. => false
  | .Compare .. => false
  | _ => true
theorem tv_true {e : Expr} (h : tvE e = true) (env : Env) (whole : Sem Value) : isTrue e env whole = (do let v ← whole; standAt e.pos; holding [v] (truthy v)) := by
  cases e with
  | UnaryOp op a p => cases op <;> first | rfl | cases h
  | _ => first | rfl | cases h
end Rf

namespace Rf
open PySem PySem.Spec PyProof.Rows L2

/-! ### what is wanted behind a part -/
section
variable (K : PySem.W.Frag) (fa : Nat → Addr)
def PoE (ρ : Wd) (H : Hp) (v : Val) (M' : Mem) (x : V) (H' : Hp) : Prop := ∃ ρ', Go ρ H ρ' H' ∧ HR K fa ρ' M' H' ∧ RV K fa ρ' H' v x
def PoA (ρ : Wd) (H : Hp) (v : List Val) (M' : Mem) (x : List V) (H' : Hp) : Prop := ∃ ρ', Go ρ H ρ' H' ∧ HR K fa ρ' M' H' ∧ RVs K fa ρ' H' v x
def PoT (ρ : Wd) (H : Hp) (v : Bool) (M' : Mem) (x : Bool) (H' : Hp) : Prop := ∃ ρ', Go ρ H ρ' H' ∧ HR K fa ρ' M' H' ∧ v = x
end
structure Rm (k : Nat) (A : Around) : Prop where
  r : Room k A
  g : A.guards = some []

/-- a def, called: what it comes to -/
def FnG (P : Program) (w : World) (K : PySem.W.Frag) (mg : Str → Option Value) (base : Heap) (fa : Nat → Addr) (k f np : Nat) (g : List Val → Mem → R Val) : Prop :=
  ∀ (A : Around) (outer : List Env) (s : Shared) (H : Hp) (us : List Value) (vs : List V) (as : List Val) (ρ : Wd) (M : Mem) (v : Val) (M' : Mem),
    Rm k A → Env0 P w K mg base A outer s H → Vals vs us → RVs K fa ρ H as vs → HR K fa ρ M H → as.length = np → g as M = .ok v M' →
    codeAny (model P w) A (.call (.ref (fa f)) ⟨us, []⟩) (fun r s' => match r with
      | .ok (.ret u) => CE outer P w H s (PoE K fa ρ H v M') u s'
      | _ => False) s

/-- where one stands -/
structure Cok (fa : Nat → Addr) (X : Cx) (T : Tab) (nm : Nms) (k : Nat) (C : Cal) : Prop where
  calm : X.calm = true
  nd : X.N.Nodup
  N : X.N = T.N
  rm : Rm k X.A
  k1 : 0 ≤ k
  na : ∀ x kd, nm.lookup x = some kd → kd ≠ .free → X.env.scope.names.lookup x = some kd
  nf : ∀ x, nm.lookup x = some .free → X.env.scope.names.lookup x = some .free ∨ X.env.scope.names.lookup x = some .cell
  fn : ∀ x f np, T.fid.lookup x = some (f, np) → X.mg x = some (.ref (fa f)) ∧ PySem.W.keepIn X.K (.ref (fa f)) = true ∧ FnG X.prog X.w X.K X.mg X.base fa k f np (C.call f)
  gl : ∀ x g d, T.gid.lookup x = some g → C.glo g = some d → ∃ v u, X.mg x = some u ∧ RelV v u ∧ ∀ ρ H, RD X.K fa ρ H d v
  fr : ∀ x ∈ T.free, X.mg x = none
  fc : ∀ x, nm.lookup x = some .cell → X.fn x = true

def SndE (fa : Nat → Addr) (X : Cx) (pe : Expr) (ev : Slots → Mem → R Val) : Prop :=
  ∀ s σ ρ M H v M', SR X.K fa ρ H s σ → HR X.K fa ρ M H → ev s M = .ok v M' → seE X pe σ H (PoE X.K fa ρ H v M')
def SndA (fa : Nat → Addr) (X : Cx) (pe : List Expr) (ev : Slots → Mem → R (List Val)) : Prop :=
  ∀ s σ ρ M H v M', SR X.K fa ρ H s σ → HR X.K fa ρ M H → ev s M = .ok v M' → seA X pe σ H (PoA X.K fa ρ H v M')
/-- as a test: the truth of what it comes to -/
def SndT (fa : Nat → Addr) (X : Cx) (pe : Expr) (ev : Slots → Mem → R Val) : Prop :=
  ∀ s σ ρ M H v M' b, SR X.K fa ρ H s σ → HR X.K fa ρ M H → ev s M = .ok v M' → truth M' v = some b → seT X pe σ H (PoT X.K fa ρ H b M')

section
variable {fa : Nat → Addr} {X : Cx} {T : Tab} {nm : Nms} {k : Nat} {C : Cal}
theorem seE.kfo {e : Expr} {σ : L2.St} {H : Hp} {Q : VK} (h : seE X e σ H (fun v H' => KF X.K H' → Q v H')) : seE X e σ H Q := h.thn fun _ _ kf q => q kf
theorem R.bind_ok {α β : Type} {x : R α} {f : α → Mem → R β} {b : β} {m : Mem} (h : x.bind f = .ok b m) : ∃ a m1, x = .ok a m1 ∧ f a m1 = .ok b m := by
  cases x with
  | ok a m1 => exact ⟨a, m1, rfl, h⟩
  | ex _ _ => cases h
  | no => cases h
theorem R.opt_ok {α : Type} {x : Option α} {m m' : Mem} {a : α} (h : R.opt x m = .ok a m') : x = some a ∧ m = m' := by
  cases x with
  | none => cases h
  | some b => cases h; exact ⟨rfl, rfl⟩

variable {K : PySem.W.Frag} {ρ ρ1 : Wd} {H H1 H2 : Hp} {M M' : Mem}
theorem PoE.here (h : HR K fa ρ M H) {v : Val} {x : V} (r : RV K fa ρ H v x) : PoE K fa ρ H v M x H := ⟨ρ, Go.refl, h, r⟩
theorem PoE.back (g : Go ρ H ρ1 H1) {v : Val} {x : V} (h : PoE K fa ρ1 H1 v M x H2) : PoE K fa ρ H v M x H2 := let ⟨ρ2, a, b, c⟩ := h; ⟨ρ2, g.trans a, b, c⟩
theorem PoT.back (g : Go ρ H ρ1 H1) {v x : Bool} (h : PoT K fa ρ1 H1 v M x H2) : PoT K fa ρ H v M x H2 := let ⟨ρ2, a, b, c⟩ := h; ⟨ρ2, g.trans a, b, c⟩

/-! ### names, constants -/
theorem slot_vis (c : Cok fa X T nm k C) {x : Str} {i : Nat} (h : slot T nm x = some i) : X.N[i]? = some x ∧ Vis X.env.scope x ∧ (x == ("__debug__" : Str)) = false ∧ (x == ("__classdict__" : Str)) = false := by
  have go : ∀ {N : List Str} {i : Nat}, ixIn x N = some i → N[i]? = some x := by
    intro N
    induction N with
    | nil => intro i h; cases h
    | cons y r ih =>
      intro i h
      unfold ixIn at h
      by_cases e : x = y
      · rw [if_pos e] at h
        cases h
        rw [e]; rfl
      · rw [if_neg e] at h
        cases q : ixIn x r with
        | none => rw [q] at h; cases h
        | some j =>
          rw [q] at h
          cases h
          exact ih q
  have fin : ∀ kd, nm.lookup x = some kd → (if x = "__debug__" ∨ x = "__classdict__" then none else ixIn x T.N) = some i → X.N[i]? = some x ∧ (x == ("__debug__" : Str)) = false ∧ (x == ("__classdict__" : Str)) = false := by
    intro kd _ h
    by_cases e : x = "__debug__" ∨ x = "__classdict__"
    · rw [if_pos e] at h; cases h
    · rw [if_neg e] at h
      rw [c.N]
      exact ⟨go h, beq_eq_false_iff_ne.mpr fun z => e (.inl z), beq_eq_false_iff_ne.mpr fun z => e (.inr z)⟩
  unfold slot at h
  split at h
  · rename_i e
    obtain ⟨a, b, d⟩ := fin _ e h
    exact ⟨a, .inl (c.na _ _ e (by decide)), b, d⟩
  · rename_i e
    obtain ⟨a, b, d⟩ := fin _ e h
    exact ⟨a, .inr (.inl (c.na _ _ e (by decide))), b, d⟩
  · rename_i e
    obtain ⟨a, b, d⟩ := fin _ e h
    refine ⟨a, ?_, b, d⟩
    rcases c.nf _ e with z | z
    · exact .inr (.inr z)
    · exact .inr (.inl z)
  · cases h
theorem snd_var {x : Str} {p : Pos} {i : Nat} (c : Cok fa X T nm k C) (h : slot T nm x = some i) : SndE fa X (.Name x p) (evE C (.var i)) := by
  intro s σ ρ M H v M' hs hm e
  obtain ⟨h1, h2, h3, h4⟩ := slot_vis c h
  have e' : (match s[i]? with
    | some (some v) => R.ok v M
    | _ => R.no) = R.ok v M' := e
  split at e'
  · rename_i w q
    cases e'
    obtain ⟨y, q1, q2⟩ := hs.at_ i _ q
    exact ofE (pe_var h1 h2 h3 h4) ⟨y, q1, .here hm q2⟩
  · cases e'
theorem snd_int {i : Int} {j p} : SndE fa X (.Constant (.int i) j p) (evE C (.con (.int i))) := fun s σ ρ M H v M' hs hm e => by
  cases e; exact ofE pe_int (PoE.here hm .int)
theorem snd_bl {i : Bool} {j p} : SndE fa X (.Constant (.bool i) j p) (evE C (.con (.bl i))) := fun s σ ρ M H v M' hs hm e => by
  cases e; exact ofE pe_bl (PoE.here hm .bl)
theorem snd_non {j p} : SndE fa X (.Constant .none j p) (evE C (.con .non)) := fun s σ ρ M H v M' hs hm e => by
  cases e; exact ofE pe_non (PoE.here hm .non)
theorem s0_of (x : Str) : S0 x.cps.toList = x := by
  cases x with
  | mk a => simp [S0]
theorem snd_str {x : Str} {j p} (h : x.cps.size ≤ LINE) (h2 : (x.cps.toList.all fun c => decide (c < 0x110000)) = true) : SndE fa X (.Constant (.str x) j p) (evE C (.con (.str x.cps.toList))) := fun s σ ρ M H v M' hs hm e => by
  cases e
  refine ofE pe_str (PoE.here hm ?_)
  have r : RD X.K fa ρ H (.str x.cps.toList) (.str (S0 x.cps.toList)) := .str (by simpa using h) (fun c hc => of_decide_eq_true (List.all_eq_true.mp h2 c hc))
  rw [s0_of] at r
  exact r
theorem gl_of (c : Cok fa X T nm k C) {x : Str} (h : isGl T nm x = true) : Gl X x ∧ (x == ("__debug__" : Str)) = false := by
  unfold isGl at h
  simp only [Bool.and_eq_true, decide_eq_true_eq, Bool.not_eq_true', decide_eq_false_iff_not] at h
  exact ⟨c.na _ _ h.1 (by decide), beq_eq_false_iff_ne.mpr h.2⟩
theorem fr_of (c : Cok fa X T nm k C) {x : Str} (h : isFr T nm x = true) : Gl X x ∧ (x == ("__debug__" : Str)) = false ∧ X.mg x = none ∧ x ≠ "__name__" := by
  unfold isFr at h
  simp only [Bool.and_eq_true, decide_eq_true_eq, Bool.not_eq_true', decide_eq_false_iff_not] at h
  obtain ⟨a, b⟩ := gl_of c h.1.1
  exact ⟨a, b, c.fr _ h.1.2, h.2⟩
theorem snd_glo {x : Str} {p : Pos} {g : Nat} (c : Cok fa X T nm k C) (h : isGl T nm x = true) (hg : T.gid.lookup x = some g) : SndE fa X (.Name x p) (evE C (.glo g)) := by
  intro s σ ρ M H v M' hs hm e
  obtain ⟨d, m1, e1, e2⟩ := R.bind_ok e
  obtain ⟨e3, rfl⟩ := R.opt_ok e1
  cases e2
  obtain ⟨y, u, q1, q2, q3⟩ := c.gl x g d hg e3
  obtain ⟨g1, g2⟩ := gl_of c h
  exact ofE (pe_glob g1 q1 q2 g2) (PoE.here hm (q3 ρ H))

/-! ### lists of expressions -/
theorem snd_nil : SndA fa X [] (evEs C .nil) := fun s σ ρ M H v M' hs hm e => by
  cases e; exact ofA pa_nil ⟨ρ, .refl, hm, .nil⟩
theorem snd_cons {e : Expr} {es : List Expr} {x : Ex} {xs : Exs} (hk : okE e = true) (h1 : SndE fa X e (evE C x)) (h2 : SndA fa X es (evEs C xs)) : SndA fa X (e :: es) (evEs C (.cons x xs)) := by
  intro s σ ρ M H v M' hs hm q
  obtain ⟨a, m1, q1, q⟩ := R.bind_ok q
  obtain ⟨b, m2, q2, q⟩ := R.bind_ok q
  cases q
  refine ofA (pa_cons (pE e) (pA es) (ok_star hk es X.env)) ?_
  refine (h1 s σ ρ M H a m1 hs hm q1).thn fun y H1 kf ⟨ρ1, g1, hm1, r1⟩ => ?_
  refine (h2 s σ ρ1 m1 H1 b _ (hs.go g1) hm1 q2).thn fun ys H2 kf2 ⟨ρ2, g2, hm2, r2⟩ => ?_
  exact ⟨ρ2, g1.trans g2, hm2, .cons (r1.go g2) r2⟩
theorem snd_cL {f : Expr → Option Ex} : ∀ {es : List Expr} {xs : Exs}, (∀ e x, f e = some x → okE e = true → SndE fa X e (evE C x)) → cL f es = some xs → SndA fa X es (evEs C xs)
  | [], _, _, h => by cases h; exact snd_nil
  | e :: r, _, ih, h => by
    unfold cL at h
    split at h
    · rename_i a b q1 q2
      cases h
      obtain ⟨k1, k2⟩ := cE_ok q1
      exact snd_cons k1 (ih e a k2 k1) (snd_cL ih q2)
    · cases h
theorem cL_ok {f : Expr → Option Ex} : ∀ {es : List Expr} {xs : Exs}, cL f es = some xs → ∀ e ∈ es, okE e = true
  | [], _, _, _, h => by cases h
  | e :: r, _, h, x, hx => by
    unfold cL at h
    split at h
    · rename_i a b q1 q2
      rcases List.mem_cons.mp hx with rfl | hx
      · exact (cE_ok q1).1
      · exact cL_ok q2 x hx
    · cases h
theorem any_ok {pos : Pos} {env : Env} : ∀ {es : List Expr}, (∀ e ∈ es, okE e = true) → (backTo pos (starEach es env)).any (·.1) = false
  | [], _ => rfl
  | e :: r, h => by
    rw [ok_star (h e List.mem_cons_self) r env]
    exact any_ok fun x hx => h x (List.mem_cons_of_mem _ hx)
theorem len_cL {f : Expr → Option Ex} : ∀ {es : List Expr} {xs : Exs} {s : Slots} {m m' : Mem} {vs : List Val}, cL f es = some xs → evEs C xs s m = .ok vs m' → vs.length = es.length
  | [], _, _, _, _, _, h, q => by cases h; cases q; rfl
  | e :: r, _, _, _, _, _, h, q => by
    unfold cL at h
    split at h
    · cases h
      obtain ⟨a, m1, q1, q⟩ := R.bind_ok q
      obtain ⟨b, m2, q2, q⟩ := R.bind_ok q
      cases q
      rw [List.length_cons, List.length_cons, len_cL (by assumption) q2]
    · cases h
theorem thou {n : Nat} (h : n ≤ 1000) : n ≤ sizeLine := Nat.le_trans h (by rw [sizeLine_eq]; decide)

/-- a new list, in either way -/
theorem mk_list {z : Bool} {vs : List Val} {xs : List V} {v : Val} {m' : Mem} {p : Addr} (hm : HR K fa ρ M H) (r : RVs K fa ρ H vs xs) (e : mkL z vs M = .ok v m') (hn : H p = none) (kf : KF K (upd H p (.lst xs))) :
    PoE K fa ρ H v m' (.ref p) (upd H p (.lst xs)) := by
  cases z with
  | true =>
    have e' : (match datas vs with
      | some ds => R.ok (Val.d (.lst ds)) M
      | none => .no) = .ok v m' := e
    split at e'
    · rename_i ds q
      cases e'
      refine ⟨ρ, go_new hn, hm.new hn, ?_⟩
      exact .lst upd_same (hm.out hn) ((RVs.ds r q).go (go_new hn))
    · cases e'
  | false =>
    cases e
    refine ⟨⟨ρ.l ++ [p], ρ.z⟩, go_place hn, hm.place hn r, p, ?_, rfl⟩
    show (ρ.l ++ [p])[M.length]? = some p
    rw [List.getElem?_append_right (by rw [hm.len]; exact Nat.le_refl _), hm.len, Nat.sub_self]
    rfl
/-- a new tuple of data -/
theorem mk_tup {ds : List D} {xs : List V} {p : Addr} (hm : HR K fa ρ M H) (r : RDs K fa ρ H ds xs) (hn : H p = none) (kf : KF K (upd H p (.tup xs))) :
    PoE K fa ρ H (.d (.tup ds)) M (.ref p) (upd H p (.tup xs)) :=
  ⟨ρ, go_new hn, hm.new hn, .tup (.inl (.inl upd_same)) (.inl ⟨.inl upd_same, hm.out hn⟩) (r.go (go_new hn))⟩
theorem snd_tup {es : List Expr} {j p} {f : Expr → Option Ex} {xs : Exs} (hl : es.length ≤ 1000) (hc : cL f es = some xs) (h : SndA fa X es (evEs C xs)) : SndE fa X (.Tuple es j p) (evE C (.tup xs)) := by
  intro s σ ρ M H v M' hs hm q
  obtain ⟨a, m1, q1, q⟩ := R.bind_ok q
  have e' : (match datas a with
    | some ds => R.ok (Val.d (.tup ds)) m1
    | none => .no) = .ok v M' := q
  split at e'
  · rename_i ds qd
    cases e'
    refine seE.kfo (ofE (pe_tup (pA es)) ((h s σ ρ M H a _ hs hm q1).thn fun ys H1 kf ⟨ρ1, g1, hm1, r1⟩ => ⟨?_, fun p hn kf => (mk_tup hm1 (RVs.ds r1 qd) hn kf).back g1⟩))
    rw [← r1.length, len_cL hc q1]
    exact thou hl
  · cases e'
theorem snd_lst {es : List Expr} {p} {f : Expr → Option Ex} {xs : Exs} {z : Bool} (hl : es.length ≤ 1000) (hc : cL f es = some xs) (h : SndA fa X es (evEs C xs)) : SndE fa X (.List es p) (evE C (.lst z xs)) := by
  intro s σ ρ M H v M' hs hm q
  obtain ⟨a, m1, q1, q⟩ := R.bind_ok q
  refine seE.kfo (ofE (pe_lst (pA es)) ((h s σ ρ M H a _ hs hm q1).thn fun ys H1 kf ⟨ρ1, g1, hm1, r1⟩ => ⟨?_, fun p hn kf => (mk_list hm1 r1 q hn kf).back g1⟩))
  rw [← r1.length, len_cL hc q1]
  exact thou hl
end
end Rf

namespace Rf
open PySem PySem.Spec PyProof.Rows L2
section
variable {fa : Nat → Addr} {X : Cx} {T : Tab} {nm : Nms} {k : Nat} {C : Cal}
variable {ρ ρ1 : Wd} {H H1 H2 : Hp} {M M' : Mem}
theorem s0_len (x : List Nat) : (S0 x).length = x.length := by simp [S0, Str.length]
theorem s0_app (x y : List Nat) : S0 x ++ S0 y = S0 (x ++ y) := by
  show (⟨x.toArray ++ y.toArray⟩ : Str) = ⟨(x ++ y).toArray⟩
  simp
theorem s0_inj {x y : List Nat} (h : S0 x = S0 y) : x = y := by
  have := congrArg (fun z : Str => z.cps.toList) h
  simpa [S0] using this
theorem s0_list (x : List Nat) : (S0 x).cps.toList = x := by simp [S0]

/-- two values and what an operator makes of them -/
def Op2 (fa : Nat → Addr) (X : Cx) (f : Value → Value → Sem Value) (a b : Val) (M : Mem) (v : Val) (M' : Mem) : Prop :=
  ∃ r, OpR X f r ∧ ∀ ρ H x y (Q : VK), HR X.K fa ρ M H → RV X.K fa ρ H a x → RV X.K fa ρ H b y → (∀ z H', PoE X.K fa ρ H v M' z H' → Q z H') → r x y H (fun z H' => KF X.K H' → Q z H')

theorem binI_ok {op : Operator} {o : Bop} {i j : Int} {d : D} (ho : bopOf op = some o) (h : binI o i j = some d) : Op2 fa X (binaryOp op) (.d (.int i)) (.d (.int j)) M (.d d) M := by
  have fin : ∀ {n : Int} {ρ H} {Q : VK}, HR X.K fa ρ M H → (∀ z H', PoE X.K fa ρ H (.d (.int n)) M z H' → Q z H') → KF X.K H → Q (.int n) H := fun hm q _ => q _ _ (PoE.here hm .int)
  cases op <;> simp only [bopOf, Option.some.injEq, reduceCtorEq] at ho <;> subst ho
  · cases h
    exact ⟨_, op_add, fun ρ H x y Q hm rx ry q => by cases rx; cases ry; exact ⟨i, j, rfl, rfl, fin hm q⟩⟩
  · cases h
    exact ⟨_, op_sub, fun ρ H x y Q hm rx ry q => by cases rx; cases ry; exact ⟨i, j, rfl, rfl, fin hm q⟩⟩
  · simp only [binI] at h
    split at h
    · rename_i c
      cases h
      exact ⟨_, op_mul, fun ρ H x y Q hm rx ry q => by cases rx; cases ry; exact ⟨i, j, rfl, rfl, c, fin hm q⟩⟩
    · cases h
  · simp only [binI] at h
    split at h
    · rename_i c
      cases h
      exact ⟨_, op_mod, fun ρ H x y Q hm rx ry q => by cases rx; cases ry; exact ⟨i, j, rfl, rfl, c, fin hm q⟩⟩
    · cases h
  · simp only [binI] at h
    split at h
    · rename_i c
      cases h
      exact ⟨_, op_pow, fun ρ H x y Q hm rx ry q => by cases rx; cases ry; exact ⟨i, j, rfl, rfl, c, fin hm q⟩⟩
    · cases h
  · simp only [binI] at h
    split at h
    · rename_i c
      cases h
      exact ⟨_, op_fdivW, fun ρ H x y Q hm rx ry q => by cases rx; cases ry; exact ⟨i, j, rfl, rfl, wide_div (b := 64) c.1 (by omega) (by decide) (by decide), fin hm q⟩⟩
    · cases h
theorem add_str {x y : List Nat} (h : x.length + y.length ≤ LINE) : Op2 fa X (binaryOp .Add) (.d (.str x)) (.d (.str y)) M (.d (.str (x ++ y))) M :=
  ⟨_, op_add_str, fun ρ H a b Q hm rx ry q => by
    cases rx with
    | str _ cx =>
      cases ry with
      | str _ cy =>
        refine ⟨_, _, rfl, rfl, ?_, fun _ => ?_⟩
        · rw [s0_len, s0_len]; rw [line_eq] at h; exact h
        · rw [s0_app]
          exact q _ _ (PoE.here hm (.str (by rw [List.length_append]; exact h) fun c hc => (List.mem_append.mp hc).elim (cx c) (cy c)))⟩
theorem add_tup {x y : List D} (h : x.length + y.length ≤ LINE) : Op2 fa X (binaryOp .Add) (.d (.tup x)) (.d (.tup y)) M (.d (.tup (x ++ y))) M :=
  ⟨_, op_catA, fun ρ H a b Q hm rx ry q => by
    cases rx with
    | tup hx nx rx =>
      cases ry with
      | tup hy ny ry =>
        refine ⟨_, _, _, _, rfl, rfl, hx, hy, ?_, fun e _ => ?_, fun _ e _ => ?_, fun _ _ p hn kf => ?_⟩
        · rw [← rx.length, ← ry.length]; rw [line_eq] at h; exact h
        · subst e
          cases rx
          exact q _ _ (PoE.here hm (.tup hy ny ry))
        · subst e
          cases ry
          rw [List.append_nil] at q
          exact q _ _ (PoE.here hm (.tup hx nx rx))
        · exact q _ _ (mk_tup hm (rx.append ry) hn kf)⟩
theorem add_lst {z : Bool} {a b : Val} {x y : List Val} {v : Val} {M' : Mem} (ha : lstOf M a = some x) (hb : lstOf M b = some y) (h : x.length + y.length ≤ LINE) (e : mkL z (x ++ y) M = .ok v M') : Op2 fa X (binaryOp .Add) a b M v M' :=
  ⟨_, op_cat, fun ρ H s t Q hm rx ry q => by
    obtain ⟨p1, vs1, rfl, h1, r1⟩ := hm.lstOf ha rx
    obtain ⟨p2, vs2, rfl, h2, r2⟩ := hm.lstOf hb ry
    refine ⟨p1, p2, vs1, vs2, rfl, rfl, h1, h2, ?_, fun p hn kf => q _ _ (mk_list hm (r1.append r2) e hn kf)⟩
    rw [← r1.length, ← r2.length]; rw [line_eq] at h; exact h⟩
theorem mul_lst {z : Bool} {a : Val} {x : List Val} {n : Int} {v : Val} {M' : Mem} (ha : lstOf M a = some x) (h : n < 2 ^ 62 ∧ -(2 ^ 62) < n ∧ x.length * n.toNat ≤ LINE) (e : mkL z (rep x n.toNat) M = .ok v M') : Op2 fa X (binaryOp .Mult) a (.d (.int n)) M v M' :=
  ⟨_, op_rep, fun ρ H s t Q hm rx ry q => by
    obtain ⟨p1, vs1, rfl, h1, r1⟩ := hm.lstOf ha rx
    cases ry
    refine ⟨p1, n, vs1, rfl, rfl, h1, by omega, by omega, ?_, fun p hn kf => q _ _ (mk_list hm (r1.rep _) e hn kf)⟩
    rw [← r1.length]; rw [line_eq] at h; exact h.2.2⟩
theorem binV_ok {z : Bool} {op : Operator} {o : Bop} {a b v : Val} {M' : Mem} (ho : bopOf op = some o) (h : binV z o a b M = .ok v M') : Op2 fa X (binaryOp op) a b M v M' := by
  unfold binV at h
  split at h
  · obtain ⟨d, m, h1, h2⟩ := R.bind_ok h
    obtain ⟨h3, rfl⟩ := R.opt_ok h1
    cases h2
    exact binI_ok ho h3
  · split at h
    · split at h
      · rename_i c
        cases h
        cases op <;> simp [bopOf] at ho
        exact add_str c
      · cases h
    · cases h
  · split at h
    · split at h
      · rename_i c
        cases h
        cases op <;> simp [bopOf] at ho
        exact add_tup c
      · cases h
    · cases h
  · split at h
    · rename_i x qx
      split at h
      · split at h
        · rename_i c
          cases op <;> simp [bopOf] at ho
          exact mul_lst qx c h
        · cases h
      · split at h
        · rename_i y qy
          split at h
          · rename_i c
            cases op <;> simp [bopOf] at ho
            exact add_lst qx qy c h
          · cases h
        · cases h
      · cases h
    · cases h
theorem snd_bin {a b : Expr} {op : Operator} {p : Pos} {z : Bool} {o : Bop} {x y : Ex} (ho : bopOf op = some o) (ha : SndE fa X a (evE C x)) (hb : SndE fa X b (evE C y)) : SndE fa X (.BinOp a op b p) (evE C (.bin z o x y)) := by
  intro s σ ρ M H v M' hs hm q
  obtain ⟨u, m1, q1, q⟩ := R.bind_ok q
  obtain ⟨w, m2, q2, q⟩ := R.bind_ok q
  obtain ⟨r, hr, fin⟩ := binV_ok (fa := fa) (X := X) ho q
  refine seE.kfo (ofE (pe_op hr (pE a) (pE b)) ?_)
  refine (ha s σ ρ M H u m1 hs hm q1).thn fun y H1 kf ⟨ρ1, g1, hm1, r1⟩ => ?_
  refine (hb s σ ρ1 m1 H1 w m2 (hs.go g1) hm1 q2).thn fun y H2 kf ⟨ρ2, g2, hm2, r2⟩ => ?_
  exact fin ρ2 H2 _ _ _ hm2 (r1.go g2) r2 fun z H' po => po.back (g1.trans g2)
theorem snd_neg {a : Expr} {p : Pos} {x : Ex} (ha : SndE fa X a (evE C x)) : SndE fa X (.UnaryOp .USub a p) (evE C (.neg x)) := by
  intro s σ ρ M H v M' hs hm q
  obtain ⟨u, m1, q1, q⟩ := R.bind_ok q
  split at q
  · cases q
    refine ofE (pe_un un_neg (pE a)) ((ha s σ ρ M H _ _ hs hm q1).thn fun y H1 kf ⟨ρ1, g1, hm1, r1⟩ => ?_)
    cases r1
    exact ⟨_, rfl, ρ1, g1, hm1, .int⟩
  · cases q

/-! ### comparisons -/
mutual
def D.py : D → PyData
  | .non => .none
  | .bl b => .bool b
  | .int i => .int i
  | .str s => .str (S0 s)
  | .tup xs => .tuple (D.pys xs)
  | .lst xs => .list (D.pys xs)
  | _ => .none
def D.pys : List D → List PyData
  | [] => []
  | x :: xs => D.py x :: D.pys xs
end
mutual
theorem dp_of {d : D} {v : V} (h : D.pl d = true) (r : RD X.K fa ρ H d v) : Dp X.K H v (D.py d) := by
  cases r with
  | non => exact .non
  | bl => exact .bl _
  | int => exact .int _
  | str _ _ => exact .str _
  | tup hx _ rs => exact .tup hx (dps_of (by simpa [D.pl] using h) rs)
  | lst hx _ rs => exact .lst (.inl (.inl hx)) (dps_of (by simpa [D.pl] using h) rs)
  | scr _ _ => simp [D.pl] at h
  | fn => simp [D.pl] at h
  | dct _ _ _ => simp [D.pl] at h
theorem dps_of {ds : List D} {vs : List V} (h : D.pls ds = true) (r : RDs X.K fa ρ H ds vs) : DpAll X.K H vs (D.pys ds) := by
  cases r with
  | nil => exact .nil
  | cons a b =>
    simp only [D.pls, Bool.and_eq_true] at h
    exact .cons (dp_of h.1 a) (dps_of h.2 b)
end
theorem s0_beq (x y : List Nat) : (S0 x == S0 y) = (x == y) := by
  rw [Bool.eq_iff_iff, beq_iff_eq, beq_iff_eq]
  exact ⟨s0_inj, fun e => by rw [e]⟩
mutual
theorem eqv_of : ∀ (a b : D), D.pl a = true → D.pl b = true → PyData.eqv (D.py a) (D.py b) = D.eq a b
  | a, b, ha, hb => by
    cases a <;> cases b <;> first
      | (simp [D.pl] at ha; done)
      | (simp [D.pl] at hb; done)
      | (simp [D.py, PyData.eqv, D.eq]; done)
      | (simp only [D.py, PyData.eqv, D.eq]; exact s0_beq _ _)
      | (simp only [D.py, PyData.eqv, D.eq]; exact eqvs_of _ _ (by simpa [D.pl] using ha) (by simpa [D.pl] using hb))
theorem eqvs_of : ∀ (a b : List D), D.pls a = true → D.pls b = true → PyData.eqvAll (D.pys a) (D.pys b) = D.eqs a b
  | [], [], _, _ => by simp [D.pys, PyData.eqvAll, D.eqs]
  | [], _ :: _, _, _ => by simp [D.pys, PyData.eqvAll, D.eqs]
  | _ :: _, [], _, _ => by simp [D.pys, PyData.eqvAll, D.eqs]
  | x :: xs, y :: ys, ha, hb => by
    simp only [D.pls, Bool.and_eq_true] at ha hb
    simp only [D.pys, PyData.eqvAll, D.eqs]
    rw [eqv_of x y ha.1 hb.1, eqvs_of xs ys ha.2 hb.2]
end
mutual
theorem lay_of : ∀ {d : D} {v : V}, RD X.K fa ρ H d v → D.pl d = true → (D.py d).canLay0 = true
  | _, _, .non, _ => rfl
  | _, _, .bl, _ => rfl
  | _, _, .int, _ => rfl
  | .str s, _, .str _ c, _ => by
    simp only [D.py, PyData.canLay0, PyData.strOk]
    rw [Array.all_eq_true']
    intro x hx
    exact decide_eq_true (c x (by simpa [S0] using hx))
  | .tup xs, _, .tup _ _ r, h => by
    simp only [D.py, PyData.canLay0]
    exact lays_of r (by simpa [D.pl] using h)
  | .lst xs, _, .lst _ _ r, h => by
    simp only [D.py, PyData.canLay0]
    exact lays_of r (by simpa [D.pl] using h)
  | _, _, .scr _ _, h => by simp [D.pl] at h
  | _, _, .fn, h => by simp [D.pl] at h
  | _, _, .dct _ _ _, h => by simp [D.pl] at h
theorem lays_of : ∀ {ds : List D} {vs : List V}, RDs X.K fa ρ H ds vs → D.pls ds = true → PyData.canLayAll0 (D.pys ds) = true
  | _, _, .nil, _ => rfl
  | _, _, .cons a b, h => by
    simp only [D.pls, Bool.and_eq_true] at h
    simp only [D.pys, PyData.canLayAll0, Bool.and_eq_true]
    exact ⟨lay_of a h.1, lays_of b h.2⟩
end
mutual
theorem dep_of : ∀ d : D, (D.py d).depth = D.dep d
  | .tup xs => by
    show PyData.depthAll (D.pys xs) + 1 = D.deps xs + 1
    rw [deps_of xs]
  | .lst xs => by
    show PyData.depthAll (D.pys xs) + 1 = D.deps xs + 1
    rw [deps_of xs]
  | .non => rfl
  | .bl _ => rfl
  | .int _ => rfl
  | .str _ => rfl
  | .dct _ => rfl
  | .set _ => rfl
  | .scr _ => rfl
  | .fn _ => rfl
  | .obj _ _ => rfl
theorem deps_of : ∀ ds : List D, PyData.depthAll (D.pys ds) = D.deps ds
  | [] => rfl
  | x :: xs => by
    show max (D.py x).depth (PyData.depthAll (D.pys xs)) = max (D.dep x) (D.deps xs)
    rw [dep_of x, deps_of xs]
end
/-- two data held against one another -/
def rEq2 (K : PySem.W.Frag) (n : Bool) : R2 := fun x y H Q => ∃ d e, Dp K H x d ∧ Dp K H y e ∧ d.canLay0 = true ∧ e.canLay0 = true ∧ (d.depth ≤ 60 ∨ e.depth ≤ 60) ∧ Q (.bl (if n then !PyData.eqv d e else PyData.eqv d e)) H
theorem op_eq2 (hu : X.A.units + 64 < cLine) : OpR X (compareOp .Eq) (rEq2 X.K false) := by
  intro pins s σ H x y v u Q I rx ry h
  obtain ⟨d, e, hd, he, sd, se, dp, q⟩ := h
  obtain ⟨as, r1⟩ := Dp.reads I d x v hd rx
  obtain ⟨bs, r2⟩ := Dp.reads I e y u he ry
  exact SeqAt.compareEq_reads r1 r2 sd se (by omega) ⟨.bl _, H, I, rfl, q⟩
theorem op_ne2 (hu : X.A.units + 64 < cLine) : OpR X (compareOp .NotEq) (rEq2 X.K true) := by
  intro pins s σ H x y v u Q I rx ry h
  obtain ⟨d, e, hd, he, sd, se, dp, q⟩ := h
  obtain ⟨as, r1⟩ := Dp.reads I d x v hd rx
  obtain ⟨bs, r2⟩ := Dp.reads I e y u he ry
  exact SeqAt.compareNe_reads r1 r2 sd se (by omega) ⟨.bl _, H, I, rfl, q⟩
/-- two values and what a comparison makes of them: a truth, nothing changed -/
def Cmp2 (fa : Nat → Addr) (X : Cx) (f : Value → Value → Sem Value) (a b : Val) (M : Mem) (c : Bool) : Prop :=
  ∃ r, OpR X f r ∧ ∀ ρ H x y (Q : VK), HR X.K fa ρ M H → RV X.K fa ρ H a x → RV X.K fa ρ H b y → Q (.bl c) H → r x y H Q
theorem cmp_eq {a b : D} (hu : X.A.units + 64 < cLine) (h : eqOk a b = true) : Cmp2 fa X (compareOp .Eq) (.d a) (.d b) M (D.eq a b) := by
  unfold eqOk at h
  simp only [Bool.and_eq_true, Bool.or_eq_true, decide_eq_true_eq] at h
  obtain ⟨⟨pa, pb⟩, dp⟩ := h
  refine ⟨_, op_eq2 hu, fun ρ H x y Q hm rx ry q => ⟨D.py a, D.py b, dp_of pa rx, dp_of pb ry, lay_of rx pa, lay_of ry pb, by rw [dep_of, dep_of]; exact dp, ?_⟩⟩
  rw [eqv_of a b pa pb]
  exact q
theorem cmp_ne {a b : D} (hu : X.A.units + 64 < cLine) (h : eqOk a b = true) : Cmp2 fa X (compareOp .NotEq) (.d a) (.d b) M (!D.eq a b) := by
  unfold eqOk at h
  simp only [Bool.and_eq_true, Bool.or_eq_true, decide_eq_true_eq] at h
  obtain ⟨⟨pa, pb⟩, dp⟩ := h
  refine ⟨_, op_ne2 hu, fun ρ H x y Q hm rx ry q => ⟨D.py a, D.py b, dp_of pa rx, dp_of pb ry, lay_of rx pa, lay_of ry pb, by rw [dep_of, dep_of]; exact dp, ?_⟩⟩
  rw [eqv_of a b pa pb]
  exact q
theorem cmpI_ok {op : CmpOp} {i j : Int} {c : Bool} (h : cmpI (copOf op) i j = some c) : Cmp2 fa X (compareOp op) (.d (.int i)) (.d (.int j)) M c := by
  cases op <;> simp only [copOf, cmpI, Option.some.injEq, reduceCtorEq] at h <;> subst h
  · exact ⟨_, op_eq, fun ρ H x y Q hm rx ry q => by
      cases rx; cases ry
      refine ⟨rfl, ?_⟩
      rw [show decide (V.int i = V.int j) = decide (i = j) by simp]
      exact q⟩
  · exact ⟨_, op_ne, fun ρ H x y Q hm rx ry q => by
      cases rx; cases ry
      refine ⟨rfl, ?_⟩
      rw [show decide (V.int i = V.int j) = decide (i = j) by simp]
      exact q⟩
  · exact ⟨_, op_lt, fun ρ H x y Q hm rx ry q => by cases rx; cases ry; exact ⟨i, j, rfl, rfl, q⟩⟩
  · exact ⟨_, op_le, fun ρ H x y Q hm rx ry q => by cases rx; cases ry; exact ⟨i, j, rfl, rfl, q⟩⟩
  · exact ⟨_, op_gt, fun ρ H x y Q hm rx ry q => by cases rx; cases ry; exact ⟨i, j, rfl, rfl, q⟩⟩
  · exact ⟨_, op_ge, fun ρ H x y Q hm rx ry q => by cases rx; cases ry; exact ⟨i, j, rfl, rfl, q⟩⟩
theorem non_iff {a : D} {x : V} (r : RD X.K fa ρ H a x) : decide (x = .non) = isNon a := by
  cases r <;> rfl
end
end Rf

namespace Rf
open PySem PySem.Spec PyProof.Rows L2
/-! ### a text in a text -/
theorem findSub_ok (x : List Nat) : ∀ t : List Nat, (findSub x t).isSome = true ↔ ∃ i, i + x.length ≤ t.length ∧ (t.drop i).take x.length = x
  | [] => by
    unfold findSub
    cases x with
    | nil => simp
    | cons a r => simp
  | c :: r => by
    have ih := findSub_ok x r
    unfold findSub
    by_cases h : x.isPrefixOf (c :: r) = true
    · rw [if_pos h]
      have h1 : x <+: (c :: r) := List.isPrefixOf_iff_prefix.mp h
      refine ⟨fun _ => ⟨0, by simpa using h1.length_le, ?_⟩, fun _ => rfl⟩
      obtain ⟨t, ht⟩ := h1
      rw [List.drop_zero, ← ht]
      simp
    · rw [if_neg h, Option.isSome_map]
      rw [ih]
      constructor
      · rintro ⟨i, h1, h2⟩
        exact ⟨i + 1, by simp; omega, by simpa using h2⟩
      · rintro ⟨i, h1, h2⟩
        cases i with
        | zero =>
          exfalso
          apply h
          rw [List.isPrefixOf_iff_prefix]
          refine ⟨(c :: r).drop x.length, ?_⟩
          have h3 : (c :: r).take x.length = x := by simpa using h2
          conv => lhs; lhs; rw [← h3]
          exact List.take_append_drop _ _
        | succ i => exact ⟨i, by simp at h1; omega, by simpa using h2⟩
theorem in_s0 (x t : List Nat) : (!(Builtin.Str.occurrences (S0 t) (S0 x) 0 (S0 t).length 1).isEmpty) = (findSub x t).isSome := by
  rw [Bool.eq_iff_iff, StrLaws.found_iff, findSub_ok]
  simp only [s0_len, StrLaws.subAt_eq, s0_list, beq_iff_eq]

section
variable {fa : Nat → Addr} {X : Cx} {T : Tab} {nm : Nms} {k : Nat} {C : Cal}
variable {ρ ρ1 : Wd} {H H1 H2 : Hp} {M M' : Mem}
theorem units_of {A : Around} (h : Rm k A) (h1 : 0 ≤ k) : A.units + 64 + 16 + 100 < cLine := by have := h.r.un; omega

def rIn2 (K : PySem.W.Frag) (n : Bool) : R2 := fun x y H Q => ∃ d ds, Dp K H x d ∧ (Dp K H y (.list ds) ∨ Dp K H y (.tuple ds)) ∧ d.canLay0 = true ∧ PyData.canLayAll0 ds = true ∧ d.depth ≤ 60 ∧
  Q (.bl (if n then !(ds.any fun z => PyData.eqv z d) else ds.any fun z => PyData.eqv z d)) H
theorem op_in2 (hu : X.A.units + 65 < cLine) : OpR X (compareOp .In) (rIn2 X.K false) := by
  intro pins s σ H x y v u Q I rx ry h
  obtain ⟨d, ds, hd, he, sd, se, dp, q⟩ := h
  obtain ⟨as, r1⟩ := Dp.reads I d x v hd rx
  rcases he with he | he
  · obtain ⟨bs, r2⟩ := Dp.reads I (.list ds) y u he ry
    exact SeqAt.in_list_reads r2 r1 se sd (by omega) ⟨.bl _, H, I, rfl, q⟩
  · obtain ⟨bs, r2⟩ := Dp.reads I (.tuple ds) y u he ry
    exact SeqAt.in_tuple_reads r2 r1 se sd (by omega) ⟨.bl _, H, I, rfl, q⟩
theorem op_notIn2 (hu : X.A.units + 65 < cLine) : OpR X (compareOp .NotIn) (rIn2 X.K true) := by
  intro pins s σ H x y v u Q I rx ry h
  obtain ⟨d, ds, hd, he, sd, se, dp, q⟩ := h
  obtain ⟨as, r1⟩ := Dp.reads I d x v hd rx
  rcases he with he | he
  · obtain ⟨bs, r2⟩ := Dp.reads I (.list ds) y u he ry
    exact SeqAt.notIn_list_reads r2 r1 se sd (by omega) ⟨.bl _, H, I, rfl, q⟩
  · obtain ⟨bs, r2⟩ := Dp.reads I (.tuple ds) y u he ry
    exact SeqAt.notIn_tuple_reads r2 r1 se sd (by omega) ⟨.bl _, H, I, rfl, q⟩
theorem any_py {x : D} (hx : D.pl x = true) : ∀ {xs : List D}, D.pls xs = true → ((D.pys xs).any fun z => PyData.eqv z (D.py x)) = inD x xs
  | [], _ => rfl
  | y :: ys, h => by
    simp only [D.pls, Bool.and_eq_true] at h
    show (PyData.eqv (D.py y) (D.py x) || (D.pys ys).any fun z => PyData.eqv z (D.py x)) = (D.eq y x || inD x ys)
    rw [eqv_of y x h.1 hx, any_py hx h.2]
def rDIn : R2 := fun y x H Q => ∃ a o, x = .ref a ∧ DGet H a y o ∧ Q (.bl o.isSome) H
def rDNotIn : R2 := fun y x H Q => ∃ a o, x = .ref a ∧ DGet H a y o ∧ Q (.bl (!o.isSome)) H
theorem op_inD (hu : X.A.units + 1 < cLine) : OpR X (compareOp .In) rDIn := by
  intro pins s σ H y x v u Q I ry rx h
  obtain ⟨a, o, rfl, g, q⟩ := h
  obtain rfl : u = Value.ref a := rx
  exact d_in hu I g ry fun s3 I3 => ⟨.bl o.isSome, H, I3, rfl, q⟩
theorem op_notInD (hu : X.A.units + 1 < cLine) : OpR X (compareOp .NotIn) rDNotIn := by
  intro pins s σ H y x v u Q I ry rx h
  obtain ⟨a, o, rfl, g, q⟩ := h
  obtain rfl : u = Value.ref a := rx
  exact d_notIn hu I g ry fun s3 I3 => ⟨.bl (!o.isSome), H, I3, rfl, q⟩
theorem key_of {d : D} {x : V} (h : keyB d = true) (r : RD X.K fa ρ H d x) : ∃ k, x = kV k ∧ KR d k := by
  cases r with
  | int => exact ⟨.inl _, rfl, rfl⟩
  | str _ _ => exact ⟨.inr _, rfl, rfl⟩
  | _ => cases h
theorem keq_of {a b : D} {a' b' : Key} (h1 : KR a a') (h2 : KR b b') : keq a b = decide (a' = b') := by
  cases a <;> cases a' <;> first | (cases h1; done) | skip
  · cases b <;> cases b' <;> first | (cases h2; done) | skip
    · cases h1; cases h2; rw [Bool.eq_iff_iff]; simp [keq]
    · rw [Bool.eq_iff_iff]; simp [keq]
  · cases b <;> cases b' <;> first | (cases h2; done) | skip
    · rw [Bool.eq_iff_iff]; simp [keq]
    · cases h1; cases h2
      rw [Bool.eq_iff_iff]
      simp only [keq, beq_iff_eq, decide_eq_true_eq, Sum.inr.injEq]
      exact ⟨fun e => by rw [e], s0_inj⟩
theorem find_key {k : D} {k' : Key} (hk : KR k k') : ∀ {kvs : List (D × D)} {ks : List (Key × V)}, RKs X.K fa ρ H kvs ks → (getK kvs k = none ∧ valV ks k' = none) ∨ ∃ d v, getK kvs k = some d ∧ valV ks k' = some v ∧ RD X.K fa ρ H d v
  | _, _, .nil => .inl ⟨rfl, rfl⟩
  | _, _, .cons (k := a) (d := d) (k' := a') (v := v) h1 h2 h3 => by
    have e := keq_of h1 hk
    have ih := find_key hk h3
    unfold getK valV
    rw [List.find?_cons, List.find?_cons]
    by_cases c : a' = k'
    · have e1 : keq a k = true := by rw [e]; exact decide_eq_true c
      simp only [e1, decide_eq_true c]
      exact .inr ⟨d, v, rfl, rfl, h2⟩
    · have e1 : keq a k = false := by rw [e]; exact decide_eq_false c
      simp only [e1, decide_eq_false c]
      exact ih
theorem any_get (kvs : List (D × D)) (k : D) : (kvs.any fun q => keq q.1 k) = (getK kvs k).isSome := by
  unfold getK
  induction kvs with
  | nil => rfl
  | cons q r ih =>
    rw [List.any_cons, List.find?_cons]
    cases keq q.1 k with
    | true => rfl
    | false => exact ih
theorem any_key {k : D} {k' : Key} (hk : KR k k') {kvs : List (D × D)} {ks : List (Key × V)} (r : RKs X.K fa ρ H kvs ks) : (valV ks k').isSome = (kvs.any fun q => keq q.1 k) := by
  rw [any_get]
  rcases find_key hk r with ⟨a, b⟩ | ⟨d, v, a, b, _⟩
  · rw [a, b]; rfl
  · rw [a, b]; rfl
theorem inB_ok {a b : D} {c : Bool} (hu : X.A.units + 65 < cLine) (h : inB a b = some c) : Cmp2 fa X (compareOp .In) (.d a) (.d b) M c ∧ Cmp2 fa X (compareOp .NotIn) (.d a) (.d b) M (!c) := by
  have seq : ∀ xs : List D, (b = .tup xs ∨ b = .lst xs) → (if (D.pl a && D.pls xs && decide (D.dep a ≤ 60)) = true then some (inD a xs) else none) = some c → Cmp2 fa X (compareOp .In) (.d a) (.d b) M c ∧ Cmp2 fa X (compareOp .NotIn) (.d a) (.d b) M (!c) := by
    intro xs hb h
    split at h
    · rename_i cc
      cases h
      simp only [Bool.and_eq_true, decide_eq_true_eq] at cc
      obtain ⟨⟨pa, px⟩, dp⟩ := cc
      have go : ∀ ρ H x y, RD X.K fa ρ H a x → RD X.K fa ρ H b y → Dp X.K H x (D.py a) ∧ (Dp X.K H y (.list (D.pys xs)) ∨ Dp X.K H y (.tuple (D.pys xs))) ∧ (D.py a).canLay0 = true ∧ PyData.canLayAll0 (D.pys xs) = true ∧ (D.py a).depth ≤ 60 := by
        intro ρ H x y rx ry
        refine ⟨dp_of pa rx, ?_, lay_of rx pa, ?_, by rw [dep_of]; exact dp⟩
        · rcases hb with rfl | rfl
          · exact .inr (dp_of (d := .tup xs) (by simpa [D.pl] using px) ry)
          · exact .inl (dp_of (d := .lst xs) (by simpa [D.pl] using px) ry)
        · rcases hb with rfl | rfl
          · cases ry with | tup _ _ r => exact lays_of r px
          · cases ry with | lst _ _ r => exact lays_of r px
      constructor
      · refine ⟨_, op_in2 hu, fun ρ H x y Q hm rx ry q => ?_⟩
        obtain ⟨a1, a2, a3, a4, a5⟩ := go ρ H x y rx ry
        refine ⟨_, _, a1, a2, a3, a4, a5, ?_⟩
        rw [any_py pa px]
        exact q
      · refine ⟨_, op_notIn2 hu, fun ρ H x y Q hm rx ry q => ?_⟩
        obtain ⟨a1, a2, a3, a4, a5⟩ := go ρ H x y rx ry
        refine ⟨_, _, a1, a2, a3, a4, a5, ?_⟩
        rw [any_py pa px]
        exact q
    · cases h
  cases b with
  | dct kvs =>
    have h' : (if keyB a then some (kvs.any fun q => keq q.1 a) else none) = some c := h
    split at h'
    · rename_i hk
      cases h'
      have go : ∀ ρ H x y, RD X.K fa ρ H a x → RD X.K fa ρ H (.dct kvs) y → ∃ p o, y = .ref p ∧ DGet H p x o ∧ o.isSome = (kvs.any fun q => keq q.1 a) := by
        intro ρ H x y rx ry
        cases ry with
        | dct hp n rs =>
          obtain ⟨k', hk1, hk2⟩ := key_of hk rx
          refine ⟨_, _, rfl, .inl ⟨_, k', .inl hp, hk1, rfl⟩, ?_⟩
          exact any_key hk2 rs
      constructor
      · refine ⟨_, op_inD (by omega), fun ρ H x y Q hm rx ry q => ?_⟩
        obtain ⟨p, o, rfl, g, e⟩ := go ρ H x y rx ry
        exact ⟨p, o, rfl, g, by rw [e]; exact q⟩
      · refine ⟨_, op_notInD (by omega), fun ρ H x y Q hm rx ry q => ?_⟩
        obtain ⟨p, o, rfl, g, e⟩ := go ρ H x y rx ry
        exact ⟨p, o, rfl, g, by rw [e]; exact q⟩
    · cases h'
  | str t =>
    cases a with
    | str s =>
      have e : (findSub s t).isSome = c := Option.some.inj h
      subst e
      constructor
      · refine ⟨_, op_in_str, fun ρ H x y Q hm rx ry q => ?_⟩
        cases rx; cases ry
        refine ⟨_, _, rfl, rfl, ?_⟩
        rw [in_s0]
        exact q
      · refine ⟨_, op_notin_str, fun ρ H x y Q hm rx ry q => ?_⟩
        cases rx; cases ry
        refine ⟨_, _, rfl, rfl, ?_⟩
        rw [in_s0]
        exact q
    | _ => cases h
  | tup xs => exact seq xs (.inl rfl) h
  | lst xs => exact seq xs (.inr rfl) h
  | _ => cases h
theorem cmpD_ok {op : CmpOp} {a b : D} {c : Bool} (hu : X.A.units + 65 < cLine) (h : cmpD (copOf op) a b = some c) : Cmp2 fa X (compareOp op) (.d a) (.d b) M c := by
  unfold cmpD at h
  split at h
  · exact cmpI_ok h
  · cases op <;> simp only [copOf] at h
    · split at h
      · cases h; exact cmp_eq (by omega) (by assumption)
      · cases h
    · split at h
      · cases h; exact cmp_ne (by omega) (by assumption)
      · cases h
    · cases h
    · cases h
    · cases h
    · cases h
    · split at h
      · rename_i hb
        cases h
        refine ⟨_, op_isN, fun ρ H x y Q hm rx ry q => ⟨?_, ?_⟩⟩
        · have := non_iff ry; rw [hb] at this; exact of_decide_eq_true this
        · rw [non_iff rx]; exact q
      · cases h
    · split at h
      · rename_i hb
        cases h
        refine ⟨_, op_notN, fun ρ H x y Q hm rx ry q => ⟨?_, ?_⟩⟩
        · have := non_iff ry; rw [hb] at this; exact of_decide_eq_true this
        · rw [non_iff rx]; exact q
      · cases h
    · exact (inB_ok hu h).1
    · cases q : inB a b with
      | none => rw [q] at h; cases h
      | some z =>
        rw [q] at h
        cases h
        exact (inB_ok hu q).2
theorem cmpV_ok {op : CmpOp} {a b : Val} {c : Bool} {M' : Mem} (hu : X.A.units + 65 < cLine) (h : cmpV (copOf op) a b M = .ok c M') : M = M' ∧ Cmp2 fa X (compareOp op) a b M c := by
  unfold cmpV at h
  split at h
  · obtain ⟨h1, h2⟩ := R.opt_ok h
    exact ⟨h2, cmpD_ok hu h1⟩
  · cases h
theorem snd_cmp {a b : Expr} {op : CmpOp} {p : Pos} {x y : Ex} (c : Cok fa X T nm k C) (hb : okE b = true) (h1 : SndE fa X a (evE C x)) (h2 : SndE fa X b (evE C y)) : SndE fa X (.Compare a [op] [b] p) (evE C (.cmp (copOf op) x y)) := by
  intro s σ ρ M H v M' hs hm q
  obtain ⟨u, m1, q1, q⟩ := R.bind_ok q
  obtain ⟨w, m2, q2, q⟩ := R.bind_ok q
  obtain ⟨t, m3, q3, q⟩ := R.bind_ok q
  cases q
  obtain ⟨rfl, r, hr, fin⟩ := cmpV_ok (fa := fa) (X := X) (by have := units_of c.rm c.k1; omega) q3
  refine ofE (pe_cmpR hr (pE a) (pE b) (ok_mark hb op)) ?_
  refine (h1 s σ ρ M H u m1 hs hm q1).thn fun y H1 kf ⟨ρ1, g1, hm1, r1⟩ => ?_
  refine (h2 s σ ρ1 m1 H1 w m2 (hs.go g1) hm1 q2).thn fun y H2 kf ⟨ρ2, g2, hm2, r2⟩ => ?_
  exact fin ρ2 H2 _ _ _ hm2 (r1.go g2) r2 ⟨ρ2, g1.trans g2, hm2, .bl⟩
theorem tst_cmp {a b : Expr} {op : CmpOp} {p : Pos} {x y : Ex} (c : Cok fa X T nm k C) (hb : okE b = true) (h1 : SndE fa X a (evE C x)) (h2 : SndE fa X b (evE C y)) : SndT fa X (.Compare a [op] [b] p) (evE C (.cmp (copOf op) x y)) := by
  intro s σ ρ M H v M' tb hs hm q tr
  obtain ⟨u, m1, q1, q⟩ := R.bind_ok q
  obtain ⟨w, m2, q2, q⟩ := R.bind_ok q
  obtain ⟨t, m3, q3, q⟩ := R.bind_ok q
  cases q
  have e : t = tb := Option.some.inj tr
  subst e
  obtain ⟨rfl, r, hr, fin⟩ := cmpV_ok (fa := fa) (X := X) (by have := units_of c.rm c.k1; omega) q3
  refine ofT (pt_cmpR hr (pE a) (pE b) (ok_mark hb op)) ?_
  refine (h1 s σ ρ M H u m1 hs hm q1).thn fun y H1 kf ⟨ρ1, g1, hm1, r1⟩ => ?_
  refine (h2 s σ ρ1 m1 H1 w m2 (hs.go g1) hm1 q2).thn fun y H2 kf ⟨ρ2, g2, hm2, r2⟩ => ?_
  exact fin ρ2 H2 _ _ _ hm2 (r1.go g2) r2 ⟨t, rfl, ρ2, g1.trans g2, hm2, rfl⟩
theorem chn_core {o p : Cop} {C : Cal} {x y z : Ex} {s : Slots} {M M' : Mem} {v : Val} (q : evE C (.chn o p x y z) s M = .ok v M') :
    ∃ a m1 b m2 k m3, evE C x s M = .ok a m1 ∧ evE C y s m1 = .ok b m2 ∧ cmpV o a b m2 = .ok k m3 ∧
      ((k = false ∧ v = .d (.bl false) ∧ M' = m3) ∨ (k = true ∧ ∃ c m4 l, evE C z s m3 = .ok c m4 ∧ cmpV p b c m4 = .ok l M' ∧ v = .d (.bl l))) := by
  obtain ⟨u, m1, q1, q⟩ := R.bind_ok q
  obtain ⟨w, m2, q2, q⟩ := R.bind_ok q
  obtain ⟨t, m3, q3, q⟩ := R.bind_ok q
  refine ⟨u, m1, w, m2, t, m3, q1, q2, q3, ?_⟩
  cases t with
  | false => cases q; exact .inl ⟨rfl, rfl, rfl⟩
  | true =>
    obtain ⟨d, m4, q4, q⟩ := R.bind_ok q
    obtain ⟨l, m5, q5, q⟩ := R.bind_ok q
    cases q
    exact .inr ⟨rfl, d, m4, l, q4, q5, rfl⟩
theorem cmp_true (hu : X.A.units + 65 < cLine) (op : CmpOp) : ∃ r, OpR X (compareOp op) r := ⟨fun _ _ _ _ => False, fun _ _ _ _ _ _ _ _ _ _ _ _ h => h.elim⟩
theorem snd_chn {a b d : Expr} {op op' : CmpOp} {p : Pos} {x y z : Ex} (c : Cok fa X T nm k C) (h1 : SndE fa X a (evE C x)) (h2 : SndE fa X b (evE C y)) (hd : okE d = true) (h3 : SndE fa X d (evE C z)) :
    SndE fa X (.Compare a [op, op'] [b, d] p) (evE C (.chn (copOf op) (copOf op') x y z)) := by
  intro s σ ρ M H v M' hs hm q
  have hu : X.A.units + 65 < cLine := by have := units_of c.rm c.k1; omega
  obtain ⟨u, m1, w, m2, t, m3, q1, q2, q3, q⟩ := chn_core q
  obtain ⟨rfl, r, hr, fin⟩ := cmpV_ok (fa := fa) (X := X) hu q3
  rcases q with ⟨rfl, rfl, rfl⟩ | ⟨rfl, e, m4, l, q4, q5, rfl⟩
  · obtain ⟨r', hr'⟩ := cmp_true hu op'
    refine ofE (pe_chain hr hr' (pE a) (pE b) (pE d) (ok_mark hd op')) ?_
    refine (h1 s σ ρ M H u m1 hs hm q1).thn fun y H1 kf ⟨ρ1, g1, hm1, r1⟩ => ?_
    refine (h2 s σ ρ1 m1 H1 w _ (hs.go g1) hm1 q2).thn fun y H2 kf ⟨ρ2, g2, hm2, r2⟩ => ?_
    refine fin ρ2 H2 _ _ _ hm2 (r1.go g2) r2 ⟨false, rfl, ?_⟩
    rw [if_neg Bool.false_ne_true]
    exact ⟨ρ2, g1.trans g2, hm2, .bl⟩
  · obtain ⟨rfl, r', hr', fin'⟩ := cmpV_ok (fa := fa) (X := X) hu q5
    refine ofE (pe_chain hr hr' (pE a) (pE b) (pE d) (ok_mark hd op')) ?_
    refine (h1 s σ ρ M H u m1 hs hm q1).thn fun y H1 kf ⟨ρ1, g1, hm1, r1⟩ => ?_
    refine (h2 s σ ρ1 m1 H1 w _ (hs.go g1) hm1 q2).thn fun y H2 kf ⟨ρ2, g2, hm2, r2⟩ => ?_
    refine fin ρ2 H2 _ _ _ hm2 (r1.go g2) r2 ⟨true, rfl, ?_⟩
    rw [if_pos rfl]
    refine (h3 s σ ρ2 _ H2 e _ (hs.go (g1.trans g2)) hm2 q4).thn fun y H3 kf ⟨ρ3, g3, hm3, r3⟩ => ?_
    exact fin' ρ3 H3 _ _ _ hm3 (r2.go g3) r3 ⟨ρ3, (g1.trans g2).trans g3, hm3, .bl⟩
theorem tst_chn {a b d : Expr} {op op' : CmpOp} {p : Pos} {x y z : Ex} (c : Cok fa X T nm k C) (h1 : SndE fa X a (evE C x)) (h2 : SndE fa X b (evE C y)) (hd : okE d = true) (h3 : SndE fa X d (evE C z)) :
    SndT fa X (.Compare a [op, op'] [b, d] p) (evE C (.chn (copOf op) (copOf op') x y z)) := by
  intro s σ ρ M H v M' tb hs hm q tr
  have hu : X.A.units + 65 < cLine := by have := units_of c.rm c.k1; omega
  obtain ⟨u, m1, w, m2, t, m3, q1, q2, q3, q⟩ := chn_core q
  obtain ⟨rfl, r, hr, fin⟩ := cmpV_ok (fa := fa) (X := X) hu q3
  rcases q with ⟨rfl, rfl, rfl⟩ | ⟨rfl, e, m4, l, q4, q5, rfl⟩
  · have e : false = tb := Option.some.inj tr
    subst e
    obtain ⟨r', hr'⟩ := cmp_true hu op'
    refine ofT (pt_chain hr hr' (pE a) (pE b) (pE d) (ok_mark hd op')) ?_
    refine (h1 s σ ρ M H u m1 hs hm q1).thn fun y H1 kf ⟨ρ1, g1, hm1, r1⟩ => ?_
    refine (h2 s σ ρ1 m1 H1 w _ (hs.go g1) hm1 q2).thn fun y H2 kf ⟨ρ2, g2, hm2, r2⟩ => ?_
    refine fin ρ2 H2 _ _ _ hm2 (r1.go g2) r2 ⟨false, rfl, ?_⟩
    rw [if_neg Bool.false_ne_true]
    exact ⟨false, rfl, ρ2, g1.trans g2, hm2, rfl⟩
  · have e2 : l = tb := Option.some.inj tr
    subst e2
    obtain ⟨rfl, r', hr', fin'⟩ := cmpV_ok (fa := fa) (X := X) hu q5
    refine ofT (pt_chain hr hr' (pE a) (pE b) (pE d) (ok_mark hd op')) ?_
    refine (h1 s σ ρ M H u m1 hs hm q1).thn fun y H1 kf ⟨ρ1, g1, hm1, r1⟩ => ?_
    refine (h2 s σ ρ1 m1 H1 w _ (hs.go g1) hm1 q2).thn fun y H2 kf ⟨ρ2, g2, hm2, r2⟩ => ?_
    refine fin ρ2 H2 _ _ _ hm2 (r1.go g2) r2 ⟨true, rfl, ?_⟩
    rw [if_pos rfl]
    refine (h3 s σ ρ2 _ H2 e _ (hs.go (g1.trans g2)) hm2 q4).thn fun y H3 kf ⟨ρ3, g3, hm3, r3⟩ => ?_
    exact fin' ρ3 H3 _ _ _ hm3 (r2.go g3) r3 ⟨l, rfl, ρ3, (g1.trans g2).trans g3, hm3, rfl⟩
end
end Rf

namespace Rf
open PySem PySem.Spec PyProof.Rows L2
section
variable {fa : Nat → Addr} {X : Cx} {T : Tab} {nm : Nms} {k : Nat} {C : Cal}
variable {ρ ρ1 : Wd} {H H1 H2 : Hp} {M M' : Mem}
theorem empt_of {α β : Type} {a : List α} {b : List β} (h : a.length = b.length) : (!a.isEmpty) = !b.isEmpty := by
  cases a <;> cases b <;> simp at h <;> rfl
theorem tru_of (hm : HR X.K fa ρ M H) {v : Val} {x : V} {b : Bool} (r : RV X.K fa ρ H v x) (h : truth M v = some b) : TruV X.K x H b := by
  cases v with
  | d v =>
    cases r with
    | non => exact (Option.some.inj h).symm
    | bl => exact (Option.some.inj h).symm
    | int => exact (Option.some.inj h).symm
    | @str s hl _ =>
      refine ⟨by rw [s0_len, ← line_eq]; exact hl, ?_⟩
      have e : (!s.isEmpty) = b := Option.some.inj h
      rw [s0_len, ← e]
      cases s <;> simp
      omega
    | @tup ds p vs hx _ rs =>
      have e : (!ds.isEmpty) = b := Option.some.inj h
      exact .inr (.inl ⟨vs, hx, by rw [← e]; exact empt_of rs.length⟩)
    | @lst ds p vs hx _ rs =>
      have e : (!ds.isEmpty) = b := Option.some.inj h
      exact .inl ⟨vs, .inl (.inl hx), by rw [← e]; exact empt_of rs.length⟩
    | scr _ _ => cases h
    | fn => cases h
    | dct _ _ _ => cases h
  | r i =>
    have h' : (match M[i]? with
      | some (.lst vs) => some (!vs.isEmpty)
      | _ => none) = some b := h
    split at h'
    · rename_i us q
      obtain ⟨a, vs, _, rfl, h1, r1⟩ := hm.lst q r
      have e : (!us.isEmpty) = b := Option.some.inj h'
      exact .inl ⟨vs, .inl (.inl h1), by rw [← e]; exact empt_of r1.length⟩
    · cases h'
/-- a test by the value's truth -/
theorem tst_val {e : Expr} {x : Ex} (ht : tvE e = true) (h : SndE fa X e (evE C x)) : SndT fa X e (evE C x) := by
  intro s σ ρ M H v M' b hs hm q tr
  refine ofT (pt_truth (pE e) (tv_true ht X.env)) ((h s σ ρ M H v M' hs hm q).thn fun y H1 kf ⟨ρ1, g1, hm1, r1⟩ => ?_)
  exact ⟨b, tru_of hm1 r1 tr, ρ1, g1, hm1, rfl⟩
theorem tru_bl {m : Mem} {b c : Bool} (h : truth m (.d (.bl b)) = some c) : b = c := Option.some.inj h
theorem not_core {C : Cal} {x : Ex} {s : Slots} {M M' : Mem} {v : Val} (q : evE C (.not x) s M = .ok v M') : ∃ a b, evE C x s M = .ok a M' ∧ truth M' a = some b ∧ v = .d (.bl (!b)) := by
  obtain ⟨u, m1, q1, q⟩ := R.bind_ok q
  split at q
  · rename_i b e
    cases q
    exact ⟨u, b, q1, e, rfl⟩
  · cases q
theorem snd_not {a : Expr} {p : Pos} {x : Ex} (h : SndE fa X a (evE C x)) : SndE fa X (.UnaryOp .Not a p) (evE C (.not x)) := by
  intro s σ ρ M H v M' hs hm q
  obtain ⟨u, b, q1, q2, rfl⟩ := not_core q
  refine ofE (pe_notT (pE a)) ((h s σ ρ M H u _ hs hm q1).thn fun y H1 kf ⟨ρ1, g1, hm1, r1⟩ => ?_)
  exact ⟨b, tru_of hm1 r1 q2, ρ1, g1, hm1, .bl⟩
theorem tst_not {a : Expr} {p : Pos} {x : Ex} (h : SndT fa X a (evE C x)) : SndT fa X (.UnaryOp .Not a p) (evE C (.not x)) := by
  intro s σ ρ M H v M' c hs hm q tr
  obtain ⟨u, b, q1, q2, rfl⟩ := not_core q
  have e := tru_bl tr
  subst e
  refine ofT (pt_not (pT a)) ((h s σ ρ M H u _ b hs hm q1 q2).thn fun y H1 kf ⟨ρ1, g1, hm1, r1⟩ => ?_)
  subst r1
  exact ⟨ρ1, g1, hm1, rfl⟩
theorem and_core {C : Cal} {x y : Ex} {s : Slots} {M M' : Mem} {v : Val} (q : evE C (.and x y) s M = .ok v M') :
    ∃ a m1, evE C x s M = .ok a m1 ∧ ((truth m1 a = some true ∧ evE C y s m1 = .ok v M') ∨ (truth m1 a = some false ∧ v = a ∧ M' = m1)) := by
  obtain ⟨u, m1, q1, q⟩ := R.bind_ok q
  refine ⟨u, m1, q1, ?_⟩
  split at q
  · exact .inl ⟨by assumption, q⟩
  · cases q; exact .inr ⟨by assumption, rfl, rfl⟩
  · cases q
theorem or_core {C : Cal} {x y : Ex} {s : Slots} {M M' : Mem} {v : Val} (q : evE C (.or x y) s M = .ok v M') :
    ∃ a m1, evE C x s M = .ok a m1 ∧ ((truth m1 a = some false ∧ evE C y s m1 = .ok v M') ∨ (truth m1 a = some true ∧ v = a ∧ M' = m1)) := by
  obtain ⟨u, m1, q1, q⟩ := R.bind_ok q
  refine ⟨u, m1, q1, ?_⟩
  split at q
  · cases q; exact .inr ⟨by assumption, rfl, rfl⟩
  · exact .inl ⟨by assumption, q⟩
  · cases q
theorem snd_and {a b : Expr} {r : List Expr} {p : Pos} {x y : Ex} (h1 : SndE fa X a (evE C x)) (h2 : SndE fa X (.BoolOp .And (b :: r) p) (evE C y)) : SndE fa X (.BoolOp .And (a :: b :: r) p) (evE C (.and x y)) := by
  intro s σ ρ M H v M' hs hm q
  obtain ⟨u, m1, q1, q⟩ := and_core q
  refine ofE (pe_andT (pE a) (pE _)) ((h1 s σ ρ M H u m1 hs hm q1).thn fun z H1 kf ⟨ρ1, g1, hm1, r1⟩ => ?_)
  rcases q with ⟨t, q⟩ | ⟨t, rfl, rfl⟩
  · refine ⟨true, tru_of hm1 r1 t, ?_⟩
    rw [if_pos rfl]
    exact (h2 s σ ρ1 m1 H1 v M' (hs.go g1) hm1 q).thn fun z H2 _ po => po.back g1
  · refine ⟨false, tru_of hm1 r1 t, ?_⟩
    rw [if_neg Bool.false_ne_true]
    exact ⟨ρ1, g1, hm1, r1⟩
theorem snd_or {a b : Expr} {r : List Expr} {p : Pos} {x y : Ex} (h1 : SndE fa X a (evE C x)) (h2 : SndE fa X (.BoolOp .Or (b :: r) p) (evE C y)) : SndE fa X (.BoolOp .Or (a :: b :: r) p) (evE C (.or x y)) := by
  intro s σ ρ M H v M' hs hm q
  obtain ⟨u, m1, q1, q⟩ := or_core q
  refine ofE (pe_orT (pE a) (pE _)) ((h1 s σ ρ M H u m1 hs hm q1).thn fun z H1 kf ⟨ρ1, g1, hm1, r1⟩ => ?_)
  rcases q with ⟨t, q⟩ | ⟨t, rfl, rfl⟩
  · refine ⟨false, tru_of hm1 r1 t, ?_⟩
    rw [if_neg Bool.false_ne_true]
    exact (h2 s σ ρ1 m1 H1 v M' (hs.go g1) hm1 q).thn fun z H2 _ po => po.back g1
  · refine ⟨true, tru_of hm1 r1 t, ?_⟩
    rw [if_pos rfl]
    exact ⟨ρ1, g1, hm1, r1⟩
def seW (X : Cx) (e : Expr) : TT := fun σ H Q => ∀ whole pins s, Inv X pins σ H s → wpAny (model X.prog X.w) X.A (isTrue e X.env whole) (TP X pins σ Q) X.xe s
theorem pW (e : Expr) : PW X e (seW X e) := ⟨fun wh pins s _ _ _ I h => h wh pins s I⟩
theorem ofW {e : Expr} {t : TT} (h : PW X e t) {σ : L2.St} {H : Hp} {Q : Bool → Hp → Prop} (q : t σ H Q) : seW X e σ H Q := fun wh pins s I => h.run wh pins s σ H Q I q
theorem seW.thn {e : Expr} {σ : L2.St} {H : Hp} {Q Q' : Bool → Hp → Prop} (h : seW X e σ H Q) (q : ∀ v H', KF X.K H' → Q v H' → Q' v H') : seW X e σ H Q' := fun wh pins s I =>
  L2.thn (h wh pins s I) fun _ _ ⟨H', I', z⟩ => ⟨H', I', q _ H' (kf_of I') z⟩
/-- as a test whatever the whole is -/
def SndW (fa : Nat → Addr) (X : Cx) (pe : Expr) (ev : Slots → Mem → R Val) : Prop :=
  ∀ s σ ρ M H v M' b, SR X.K fa ρ H s σ → HR X.K fa ρ M H → ev s M = .ok v M' → truth M' v = some b → seW X pe σ H (PoT X.K fa ρ H b M')
theorem SndW.t {e : Expr} {x : Slots → Mem → R Val} (h : SndW fa X e x) : SndT fa X e x := fun s σ ρ M H v M' b h1 h2 h3 h4 => ofT (pW e).pt (h s σ ρ M H v M' b h1 h2 h3 h4)
theorem tst_one {a : Expr} {op : BoolOp} {p : Pos} {x : Ex} (h : SndT fa X a (evE C x)) : SndW fa X (.BoolOp op [a] p) (evE C x) := by
  intro s σ ρ M H v M' b hs hm q tr
  cases op with
  | And => exact ofW (pw_and1 (pT a)) (h s σ ρ M H v M' b hs hm q tr)
  | Or => exact ofW (pw_or1 (pT a)) (h s σ ρ M H v M' b hs hm q tr)
theorem tst_and {a b : Expr} {r : List Expr} {p : Pos} {x y : Ex} (h1 : SndT fa X a (evE C x)) (h2 : SndW fa X (.BoolOp .And (b :: r) p) (evE C y)) : SndW fa X (.BoolOp .And (a :: b :: r) p) (evE C (.and x y)) := by
  intro s σ ρ M H v M' c hs hm q tr
  obtain ⟨u, m1, q1, q⟩ := and_core q
  rcases q with ⟨t, q⟩ | ⟨t, rfl, rfl⟩
  · refine ofW (pw_and (pT a) (pW _)) ((h1 s σ ρ M H u m1 true hs hm q1 t).thn fun z H1 kf ⟨ρ1, g1, hm1, r1⟩ => ?_)
    subst r1
    rw [if_pos rfl]
    exact (h2 s σ ρ1 m1 H1 v M' c (hs.go g1) hm1 q tr).thn fun z H2 _ po => po.back g1
  · rw [t] at tr
    cases tr
    refine ofW (pw_and (pT a) (pW _)) ((h1 s σ ρ M H v _ false hs hm q1 t).thn fun z H1 kf ⟨ρ1, g1, hm1, r1⟩ => ?_)
    subst r1
    rw [if_neg Bool.false_ne_true]
    exact ⟨ρ1, g1, hm1, rfl⟩
theorem tst_or {a b : Expr} {r : List Expr} {p : Pos} {x y : Ex} (h1 : SndT fa X a (evE C x)) (h2 : SndW fa X (.BoolOp .Or (b :: r) p) (evE C y)) : SndW fa X (.BoolOp .Or (a :: b :: r) p) (evE C (.or x y)) := by
  intro s σ ρ M H v M' c hs hm q tr
  obtain ⟨u, m1, q1, q⟩ := or_core q
  rcases q with ⟨t, q⟩ | ⟨t, rfl, rfl⟩
  · refine ofW (pw_or (pT a) (pW _)) ((h1 s σ ρ M H u m1 false hs hm q1 t).thn fun z H1 kf ⟨ρ1, g1, hm1, r1⟩ => ?_)
    subst r1
    rw [if_neg Bool.false_ne_true]
    exact (h2 s σ ρ1 m1 H1 v M' c (hs.go g1) hm1 q tr).thn fun z H2 _ po => po.back g1
  · rw [t] at tr
    cases tr
    refine ofW (pw_or (pT a) (pW _)) ((h1 s σ ρ M H v _ true hs hm q1 t).thn fun z H1 kf ⟨ρ1, g1, hm1, r1⟩ => ?_)
    subst r1
    rw [if_pos rfl]
    exact ⟨ρ1, g1, hm1, rfl⟩
/-- a if c else b -/
theorem ite_core {C : Cal} {c x y : Ex} {s : Slots} {M M' : Mem} {v : Val} (q : evE C (.ite c x y) s M = .ok v M') :
    ∃ a m1, evE C c s M = .ok a m1 ∧ ((truth m1 a = some true ∧ evE C x s m1 = .ok v M') ∨ (truth m1 a = some false ∧ evE C y s m1 = .ok v M')) := by
  obtain ⟨u, m1, q1, q⟩ := R.bind_ok q
  refine ⟨u, m1, q1, ?_⟩
  split at q
  · exact .inl ⟨by assumption, q⟩
  · exact .inr ⟨by assumption, q⟩
  · cases q
theorem snd_ite {c a b : Expr} {p : Pos} {z x y : Ex} (h0 : SndT fa X c (evE C z)) (h1 : SndE fa X a (evE C x)) (h2 : SndE fa X b (evE C y)) : SndE fa X (.IfExp c a b p) (evE C (.ite z x y)) := by
  intro s σ ρ M H v M' hs hm q
  obtain ⟨u, m1, q1, q⟩ := ite_core q
  rcases q with ⟨t, q⟩ | ⟨t, q⟩
  · refine ofE (pe_ifExp (pT c) (pE a) (pE b)) ((h0 s σ ρ M H u m1 true hs hm q1 t).thn fun z H1 kf ⟨ρ1, g1, hm1, r1⟩ => ?_)
    subst r1
    rw [if_pos rfl]
    exact (h1 s σ ρ1 m1 H1 v M' (hs.go g1) hm1 q).thn fun z H2 _ po => po.back g1
  · refine ofE (pe_ifExp (pT c) (pE a) (pE b)) ((h0 s σ ρ M H u m1 false hs hm q1 t).thn fun z H1 kf ⟨ρ1, g1, hm1, r1⟩ => ?_)
    subst r1
    rw [if_neg Bool.false_ne_true]
    exact (h2 s σ ρ1 m1 H1 v M' (hs.go g1) hm1 q).thn fun z H2 _ po => po.back g1

/-! ### items, slices -/
theorem at_eq {α : Type} (xs : List α) (i : Int) : atL xs i = L2.atI xs i := rfl
theorem at_map {α β : Type} (f : α → β) (xs : List α) (i : Int) : L2.atI (xs.map f) i = (L2.atI xs i).map f := by
  unfold L2.atI
  rw [List.length_map]
  cases L2.ixN xs.length i with
  | none => rfl
  | some j => simp
theorem at_vs {us : List Val} {vs : List V} {i : Int} {x : Val} (r : RVs X.K fa ρ H us vs) (h : atL us i = some x) : ∃ v, L2.atI vs i = some v ∧ RV X.K fa ρ H x v := by
  unfold atL at h
  unfold L2.atI
  rw [← r.length]
  have e : ixOf us.length i = L2.ixN us.length i := rfl
  rw [e] at h
  cases q : L2.ixN us.length i with
  | none => rw [q] at h; cases h
  | some j =>
    rw [q] at h
    exact r.get h
theorem at_ds {us : List D} {vs : List V} {i : Int} {x : D} (r : RDs X.K fa ρ H us vs) (h : atL us i = some x) : ∃ v, L2.atI vs i = some v ∧ RD X.K fa ρ H x v := by
  obtain ⟨v, a, b⟩ := at_vs (x := .d x) (i := i) r.vs (by rw [at_eq, at_map, ← at_eq, h]; rfl)
  exact ⟨v, a, b⟩
theorem mem_at {α : Type} {xs : List α} {i : Int} {x : α} (h : atL xs i = some x) : x ∈ xs := by
  unfold atL at h
  cases q : ixOf xs.length i with
  | none => rw [q] at h; cases h
  | some j => rw [q] at h; exact List.mem_of_getElem? h
theorem idxV_ok {a : Val} {i : Int} {v : Val} (h : idxV M a i = some v) : ∃ r, IxR X r ∧ ∀ ρ H x (Q : VK), HR X.K fa ρ M H → RV X.K fa ρ H a x → (∀ z, RV X.K fa ρ H v z → Q z H) → r x (.int i) H Q := by
  unfold idxV at h
  split at h
  · rename_i s
    refine ⟨_, ix_str, fun ρ H x Q hm rx q => ?_⟩
    cases e : atL s i with
    | none => rw [e] at h; cases h
    | some c =>
      rw [e] at h
      cases h
      cases rx with
      | str hl cp =>
        refine ⟨_, i, c, rfl, rfl, by rw [s0_len, ← line_eq]; exact hl, by rw [s0_list]; exact e, ?_⟩
        exact q _ (.str (s := [c]) (by show 1 ≤ LINE; decide) fun d hd => by
          have : d = c := by simpa using hd
          rw [this]; exact cp c (mem_at e))
  · rename_i xs
    refine ⟨_, ix_tup, fun ρ H x Q hm rx q => ?_⟩
    cases e : atL xs i with
    | none => rw [e] at h; cases h
    | some c =>
      rw [e] at h
      cases h
      cases rx with
      | tup hx _ rs =>
        obtain ⟨w, e1, e2⟩ := at_ds rs e
        exact ⟨_, _, i, w, rfl, rfl, hx, e1, q _ e2⟩
  · rename_i xs
    refine ⟨_, ix_list, fun ρ H x Q hm rx q => ?_⟩
    cases e : atL xs i with
    | none => rw [e] at h; cases h
    | some c =>
      rw [e] at h
      cases h
      cases rx with
      | lst hx _ rs =>
        obtain ⟨w, e1, e2⟩ := at_ds rs e
        exact ⟨_, _, i, w, rfl, rfl, .inl (.inl hx), e1, q _ e2⟩
  · rename_i xs
    refine ⟨_, ix_list, fun ρ H x Q hm rx q => ?_⟩
    cases e : atL xs i with
    | none => rw [e] at h; cases h
    | some c =>
      rw [e] at h
      cases h
      cases rx with
      | scr hx _ =>
        refine ⟨_, _, i, .int c, rfl, rfl, hx, ?_, q _ .int⟩
        rw [at_map, ← at_eq, e]; rfl
  · rename_i j
    split at h
    · rename_i us qj
      refine ⟨_, ix_list, fun ρ H x Q hm rx q => ?_⟩
      obtain ⟨p, vs, _, rfl, h1, r1⟩ := hm.lst qj rx
      obtain ⟨w, e1, e2⟩ := at_vs r1 h
      exact ⟨_, _, i, w, rfl, rfl, .inl (.inl h1), e1, q _ e2⟩
    · cases h
  · cases h
theorem snd_idx {a i : Expr} {p : Pos} {x y : Ex} (c : Cok fa X T nm k C) (hi : okE i = true) (h1 : SndE fa X a (evE C x)) (h2 : SndE fa X i (evE C y)) : SndE fa X (.Subscript a i p) (evE C (.idx x y)) := by
  intro s σ ρ M H v M' hs hm q
  obtain ⟨u, m1, q1, q⟩ := R.bind_ok q
  obtain ⟨w, m2, q2, q⟩ := R.bind_ok q
  obtain ⟨q3, rfl⟩ := R.opt_ok q
  unfold idxK at q3
  split at q3
  · rename_i kvs kd
    split at q3
    · rename_i hk
      obtain ⟨d, hd, rfl⟩ := Option.map_eq_some_iff.mp q3
      refine ofE (pe_dget (by have := units_of c.rm c.k1; omega) (pE a) (pE i) (ok_plain hi)) ?_
      refine (h1 s σ ρ M H _ m1 hs hm q1).thn fun y H1 kf ⟨ρ1, g1, hm1, r1⟩ => ?_
      refine (h2 s σ ρ1 m1 H1 _ _ (hs.go g1) hm1 q2).thn fun y2 H2 kf ⟨ρ2, g2, hm2, r2⟩ => ?_
      cases r1.go g2 with
      | dct hp n rs =>
        obtain ⟨k', hk1, hk2⟩ := key_of hk r2
        rcases find_key hk2 rs with ⟨e1, _⟩ | ⟨d', v', e1, e2, e3⟩
        · rw [e1] at hd; cases hd
        · rw [hd] at e1
          cases e1
          exact ⟨_, v', rfl, .inl ⟨_, k', .inl hp, hk1, e2.symm⟩, ρ2, g1.trans g2, hm2, e3⟩
    · cases q3
  · cases q3
  · rename_i n _
    obtain ⟨r, hr, fin⟩ := idxV_ok (fa := fa) (X := X) q3
    refine ofE (pe_ix hr (pE a) (pE i) (ok_plain hi)) ?_
    refine (h1 s σ ρ M H u m1 hs hm q1).thn fun y H1 kf ⟨ρ1, g1, hm1, r1⟩ => ?_
    refine (h2 s σ ρ1 m1 H1 _ _ (hs.go g1) hm1 q2).thn fun y H2 kf ⟨ρ2, g2, hm2, r2⟩ => ?_
    cases r2
    exact fin ρ2 H2 _ _ hm2 (r1.go g2) fun z rz => ⟨ρ2, g1.trans g2, hm2, rz⟩
  · cases q3
theorem cut_eq {α : Type} (xs : List α) (lo hi : Option Int) : cut xs lo hi = (xs.drop (HT.sIx xs.length 0 lo)).take (HT.sIx xs.length xs.length hi - HT.sIx xs.length 0 lo) := by
  have e : ∀ n d o, cutAt n d o = HT.sIx n d o := fun n d o => by cases o <;> rfl
  unfold cut
  rw [e, e]
theorem cut_vs {us : List Val} {vs : List V} (r : RVs X.K fa ρ H us vs) (lo hi : Option Int) : RVs X.K fa ρ H (cut us lo hi) (cutV vs lo hi) := by
  rw [cut_eq]
  unfold cutV
  rw [← r.length]
  exact (r.drop _).take _
theorem cut_ds {us : List D} {vs : List V} (r : RDs X.K fa ρ H us vs) (lo hi : Option Int) : RDs X.K fa ρ H (cut us lo hi) (cutV vs lo hi) := by
  rw [cut_eq]
  unfold cutV
  rw [← r.length]
  exact (r.drop _).take _
theorem ints_vs (ns : List Int) : RVs X.K fa ρ H (ns.map fun n => .d (.int n)) (ns.map V.int) := by
  induction ns with
  | nil => exact .nil
  | cons n ns ih => exact .cons .int ih
theorem cut_le {α : Type} (xs : List α) (lo hi : Option Int) : (cut xs lo hi).length ≤ xs.length := by
  unfold cut
  rw [List.length_take, List.length_drop]
  omega
theorem cut_mem {α : Type} {xs : List α} {lo hi : Option Int} {x : α} (h : x ∈ cut xs lo hi) : x ∈ xs := List.mem_of_mem_drop (List.mem_of_mem_take h)
theorem slcV_ok {z : Bool} {a : Val} {lo hi : Option Int} {v : Val} (h : slcV z a lo hi M = .ok v M') :
    ∃ r, SlR X r ∧ ∀ ρ H x (Q : VK), HR X.K fa ρ M H → RV X.K fa ρ H a x → (∀ z H', PoE X.K fa ρ H v M' z H' → Q z H') → r x lo hi H (fun z H' => KF X.K H' → Q z H') := by
  unfold slcV at h
  split at h
  · rename_i s
    cases h
    refine ⟨_, sl_str, fun ρ H x Q hm rx q => ?_⟩
    cases rx with
    | str hl cp =>
      refine ⟨_, rfl, by rw [s0_len, ← line_eq]; exact hl, fun _ => ?_⟩
      have e : cutS (S0 s) lo hi = S0 (cut s lo hi) := by
        rw [cut_eq]
        unfold cutS
        rw [s0_list, s0_len]
      rw [e]
      exact q _ _ (PoE.here hm (.str (Nat.le_trans (cut_le s lo hi) hl) fun c hc => cp c (cut_mem hc)))
  · rename_i xs
    cases h
    refine ⟨_, sl_tupA, fun ρ H x Q hm rx q => ?_⟩
    cases rx with
    | tup hx nx rs =>
      refine ⟨_, _, rfl, hx, fun hw _ => ?_, fun _ p hn kf => q _ _ (mk_tup hm (cut_ds rs lo hi) hn kf)⟩
      have e : cut xs lo hi = xs := by
        rw [cut_eq, rs.length, hw.1, hw.2, ← rs.length]
        simp
      rw [e] at q
      exact q _ _ (PoE.here hm (.tup hx nx rs))
  · rename_i ns
    refine ⟨_, sl_list, fun ρ H x Q hm rx q => ?_⟩
    cases rx with
    | scr hx nx => exact ⟨_, _, rfl, hx, fun p hn kf => q _ _ (mk_list hm (cut_vs (ints_vs ns) lo hi) h hn kf)⟩
  · split at h
    · rename_i us qu
      refine ⟨_, sl_list, fun ρ H x Q hm rx q => ?_⟩
      obtain ⟨p, vs, rfl, h1, r1⟩ := hm.lstOf qu rx
      exact ⟨_, _, rfl, .inl (.inl h1), fun p hn kf => q _ _ (mk_list hm (cut_vs r1 lo hi) h hn kf)⟩
    · cases h
/-- a part of a slice, where it is written -/
def tP (X : Cx) (o : Option Expr) : TO := match o with
  | none => tNoPart
  | some e => tPart (seE X e)
theorem pP (o : Option Expr) : PO X o (tP X o) := by
  cases o with
  | none => exact po_none
  | some e => exact po_some (pE e)
theorem snd_part {o : Option Expr} {f : Expr → Option Ex} {x : Ex} (hf : ∀ e x, f e = some x → okE e = true → SndE fa X e (evE C x)) (h : cO f o = some x) {s : Slots} {σ : L2.St} {v : Val} {i : Option Int} (hs : SR X.K fa ρ H s σ) (hm : HR X.K fa ρ M H)
    (q : evE C x s M = .ok v M') (hp : partV o.isSome v = some i) {Q : Option Int → Hp → Prop} (fin : ∀ H' ρ', Go ρ H ρ' H' → HR X.K fa ρ' M' H' → Q i H') : tP X o σ H Q := by
  cases o with
  | none =>
    cases h
    cases q
    have e : i = none := (Option.some.inj (show some none = some i from hp)).symm
    subst e
    exact fin H ρ Go.refl hm
  | some e =>
    obtain ⟨k1, k2⟩ := cE_ok h
    refine (hf e x k2 k1 s σ ρ M H v M' hs hm q).thn fun y H1 kf ⟨ρ1, g1, hm1, r1⟩ => ?_
    have hp' : partV true v = some i := hp
    cases v with
    | r _ => cases hp'
    | d v =>
      cases v with
      | int n =>
        cases r1
        cases hp'
        exact ⟨n, rfl, fin H1 ρ1 g1 hm1⟩
      | _ => cases hp'
theorem snd_slc {a : Expr} {lo hi : Option Expr} {p p2 : Pos} {z : Bool} {x l h : Ex} {f : Expr → Option Ex} (hf : ∀ e x, f e = some x → okE e = true → SndE fa X e (evE C x)) (h1 : SndE fa X a (evE C x)) (hl : cO f lo = some l) (hh : cO f hi = some h) :
    SndE fa X (.Subscript a (.Slice lo hi none p2) p) (evE C (.slc z lo.isSome hi.isSome x l h)) := by
  intro s σ ρ M H v M' hs hm q
  obtain ⟨u, m1, q1, q⟩ := R.bind_ok q
  obtain ⟨w1, m2, q2, q⟩ := R.bind_ok q
  obtain ⟨w2, m3, q3, q⟩ := R.bind_ok q
  split at q
  · rename_i i j ei ej
    obtain ⟨r, hr, fin⟩ := slcV_ok (fa := fa) (X := X) q
    refine seE.kfo (ofE (pe_slice hr (pE a) (pP lo) (pP hi)) ?_)
    refine (h1 s σ ρ M H u m1 hs hm q1).thn fun y H1 kf ⟨ρ1, g1, hm1, r1⟩ => ?_
    refine snd_part hf hl (hs.go g1) hm1 q2 ei fun H2 ρ2 g2 hm2 => ?_
    refine snd_part hf hh (hs.go (g1.trans g2)) hm2 q3 ej fun H3 ρ3 g3 hm3 => ?_
    exact fin ρ3 H3 _ _ hm3 ((r1.go g2).go g3) fun z H' po => po.back ((g1.trans g2).trans g3)
  · cases q
end
end Rf

namespace Rf
open PySem PySem.Spec PyProof.Rows L2
section
variable {fa : Nat → Addr} {X : Cx} {T : Tab} {nm : Nms} {k : Nat} {C : Cal}
variable {ρ ρ1 : Wd} {H H1 H2 : Hp} {M M' : Mem}
/-! ### texts -/
theorem numText_eq (i : Int) : S0 (numText i) = ((toString i : String) : Str) := by
  show _ = Str.ofString (toString i)
  rw [Str.ofString_eq_toList]
  rfl
theorem numText_cp (i : Int) : CP (numText i) := by
  intro c hc
  obtain ⟨d, _, e⟩ := List.mem_map.mp hc
  rw [← e]
  have h := d.valid
  unfold UInt32.isValidChar Nat.isValidChar at h
  show d.val.toNat < 0x110000
  omega
theorem numText_len {i : Int} (h : i.natAbs.log2 < 1920) : (numText i).length ≤ LINE := by
  have q := PySem.int_text_length_le (a := i) (k := 1920) (by decide) h
  unfold numText
  rw [List.length_map]
  have e : (toString i).toList.length = (toString i).length := String.length_toList
  rw [e]
  have : LINE = 16777216 := rfl
  omega
theorem ints_of {us : List Val} {vs : List V} {ns : List Int} (r : RVs X.K fa ρ H us vs) (h : intsD us = some ns) : vs = ns.map V.int := by
  induction r generalizing ns with
  | nil => simp [intsD] at h; subst h; rfl
  | @cons x xs v vs a b ih =>
    cases x with
    | r _ => simp [intsD] at h
    | d x =>
      cases x with
      | int i =>
        have h' : (intsD xs).map (i :: ·) = some ns := h
        cases q : intsD xs with
        | none => rw [q] at h'; cases h'
        | some l =>
          rw [q] at h'
          cases h'
          cases a
          rw [ih q]
          rfl
      | _ => simp [intsD] at h
theorem bls_of {us : List Val} {vs : List V} {ns : List Bool} (r : RVs X.K fa ρ H us vs) (h : blsD us = some ns) : vs = ns.map V.bl := by
  induction r generalizing ns with
  | nil => simp [blsD] at h; subst h; rfl
  | @cons x xs v vs a b ih =>
    cases x with
    | r _ => simp [blsD] at h
    | d x =>
      cases x with
      | bl i =>
        have h' : (blsD xs).map (i :: ·) = some ns := h
        cases q : blsD xs with
        | none => rw [q] at h'; cases h'
        | some l =>
          rw [q] at h'
          cases h'
          cases a
          rw [ih q]
          rfl
      | _ => simp [blsD] at h
theorem strs_of {us : List Val} {vs : List V} {ns : List (List Nat)} (r : RVs X.K fa ρ H us vs) (h : strsD us = some ns) : vs = (ns.map S0).map V.str ∧ ∀ s ∈ ns, CP s := by
  induction r generalizing ns with
  | nil => simp [strsD] at h; subst h; exact ⟨rfl, fun _ h => by cases h⟩
  | @cons x xs v vs a b ih =>
    cases x with
    | r _ => simp [strsD] at h
    | d x =>
      cases x with
      | str i =>
        have h' : (strsD xs).map (i :: ·) = some ns := h
        cases q : strsD xs with
        | none => rw [q] at h'; cases h'
        | some l =>
          rw [q] at h'
          cases h'
          cases a with
          | str _ cp =>
            obtain ⟨e1, e2⟩ := ih q
            rw [e1]
            refine ⟨rfl, fun s hs => ?_⟩
            rcases List.mem_cons.mp hs with rfl | hs
            · exact cp
            · exact e2 s hs
      | _ => simp [strsD] at h
theorem join_eq (sep : List Nat) : ∀ ss : List (List Nat), Str.join (S0 sep) (ss.map S0) = S0 (joinL sep ss)
  | [] => rfl
  | [x] => rfl
  | x :: y :: r => by
    have ih := join_eq sep (y :: r)
    show S0 x ++ S0 sep ++ Str.join (S0 sep) ((y :: r).map S0) = S0 (x ++ sep ++ joinL sep (y :: r))
    rw [ih, s0_app, s0_app]
theorem join_cp {sep : List Nat} (hs : CP sep) : ∀ {ss : List (List Nat)}, (∀ s ∈ ss, CP s) → CP (joinL sep ss)
  | [], _ => fun _ h => by cases h
  | [x], h => h x (by simp)
  | x :: y :: r, h => by
    have ih := join_cp hs (ss := y :: r) fun s q => h s (List.mem_cons_of_mem _ q)
    intro c hc
    rcases List.mem_append.mp (show c ∈ x ++ sep ++ joinL sep (y :: r) from hc) with hc | hc
    · rcases List.mem_append.mp hc with hc | hc
      · exact h x List.mem_cons_self c hc
      · exact hs c hc
    · exact ih c hc
theorem join_len (sep : List Nat) : ∀ ss : List (List Nat), (joinL sep ss).length ≤ (ss.map List.length).sum + ss.length * sep.length
  | [] => by simp [joinL]
  | [x] => by simp [joinL]
  | x :: y :: r => by
    have ih := join_len sep (y :: r)
    simp only [joinL, List.length_append, List.map_cons, List.sum_cons, List.length_cons] at ih ⊢
    have e : (r.length + 1 + 1) * sep.length = (r.length + 1) * sep.length + sep.length := Nat.succ_mul _ _
    omega
theorem sum_s0 (ss : List (List Nat)) : ((ss.map S0).map (·.length)).sum = (ss.map List.length).sum := by
  induction ss with
  | nil => rfl
  | cons x r ih => simp only [List.map_cons, List.sum_cons, s0_len] at ih ⊢; rw [ih]
theorem padded_eq (x : List Nat) (n : Nat) : ∀ s, s = Builtin.Str.padded (S0 x) n 0 48 → s = S0 (List.replicate n 48 ++ x) := by
  intro s e
  rw [e]
  unfold Builtin.Str.padded
  apply Str.ext'
  simp [S0]
theorem zfill_eq {s : List Nat} {n : Int} (hn : n ≤ 1000) (hd : ∀ c ∈ s, 48 ≤ c ∧ c ≤ 57) : Txt.zfill (S0 s) n = S0 (padZ s n.toNat) := by
  unfold Txt.zfill padZ
  rw [s0_len]
  by_cases h : n ≤ (s.length : Int)
  · rw [if_pos h]
    have e : n.toNat - s.length = 0 := by omega
    rw [e]
    rfl
  · rw [if_neg h]
    unfold zfilled
    split
    · rename_i q
      exfalso
      have : (43 : Nat) ∈ s := by
        have := List.mem_of_getElem? (show s[0]? = some 43 by simpa [S0] using q)
        exact this
      have := hd 43 this
      omega
    · rename_i q
      exfalso
      have : (45 : Nat) ∈ s := by
        have := List.mem_of_getElem? (show s[0]? = some 45 by simpa [S0] using q)
        exact this
      have := hd 45 this
      omega
    · exact padded_eq _ _ _ rfl

/-! ### built-in functions -/
def fnOf : Bi → Value
  | .len => .builtin "len"
  | .int => .type "int"
  | .str => .type "str"
  | .abs => .builtin "abs"
  | .tuple => .type "tuple"
  | .list => .type "list"
  | .sorted => .builtin "sorted"
  | .sum => .builtin "sum"
  | .all => .builtin "all"
  | .any => .builtin "any"
  | .min2 => .builtin "min"
  | .max2 => .builtin "max"
  | .min => .builtin "min"
  | .max => .builtin "max"
  | .repr => .builtin "repr"
  | .ord => .builtin "ord"
  | .bool => .type "bool"
  | .dict => .type "dict"
def Cal1 (fa : Nat → Addr) (X : Cx) (f : Value) (as : List Val) (M : Mem) (v : Val) (M' : Mem) : Prop :=
  ∃ r, CallR X f r ∧ ∀ ρ H xs (Q : VK), HR X.K fa ρ M H → RVs X.K fa ρ H as xs → (∀ z H', PoE X.K fa ρ H v M' z H' → Q z H') → r xs H (fun z H' => KF X.K H' → Q z H')
theorem lstOf_r {i : Nat} : lstOf M (.r i) = (match M[i]? with
  | some (.lst vs) => some vs
  | _ => none) := rfl
theorem len_ok {v : Val} {n : Nat} (h : lenV M v = some n) : Cal1 fa X (.builtin "len") [v] M (.d (.int n)) M := by
  refine ⟨_, call_len, fun ρ H xs Q hm rs q => ?_⟩
  cases rs with
  | cons rx rn =>
    cases rn
    rename_i x
    refine ⟨x, n, rfl, ?_, fun _ => q _ _ (PoE.here hm .int)⟩
    cases v with
    | d v =>
      cases rx with
      | str hl _ => exact ⟨by rw [s0_len, ← line_eq]; exact hl, by rw [s0_len]; exact (Option.some.inj h).symm⟩
      | tup hx _ rs => exact .inr ⟨_, hx, by rw [← rs.length]; exact (Option.some.inj h).symm⟩
      | lst hx _ rs => exact .inl ⟨_, .inl (.inl hx), by rw [← rs.length]; exact (Option.some.inj h).symm⟩
      | scr hx _ => exact .inl ⟨_, hx, by rw [List.length_map]; exact (Option.some.inj h).symm⟩
      | _ => cases h
    | r i =>
      have h' : (match M[i]? with
        | some (.lst vs) => some vs.length
        | _ => none) = some n := h
      split at h'
      · rename_i us q
        obtain ⟨a, vs, _, rfl, h1, r1⟩ := hm.lst q rx
        exact .inl ⟨vs, .inl (.inl h1), by rw [← r1.length]; exact (Option.some.inj h').symm⟩
      · cases h'
theorem one {as : List Val} {P : List V → Prop} {v : Val} (h : ∀ x, RV X.K fa ρ H v x → P [x]) {xs : List V} (r : RVs X.K fa ρ H [v] xs) : P xs := by
  cases r with
  | cons a b => cases b; exact h _ a
theorem biV_ok {z : Bool} {b : Bi} {as : List Val} {v : Val} (c : Cok fa X T nm k C) (h : biV z b as M = .ok v M') : Cal1 fa X (fnOf b) as M v M' := by
  unfold biV at h
  split at h
  · -- len
    obtain ⟨n, m, h1, h2⟩ := R.bind_ok h
    obtain ⟨h3, rfl⟩ := R.opt_ok h1
    cases h2
    exact len_ok h3
  · cases h
    refine ⟨_, call_int1, fun ρ H xs Q hm rs q => ?_⟩
    cases rs with | cons rx rn => cases rn; cases rx; exact .inl ⟨_, rfl, fun _ => q _ _ (PoE.here hm .int)⟩
  · cases h
    refine ⟨_, call_int1, fun ρ H xs Q hm rs q => ?_⟩
    cases rs with | cons rx rn => cases rn; cases rx; exact .inr ⟨_, rfl, fun _ => q _ _ (PoE.here hm .int)⟩
  · split at h
    · rename_i sx hz
      cases h
      refine ⟨_, call_int_str, fun ρ H xs Q hm rs q => ?_⟩
      cases rs with
      | cons rx rn =>
        cases rn; cases rx
        refine ⟨_, _, rfl, intText_digits (x := S0 sx) (fun c hc => ?_) ?_ ?_, ?_, fun _ => ?_⟩
        · rw [s0_list] at hc
          exact hz.2.2 c hc
        · rw [s0_list]; exact hz.1
        · rw [s0_len]; omega
        · rw [s0_len]; exact hz.2.1
        · rw [s0_list]
          exact q _ _ (PoE.here hm .int)
    · cases h
  · split at h
    · rename_i hz
      cases h
      refine ⟨_, call_str_int, fun ρ H xs Q hm rs q => ?_⟩
      cases rs with
      | cons rx rn =>
        cases rn; cases rx
        refine ⟨_, rfl, hz, fun _ => ?_⟩
        rw [← numText_eq]
        exact q _ _ (PoE.here hm (.str (numText_len hz) (numText_cp _)))
    · cases h
  · cases h
    refine ⟨_, call_abs, fun ρ H xs Q hm rs q => ?_⟩
    cases rs with | cons rx rn => cases rn; cases rx; exact ⟨_, rfl, fun _ => q _ _ (PoE.here hm .int)⟩
  · cases h
    refine ⟨_, call_tuple_of, fun ρ H xs Q hm rs q => ?_⟩
    cases rs with
    | cons rx rn =>
      cases rn
      cases rx with
      | tup hx nx r => exact ⟨_, _, rfl, .inr ⟨hx, fun _ => q _ _ (PoE.here hm (.tup hx nx r))⟩⟩
  · split at h
    · rename_i us qu
      split at h
      · rename_i ds qd
        cases h
        refine ⟨_, call_tuple_of, fun ρ H xs Q hm rs q => ?_⟩
        cases rs with
        | cons rx rn =>
          cases rn
          obtain ⟨p, vs, rfl, h1, r1⟩ := hm.lstOf qu rx
          exact ⟨_, _, rfl, .inl ⟨.inl (.inl h1), fun l hn kf => q _ _ (mk_tup hm (r1.ds qd) hn kf)⟩⟩
      · cases h
    · cases h
  · refine ⟨_, call_list_of, fun ρ H xs Q hm rs q => ?_⟩
    cases rs with
    | cons rx rn =>
      cases rn
      cases rx with
      | tup hx nx r => exact ⟨_, _, rfl, .inr hx, fun l hn kf => q _ _ (mk_list hm r.vs h hn kf)⟩
  · refine ⟨_, call_list_of, fun ρ H xs Q hm rs q => ?_⟩
    cases rs with
    | cons rx rn =>
      cases rn
      cases rx with
      | scr hx nx => exact ⟨_, _, rfl, .inl hx, fun l hn kf => q _ _ (mk_list hm (ints_vs _) h hn kf)⟩
  · split at h
    · rename_i us qu
      refine ⟨_, call_list_of, fun ρ H xs Q hm rs q => ?_⟩
      cases rs with
      | cons rx rn =>
        cases rn
        obtain ⟨p, vs, rfl, h1, r1⟩ := hm.lstOf qu rx
        exact ⟨_, _, rfl, .inl (.inl (.inl h1)), fun l hn kf => q _ _ (mk_list hm r1 h hn kf)⟩
    · cases h
  · obtain ⟨n, m, h1, h2⟩ := R.bind_ok h
    obtain ⟨h3, rfl⟩ := R.opt_ok h1
    cases h2
    rename_i w
    cases qu : lstOf M w with
    | none => rw [qu] at h3; cases h3
    | some us =>
      rw [qu] at h3
      refine ⟨_, cr_sum c.calm, fun ρ H xs Q hm rs q => ?_⟩
      cases rs with
      | cons rx rn =>
        cases rn
        obtain ⟨p, vs, rfl, h1, r1⟩ := hm.lstOf qu rx
        rw [ints_of r1 h3] at h1
        exact ⟨p, n, rfl, .inl (.inl h1), fun _ => q _ _ (PoE.here hm .int)⟩
  · obtain ⟨n, m, h1, h2⟩ := R.bind_ok h
    obtain ⟨h3, rfl⟩ := R.opt_ok h1
    cases h2
    rename_i w
    cases qu : lstOf M w with
    | none => rw [qu] at h3; cases h3
    | some us =>
      rw [qu] at h3
      refine ⟨_, cr_all c.calm, fun ρ H xs Q hm rs q => ?_⟩
      cases rs with
      | cons rx rn =>
        cases rn
        obtain ⟨p, vs, rfl, h1, r1⟩ := hm.lstOf qu rx
        rw [bls_of r1 h3] at h1
        exact ⟨p, n, rfl, .inl (.inl h1), fun _ => q _ _ (PoE.here hm .bl)⟩
  · obtain ⟨n, m, h1, h2⟩ := R.bind_ok h
    obtain ⟨h3, rfl⟩ := R.opt_ok h1
    cases h2
    rename_i w
    cases qu : lstOf M w with
    | none => rw [qu] at h3; cases h3
    | some us =>
      rw [qu] at h3
      refine ⟨_, cr_any c.calm, fun ρ H xs Q hm rs q => ?_⟩
      cases rs with
      | cons rx rn =>
        cases rn
        obtain ⟨p, vs, rfl, h1, r1⟩ := hm.lstOf qu rx
        rw [bls_of r1 h3] at h1
        exact ⟨p, n, rfl, .inl (.inl h1), fun _ => q _ _ (PoE.here hm .bl)⟩
  · cases h
    refine ⟨_, call_min2 c.calm, fun ρ H xs Q hm rs q => ?_⟩
    cases rs with | cons rx rn => cases rn with | cons ry rn => cases rn; cases rx; cases ry; exact ⟨_, _, rfl, fun _ => q _ _ (PoE.here hm .int)⟩
  · cases h
    refine ⟨_, call_max2 c.calm, fun ρ H xs Q hm rs q => ?_⟩
    cases rs with | cons rx rn => cases rn with | cons ry rn => cases rn; cases rx; cases ry; exact ⟨_, _, rfl, fun _ => q _ _ (PoE.here hm .int)⟩
  · cases h
    refine ⟨_, call_ord, fun ρ H xs Q hm rs q => ?_⟩
    cases rs with
    | cons rx rn =>
      cases rn; cases rx
      exact ⟨_, rfl, by simp [S0, Str.length], fun _ => q _ _ (PoE.here hm .int)⟩
  · cases h
end
end Rf

namespace Rf
open PySem PySem.Spec PyProof.Rows L2
section
variable {fa : Nat → Addr} {X : Cx} {T : Tab} {nm : Nms} {k : Nat} {C : Cal}
variable {ρ ρ1 : Wd} {H H1 H2 : Hp} {M M' : Mem}
/-! ### calls of built-in functions, of methods, of own defs -/
theorem look_mem {α : Type} {x : Str} {b : α} : ∀ {l : List (Str × α)}, l.lookup x = some b → (x, b) ∈ l
  | [], h => by cases h
  | (y, c) :: r, h => by
    rw [List.lookup_cons] at h
    split at h
    · rename_i e
      cases h
      rw [eq_of_beq e]
      exact List.mem_cons_self
    · exact List.mem_cons_of_mem _ (look_mem h)
theorem boot1_all : (bi1T.all fun p => decide (bootBuiltins p.1 = some (fnOf p.2))) = true := by decide +kernel
theorem boot2_all : (bi2T.all fun p => decide (bootBuiltins p.1 = some (fnOf p.2))) = true := by decide +kernel
theorem boot1 {x : Str} {b : Bi} (h : bi1 x = some b) : bootBuiltins x = some (fnOf b) := of_decide_eq_true (List.all_eq_true.mp boot1_all (x, b) (look_mem h))
theorem boot2 {x : Str} {b : Bi} (h : bi2 x = some b) : bootBuiltins x = some (fnOf b) := of_decide_eq_true (List.all_eq_true.mp boot2_all (x, b) (look_mem h))
theorem snd_bi {x : Str} {p pos : Pos} {e : Expr} {es : List Expr} {z : Bool} {b : Bi} {f : Expr → Option Ex} {xs : Exs} (c : Cok fa X T nm k C) (hx : isFr T nm x = true) (hv : bootBuiltins x = some (fnOf b)) (hc : cL f (e :: es) = some xs) (h : SndA fa X (e :: es) (evEs C xs)) :
    SndE fa X (.Call (.Name x p) (e :: es) [] pos) (evE C (.bi z b xs)) := by
  intro s σ ρ M H v M' hs hm q
  obtain ⟨as, m1, q1, q⟩ := R.bind_ok q
  obtain ⟨g1, g2, g3, g4⟩ := fr_of c hx
  obtain ⟨r, hr, fin⟩ := biV_ok c q
  have hok := cL_ok hc
  have st := ok_star (hok e List.mem_cons_self) es X.env
  have an : (backTo pos (starEach es X.env)).any (·.1) = false := any_ok fun y hy => hok y (List.mem_cons_of_mem _ hy)
  have go : ∀ t, tCB r (seA X (e :: es)) σ H t → PE X (.Call (.Name x p) (e :: es) [] pos) (tCB r (seA X (e :: es))) → seE X (.Call (.Name x p) (e :: es) [] pos) σ H t := fun t a b => ofE b a
  refine seE.kfo (go _ ?_ ?_)
  · refine (h s σ ρ M H as m1 hs hm q1).thn fun ys H1 kf ⟨ρ1, g1, hm1, r1⟩ => ?_
    exact fin ρ1 H1 ys _ hm1 r1 fun z H' po => po.back g1
  · cases b with
    | len => exact pe_callB hr g1 g3 hv (pA _) g4 g2 st an
    | int => exact pe_callTy hr g1 g3 hv (pA _) g4 g2 st an
    | str => exact pe_callTy hr g1 g3 hv (pA _) g4 g2 st an
    | abs => exact pe_callB hr g1 g3 hv (pA _) g4 g2 st an
    | tuple => exact pe_callTy hr g1 g3 hv (pA _) g4 g2 st an
    | list => exact pe_callTy hr g1 g3 hv (pA _) g4 g2 st an
    | sorted => exact pe_callB hr g1 g3 hv (pA _) g4 g2 st an
    | sum => exact pe_callB hr g1 g3 hv (pA _) g4 g2 st an
    | all => exact pe_callB hr g1 g3 hv (pA _) g4 g2 st an
    | any => exact pe_callB hr g1 g3 hv (pA _) g4 g2 st an
    | min2 => exact pe_callB hr g1 g3 hv (pA _) g4 g2 st an
    | max2 => exact pe_callB hr g1 g3 hv (pA _) g4 g2 st an
    | min => exact pe_callB hr g1 g3 hv (pA _) g4 g2 st an
    | max => exact pe_callB hr g1 g3 hv (pA _) g4 g2 st an
    | repr => exact pe_callB hr g1 g3 hv (pA _) g4 g2 st an
    | ord => exact pe_callB hr g1 g3 hv (pA _) g4 g2 st an
    | bool => exact pe_callTy hr g1 g3 hv (pA _) g4 g2 st an
    | dict => exact pe_callTy hr g1 g3 hv (pA _) g4 g2 st an
/-- a def, called -/
theorem snd_call {x : Str} {p pos : Pos} {es : List Expr} {g np : Nat} {f : Expr → Option Ex} {xs : Exs} (c : Cok fa X T nm k C) (hx : isGl T nm x = true) (hg : T.fid.lookup x = some (g, np)) (hn : es.length = np) (hc : cL f es = some xs) (h : SndA fa X es (evEs C xs)) :
    SndE fa X (.Call (.Name x p) es [] pos) (evE C (.call g xs)) := by
  intro s σ ρ M H v M' hs hm q
  obtain ⟨as, m1, q1, q⟩ := R.bind_ok q
  obtain ⟨g1, g2⟩ := gl_of c hx
  obtain ⟨f1, f2, f3⟩ := c.fn x g np hg
  have hok := cL_ok hc
  have hl : as.length = np := (len_cL hc q1).trans hn
  have core : ∀ {pins : List (Addr × Obj)} {s' : Shared} {us : List Value} {vs : List V} {H1 : Hp} {ρ1 : Wd}, Inv X pins σ H1 s' → Vals vs us → Go ρ H ρ1 H1 → HR X.K fa ρ1 m1 H1 → RVs X.K fa ρ1 H1 as vs →
      wpAny (model X.prog X.w) X.A (PySem.call (.ref (fa g)) us) (EP X pins σ (PoE X.K fa ρ H v M')) X.xe s' := by
    intro pins s' us vs H1 ρ1 I rv gg hm1 r1
    refine wpAny_call (codeAny_mono (f3 X.A X.stack s' H1 us vs as ρ1 m1 v M' c.rm I.env0 rv r1 hm1 hl q) fun r s2 hq => ?_)
    cases r with
    | error e => exact hq.elim
    | ok fl =>
      cases fl with
      | ret u =>
        obtain ⟨w, H', i1, i2, pins', I', po⟩ := (show EP X pins σ (PoE X.K fa ρ1 H1 v M') u s2 from I.after hq) |> fun ⟨w, H', I', r, po⟩ => (⟨w, H', r, po, pins, I', po⟩ : ∃ w H', RelV w u ∧ PoE X.K fa ρ1 H1 v M' w H' ∧ ∃ pins' : List (Addr × Obj), Inv X pins σ H' s2 ∧ PoE X.K fa ρ1 H1 v M' w H')
        exact ⟨w, H', I', i1, po.back gg⟩
      | next => exact hq.elim
      | brk => exact hq.elim
      | cont => exact hq.elim
  intro pins s0 I
  refine wpAny_Call_Name_kw (ld_glob I g1 f1 ?_ g2)
  cases es with
  | nil =>
    cases hc
    cases q1
    exact PySem.W.callWith_K0 I.kIn f2 (core I .nil Go.refl hm .nil)
  | cons e es =>
    have st := ok_star (hok e List.mem_cons_self) es X.env
    have an : (backTo pos (starEach es X.env)).any (·.1) = false := any_ok fun y hy => hok y (List.mem_cons_of_mem _ hy)
    refine PySem.W.callWith_K (h₀ := X.base) I.ok.mod.kin f2 (L2.thn ((h s σ ρ M H as m1 hs hm q1) pos pins s0 I) fun us s1 ⟨vs, H1, I1, rv, ρ1, gg, hm1, r1⟩ => ⟨I1.kIn, ?_⟩) st an
    exact core I1 rv gg hm1 r1
/-! methods -/
def mtName : Mt → Str
  | .join => "join"
  | .zfill => "zfill"
  | .index => "index"
  | .append => "append"
  | .extend => "extend"
  | .pop => "pop"
  | .popAt => "pop"
  | .get => "get"
  | .values => "values"
  | .split => "split"
  | .upper => "upper"
structure MtF (fa : Nat → Addr) (X : Cx) (name : Str) (o : Val) (as : List Val) (M : Mem) (v : Val) (M' : Mem) (Ty : String) (id : String) (r : V → List V → Hp → VK → Prop) : Prop where
  pa : PlainAttrs Ty
  sl : Slot Ty name id
  ty : typeOf (.builtin id) = pure (.type "method_descriptor")
  mt : MtR X id r
  tv : ∀ ρ M0 H x, HR X.K fa ρ M0 H → RV X.K fa ρ H o x → tyV X.K Ty x H
  rd : ∀ ρ H x xs (Q : VK), HR X.K fa ρ M H → RV X.K fa ρ H o x → RVs X.K fa ρ H as xs → (∀ z H', PoE X.K fa ρ H v M' z H' → Q z H') → r x xs H (fun z H' => KF X.K H' → Q z H')
theorem tv_str {s : List Nat} : ∀ ρ M0 H x, HR X.K fa ρ M0 H → RV X.K fa ρ H (.d (.str s)) x → tyV X.K "str" x H := by
  intro ρ M0 H x hm r
  cases r
  rfl
theorem tv_ref {i : Nat} : ∀ ρ M0 H x, HR X.K fa ρ M0 H → RV X.K fa ρ H (.r i) x → tyV X.K "list" x H := by
  intro ρ M0 H x hm r
  obtain ⟨a, e, rfl⟩ := r
  have hi : i < M0.length := by rw [← hm.len]; exact (List.getElem?_eq_some_iff.mp e).1
  obtain ⟨o, eo⟩ : ∃ o, M0[i]? = some o := ⟨_, List.getElem?_eq_getElem hi⟩
  have q := hm.at_ i a o e eo
  cases o with
  | lst us => obtain ⟨vs, h1, _⟩ := q; exact .inl ⟨rfl, vs, .inl (.inl h1)⟩
  | dct _ => exact q.elim
  | ins _ _ => exact q.elim
theorem set_mem {i : Nat} {us us' : List Val} (hm : HR X.K fa ρ M H) {x : V} (qi : M[i]? = some (.lst us)) (rx : RV X.K fa ρ H (.r i) x) {vs vs' : List V} {a : Addr} (e : ρ.l[i]? = some a) (h1 : H a = some (.lst vs)) (kf : KF X.K (upd H a (.lst vs')))
    (r : RVs X.K fa ρ H us' vs') {v : Val} {y : V} (rv : RV X.K fa ρ H v y) : PoE X.K fa ρ H v (M.set i (.lst us')) y (upd H a (.lst vs')) :=
  let ⟨h2, g⟩ := hm.write (us := us) (vs := vs) e h1 r
  ⟨ρ, g, h2, rv.go g⟩
theorem mtV_ok {mt : Mt} {o : Val} {as : List Val} {v : Val} (h : mtV mt o as M = .ok v M') : ∃ Ty id r, MtF fa X (mtName mt) o as M v M' Ty id r := by
  unfold mtV at h
  split at h
  · -- join
    rename_i sep w
    obtain ⟨ss, m, h1, h2⟩ := R.bind_ok h
    obtain ⟨h3, rfl⟩ := R.opt_ok h1
    split at h2
    · rename_i hz
      cases h2
      refine ⟨_, _, _, PySem.F.plainAttrs_str, PySem.F.slot_str_join, PySem.F.type_str_join, mt_join, tv_str, fun ρ H x xs Q hm rx rs q => ?_⟩
      cases qu : lstOf M w with
      | none => rw [qu] at h3; cases h3
      | some us =>
        rw [qu] at h3
        cases rs with
        | cons ry rn =>
          cases rn
          cases rx with
          | str _ cs =>
            obtain ⟨p, vs, rfl, h1, r1⟩ := hm.lstOf qu ry
            obtain ⟨e1, e2⟩ := strs_of r1 h3
            rw [e1] at h1
            refine ⟨_, p, ss.map S0, rfl, rfl, .inl (.inl (.inl h1)), ?_, fun _ => ?_⟩
            · rw [sum_s0, List.length_map, s0_len]; exact hz
            · have e : Txt.join (S0 sep) (ss.map S0) = S0 (joinL sep ss) := by
                show Builtin.Str.glued (S0 sep) (ss.map S0) = _
                rw [StrLaws.glued_eq_join, join_eq]
              rw [e]
              exact q _ _ (PoE.here hm (.str (Nat.le_trans (join_len sep ss) hz) (join_cp cs e2)))
    · cases h2
  · -- zfill
    split at h
    · rename_i s n hz
      cases h
      refine ⟨_, _, _, PySem.F.plainAttrs_str, PySem.F.slot_str_zfill, PySem.F.type_str_zfill, mt_zfill, tv_str, fun ρ H x xs Q hm rx rs q => ?_⟩
      cases rs with
      | cons ry rn =>
        cases rn; cases ry
        cases rx with
        | str _ cs =>
          refine ⟨_, n, rfl, rfl, ?_, fun _ => ?_⟩
          · have hz1 := hz.1
            unfold PadOk
            rw [Bool.and_eq_true]
            refine ⟨?_, ?_⟩
            · unfold fitsSsize
              simp only [Bool.and_eq_true, Bool.not_eq_true', Bool.or_eq_false_iff, decide_eq_true_eq, decide_eq_false_iff_not]
              omega
            · have : Builtin.Str.tooLong n.toNat = false := by
                unfold Builtin.Str.tooLong
                rw [decide_eq_false_iff_not, sizeLine_eq]
                omega
              rw [this]; rfl
          · rw [zfill_eq hz.1.2 hz.2.2]
            refine q _ _ (PoE.here hm (.str ?_ fun c hc => ?_))
            · unfold padZ
              rw [List.length_append, List.length_replicate]
              have : LINE = 16777216 := rfl
              omega
            · unfold padZ at hc
              rcases List.mem_append.mp hc with hc | hc
              · have := (List.mem_replicate.mp hc).2
                omega
              · have := hz.2.2 c hc
                omega
    · cases h
  · -- index
    rename_i s x
    obtain ⟨n, m, h1, h2⟩ := R.bind_ok h
    obtain ⟨h3, rfl⟩ := R.opt_ok h1
    cases h2
    refine ⟨_, _, _, PySem.F.plainAttrs_str, PySem.F.slot_str_index, PySem.F.type_str_index, mt_sindex, tv_str, fun ρ H y xs Q hm rx rs q => ?_⟩
    cases rs with
    | cons ry rn =>
      cases rn; cases ry; cases rx
      unfold firstAt at h3
      cases qo : Builtin.Str.occurrences (S0 s) (S0 x) 0 s.length 1 with
      | nil =>
        have h3' : (Builtin.Str.occurrences (S0 s) (S0 x) 0 s.length 1).head? = some n := h3
        rw [qo] at h3'; cases h3'
      | cons i rest =>
        have h3' : (Builtin.Str.occurrences (S0 s) (S0 x) 0 s.length 1).head? = some n := h3
        rw [qo] at h3'
        cases h3'
        exact ⟨_, _, n, rest, rfl, rfl, by rw [s0_len]; exact qo, fun _ => q _ _ (PoE.here hm .int)⟩
  · -- append
    rename_i i w
    split at h
    · rename_i us qi
      split at h
      · rename_i hz
        cases h
        refine ⟨_, _, _, PySem.F.plainAttrs_list, PySem.F.slot_list_append, PySem.F.type_list_append, mt_append, tv_ref, fun ρ H x xs Q hm rx rs q => ?_⟩
        cases rs with
        | cons ry rn =>
          cases rn
          obtain ⟨a, vs, e, rfl, h1, r1⟩ := hm.lst qi rx
          refine ⟨a, vs, _, rfl, rfl, h1, ?_, fun kf => q _ _ (set_mem hm qi rx e h1 kf (r1.append (.cons ry .nil)) .non)⟩
          rw [← r1.length, ← line_eq]
          exact hz
      · cases h
    · cases h
  · -- pop
    rename_i i
    split at h
    · rename_i us qi
      obtain ⟨w, m, h1, h2⟩ := R.bind_ok h
      obtain ⟨h3, rfl⟩ := R.opt_ok h1
      cases h2
      refine ⟨_, _, _, PySem.F.plainAttrs_list, PySem.F.slot_list_pop, PySem.F.type_list_pop, mt_pop, tv_ref, fun ρ H x xs Q hm rx rs q => ?_⟩
      cases rs
      obtain ⟨a, vs, e, rfl, h1, r1⟩ := hm.lst qi rx
      rw [List.getLast?_eq_getElem?] at h3
      obtain ⟨y, e1, e2⟩ := r1.get h3
      have tk : RVs X.K fa ρ H us.dropLast vs.dropLast := by
        rw [List.dropLast_eq_take, List.dropLast_eq_take, ← r1.length]
        exact r1.take _
      rw [r1.length] at e1
      exact ⟨a, vs, y, rfl, rfl, h1, e1, fun kf => q _ _ (set_mem hm qi rx e h1 kf tk e2)⟩
    · cases h
  · -- pop(k)
    rename_i i n
    split at h
    · rename_i us qi
      split at h
      · rename_i hn
        obtain ⟨w, m, h1, h2⟩ := R.bind_ok h
        obtain ⟨h3, rfl⟩ := R.opt_ok h1
        cases h2
        refine ⟨_, _, _, PySem.F.plainAttrs_list, PySem.F.slot_list_pop, PySem.F.type_list_pop, mt_popAt, tv_ref, fun ρ H x xs Q hm rx rs q => ?_⟩
        cases rs with
        | cons ry rn =>
          cases rn; cases ry
          obtain ⟨a, vs, e, rfl, hh, r1⟩ := hm.lst qi rx
          cases qj : ixOf us.length n with
          | none => rw [qj] at h3; cases h3
          | some j =>
            rw [qj] at h3
            have h4 : (us[j]?).map (fun v => (j, v)) = some w := h3
            cases qv : us[j]? with
            | none => rw [qv] at h4; cases h4
            | some u =>
              rw [qv] at h4
              cases h4
              obtain ⟨y, e1, e2⟩ := r1.get qv
              have s1 : seqIndex? n vs.length = some j := by
                rw [← r1.length]
                exact (L2.ixN_seq (show L2.ixN us.length n = some j from qj)).1
              have er : ∀ {us : List Val} {vs : List V} (j : Nat), RVs X.K fa ρ H us vs → RVs X.K fa ρ H (us.eraseIdx j) (vs.eraseIdx j) := by
                intro us vs j r
                rw [List.eraseIdx_eq_take_drop_succ, List.eraseIdx_eq_take_drop_succ]
                exact (r.take _).append (r.drop _)
              exact ⟨a, vs, n, j, y, rfl, rfl, hh, by omega, by omega, s1, e1, fun kf => q _ _ (set_mem hm qi rx e hh kf (er j r1) e2)⟩
      · cases h
    · cases h
  · cases h
end
end Rf

namespace Rf
open PySem PySem.Spec PyProof.Rows L2
section
variable {fa : Nat → Addr} {X : Cx} {T : Tab} {nm : Nms} {k : Nat} {C : Cal}
variable {ρ ρ1 : Wd} {H H1 H2 : Hp} {M M' : Mem}
theorem mt0_name {x : Str} {m : Mt} (h : mt0 x = some m) : x = mtName m := by
  have := look_mem h
  simp only [mt0T, List.mem_cons, List.not_mem_nil, or_false, Prod.mk.injEq] at this
  obtain ⟨rfl, rfl⟩ := this
  rfl
theorem mt1_name {x : Str} {m : Mt} (h : mt1 x = some m) : x = mtName m := by
  have := look_mem h
  simp only [mt1T, List.mem_cons, List.not_mem_nil, or_false, Prod.mk.injEq] at this
  rcases this with ⟨rfl, rfl⟩ | ⟨rfl, rfl⟩ | ⟨rfl, rfl⟩ | ⟨rfl, rfl⟩ | ⟨rfl, rfl⟩ <;> rfl
/-- is o asked as it stands (no super())? -/
def notC0 : Expr → Bool
  | .Call (.Name _ _) [] [] _ => false
  | _ => true
theorem base_ok {o : Expr} (h : notC0 o = true) (a : Str) (env : Env) : attributeBase o a env (eval o env) = eval o env := by
  unfold attributeBase
  split
  · cases h
  · rfl
theorem snd_mth0 {o : Expr} {a : Str} {ap p : Pos} {mt : Mt} {x : Ex} (hb : notC0 o = true) (hl : (ap.endLine == p.line) = true) (hn : a = mtName mt) (h1 : SndE fa X o (evE C x)) : SndE fa X (.Call (.Attribute o a ap) [] [] p) (evE C (.mth mt x .nil)) := by
  intro s σ ρ M H v M' hs hm q
  obtain ⟨u, m1, q1, q⟩ := R.bind_ok q
  obtain ⟨as, m2, q2, q⟩ := R.bind_ok q
  cases q2
  obtain ⟨Ty, id, r, f⟩ := mtV_ok (fa := fa) (X := X) q
  subst hn
  refine seE.kfo (ofE (pe_bm0 f.pa f.sl f.ty f.mt (pE o) (base_ok hb _ _) hl) ?_)
  refine (h1 s σ ρ M H u m1 hs hm q1).thn fun y H1 kf ⟨ρ1, g1, hm1, r1⟩ => ⟨f.tv ρ1 m1 H1 y hm1 r1, ?_⟩
  exact f.rd ρ1 H1 y [] _ hm1 r1 .nil fun z H' po => po.back g1
theorem go_mem {C : Cal} : True := trivial
theorem snd_mth1 {o e : Expr} {a : Str} {ap p : Pos} {mt : Mt} {x y : Ex} {f : Expr → Option Ex} (hb : notC0 o = true) (hl : (ap.endLine == p.line) = true) (hn : a = mtName mt) (hk : okE e = true) (h1 : SndE fa X o (evE C x)) (h2 : SndE fa X e (evE C y)) :
    SndE fa X (.Call (.Attribute o a ap) [e] [] p) (evE C (.mth mt x (.cons y .nil))) := by
  intro s σ ρ M H v M' hs hm q
  obtain ⟨u, m1, q1, q⟩ := R.bind_ok q
  obtain ⟨as, m2, q2, q⟩ := R.bind_ok q
  obtain ⟨w, m3, q3, q2⟩ := R.bind_ok q2
  cases q2
  obtain ⟨Ty, id, r, f⟩ := mtV_ok (fa := fa) (X := X) q
  subst hn
  have st := ok_star hk [] X.env
  have few : ((backTo p (starEach [e] X.env)).all (fun x => !x.1) && (backToKw p (keywordEach [] X.env)).all (fun x => x.1.isSome) && decide (([e] : List Expr).length + ([] : List Keyword).length + (if ([] : List Keyword).isEmpty then 0 else 1) < 30)) = true := by
    rw [st]
    rfl
  refine seE.kfo (ofE (pe_bm f.pa f.sl f.ty f.mt (pE o) (pA [e]) (base_ok hb _ _) few hl st rfl) ?_)
  refine (h1 s σ ρ M H u m1 hs hm q1).thn fun y H1 kf ⟨ρ1, g1, hm1, r1⟩ => ⟨?_, ?_⟩
  · exact f.tv ρ1 m1 H1 y hm1 r1
  · refine (snd_cons hk h2 snd_nil s σ ρ1 m1 H1 [w] m2 (hs.go g1) hm1 (by show (evE C _ s m1).bind _ = _; rw [q3]; rfl)).thn fun ys H2 kf ⟨ρ2, g2, hm2, r2⟩ => ?_
    exact f.rd ρ2 H2 y ys _ hm2 (r1.go g2) r2 fun z H' po => po.back (g1.trans g2)
/-! ### isinstance -/
def tyStr : Ty → String
  | .int => "int"
  | .str => "str"
  | .bool => "bool"
  | .tuple => "tuple"
  | .list => "list"
  | .dict => "dict"
  | .cls _ => "object"
def kdStr : Kd → String
  | .non => "NoneType"
  | .bool => "bool"
  | .int => "int"
  | .str => "str"
  | .tuple => "tuple"
  | .list => "list"
  | .dict => "dict"
def isB : Ty → Bool
  | .cls _ => false
  | _ => true
theorem kit_all : ([Kd.non, .bool, .int, .str, .tuple, .list, .dict].all fun k => [Ty.int, .str, .bool, .tuple, .list, .dict].all fun t => decide (L2.kitB (kdStr k) (tyStr t) = some (tyB t k))) = true := by decide +kernel
theorem kit1 (K : PySem.W.Frag) (k : Kd) (t : Ty) (h : isB t = true) : PySem.W.kitOne K (.type (kdStr k)) (.type (tyStr t)) = some (tyB t k) := by
  refine L2.kit_ty ?_
  have h1 : k ∈ [Kd.non, .bool, .int, .str, .tuple, .list, .dict] := by cases k <;> simp
  have h2 : t ∈ [Ty.int, .str, .bool, .tuple, .list, .dict] := by cases t <;> first | (simp; done) | cases h
  exact of_decide_eq_true (List.all_eq_true.mp (List.all_eq_true.mp kit_all k h1) t h2)
theorem kits (K : PySem.W.Frag) (k : Kd) : ∀ ts : List Ty, ts.all isB = true → PySem.W.kitAny K (.type (kdStr k)) (ts.map fun t => .type (tyStr t)) = some (ts.any fun t => tyB t k)
  | [], _ => rfl
  | t :: r, h => by
    simp only [List.all_cons, Bool.and_eq_true] at h
    rw [List.map_cons, List.any_cons]
    refine L2.kitAny_cons (b := tyB t k) (kit1 K k t h.1) (fun e => ?_) (fun e => ?_)
    · rw [kits K k r h.2, e]; rfl
    · rw [e]; rfl
theorem tyx_of (hm : HR X.K fa ρ M H) {v : Val} {x : V} {k : Kd} (h : kdOf M v = some k) (r : RV X.K fa ρ H v x) : TyX X.K H x (.type (kdStr k)) := by
  cases v with
  | d v =>
    cases r with
    | non => cases h; exact .base .non
    | bl => cases h; exact .base (.bl _)
    | int => cases h; exact .base (.int _)
    | str => cases h; exact .base (.str _)
    | tup hx _ _ =>
      cases h
      rcases hx with (hx | ⟨o, hx⟩) | ⟨o, its, n, hk, hc, _⟩
      · exact .base (.tup hx)
      · exact .fTuple hx
      · exact .kTuple hk hc
    | lst hx _ _ => cases h; exact .base (.lst hx)
    | scr hx _ =>
      cases h
      rcases hx with (hx | ⟨o, hx⟩) | ⟨o, its, n, hk, hc, _⟩
      · exact .base (.lst hx)
      · exact .base (.frz hx)
      · exact .kList hk hc
    | fn => cases h
    | dct _ _ _ => cases h
  | r i =>
    have h' : (match M[i]? with
      | some (.lst _) => some Kd.list
      | _ => none) = some k := h
    split at h'
    · rename_i us q
      cases h'
      obtain ⟨a, vs, _, rfl, h1, r1⟩ := hm.lst q r
      exact .base (.lst h1)
    · cases h'
theorem ty_all : (tyT.all fun p => decide (bootBuiltins p.1 = some (.type (tyStr p.2))) && isB p.2) = true := by decide +kernel
theorem ty_of {x : Str} {t : Ty} (h : tyOf x = some t) : bootBuiltins x = some (.type (tyStr t)) ∧ isB t = true := by
  have := List.all_eq_true.mp ty_all (x, t) (look_mem h)
  rw [Bool.and_eq_true] at this
  exact ⟨of_decide_eq_true this.1, this.2⟩
theorem pa_tys (c : Cok fa X T nm k C) : ∀ {es : List Expr} {ts : List Ty}, cTys T nm es = some ts → ts.all isB = true ∧ PA X es (fun _ H Q => Q (ts.map fun t => .ty (tyStr t)) H)
  | [], ts, h => by
    cases h
    exact ⟨rfl, pa_nil⟩
  | e :: r, ts, h => by
    unfold cTys at h
    split at h
    · cases h; rename_i e; cases e
    · rename_i x p r2 e
      cases e
      split at h
      · rename_i t tr h1 h2 h3
        cases h
        obtain ⟨i1, i2⟩ := pa_tys c h3
        obtain ⟨j1, j2⟩ := ty_of h2
        obtain ⟨g1, g2, g3, g4⟩ := fr_of c h1
        refine ⟨by simp [j2, i1], ?_⟩
        exact pa_cons (pe_bltn (v := .ty (tyStr t)) g1 g3 j1 rfl g4 g2) i2
      · cases h
    · cases h
theorem boot_isi : bootBuiltins "isinstance" = some (.builtin "isinstance") := by decide +kernel
theorem isi_core {C : Cal} {x : Ex} {ts : List Ty} {s : Slots} {M M' : Mem} {v : Val} (q : evE C (.isi x ts) s M = .ok v M') : ∃ a k, evE C x s M = .ok a M' ∧ kdOf M' a = some k ∧ v = .d (.bl (ts.any fun t => tyB t k)) := by
  obtain ⟨u, m1, q1, q⟩ := R.bind_ok q
  obtain ⟨k, m2, q2, q⟩ := R.bind_ok q
  obtain ⟨q3, rfl⟩ := R.opt_ok q2
  cases q
  exact ⟨u, k, q1, q3, rfl⟩
theorem snd_isi1 {a : Expr} {y : Str} {p py pos : Pos} {x : Ex} {ts : List Ty} (c : Cok fa X T nm k C) (hx : isFr T nm "isinstance" = true) (ha : okE a = true) (ht : cTys T nm [.Name y py] = some ts) (h1 : SndE fa X a (evE C x)) :
    SndE fa X (.Call (.Name "isinstance" p) [a, .Name y py] [] pos) (evE C (.isi x ts)) := by
  intro s σ ρ M H v M' hs hm q
  obtain ⟨u, kd, q1, q2, rfl⟩ := isi_core q
  obtain ⟨g1, g2, g3, g4⟩ := fr_of c hx
  obtain ⟨i1, i2⟩ := pa_tys c ht
  have ht' : (match isFr T nm y, tyOf y, (some [] : Option (List Ty)) with
    | true, some t, some ts => some (t :: ts)
    | _, _, _ => none) = some ts := ht
  split at ht'
  · rename_i t tr h1' h2 h3
    cases h3
    cases ht'
    refine ofE (pe_callB call_isi g1 g3 boot_isi (pa_cons (pE a) i2 (ok_star ha _ _)) g4 g2 (ok_star ha _ _) rfl) ?_
    refine (h1 s σ ρ M H u _ hs hm q1).thn fun z H1 kf ⟨ρ1, g1, hm1, r1⟩ => ?_
    refine ⟨z, _, _, _, tyB t kd, rfl, .ty _, tyx_of hm1 q2 r1, kit1 _ _ _ (by simpa using i1), ρ1, g1, hm1, ?_⟩
    rw [List.any_cons, List.any_nil, Bool.or_false]
    exact .bl
  · cases ht'
theorem snd_isiT {a : Expr} {es : List Expr} {j : Nat} {p py pos : Pos} {x : Ex} {ts : List Ty} (c : Cok fa X T nm k C) (hx : isFr T nm "isinstance" = true) (ha : okE a = true) (hl : es.length ≤ 1000) (ht : cTys T nm es = some ts) (h1 : SndE fa X a (evE C x)) :
    SndE fa X (.Call (.Name "isinstance" p) [a, .Tuple es j py] [] pos) (evE C (.isi x ts)) := by
  intro s σ ρ M H v M' hs hm q
  obtain ⟨u, kd, q1, q2, rfl⟩ := isi_core q
  obtain ⟨g1, g2, g3, g4⟩ := fr_of c hx
  obtain ⟨i1, i2⟩ := pa_tys c ht
  have lt : ts.length ≤ sizeLine := by
    have : ∀ {es : List Expr} {ts : List Ty}, cTys T nm es = some ts → ts.length = es.length := by
      intro es
      induction es with
      | nil => intro ts h; cases h; rfl
      | cons e r ih =>
        intro ts h
        unfold cTys at h
        split at h
        · cases h; rename_i e; cases e
        · rename_i e; cases e
          split at h
          · cases h
            rw [List.length_cons, List.length_cons, ih (by assumption)]
          · cases h
        · cases h
    rw [this ht]
    exact thou hl
  refine seE.kfo (ofE (pe_callB call_isiT g1 g3 boot_isi (pa_cons (pE a) (pa_cons (pe_tup i2) pa_nil) (ok_star ha _ _)) g4 g2 (ok_star ha _ _) rfl) ?_)
  refine (h1 s σ ρ M H u _ hs hm q1).thn fun z H1 kf ⟨ρ1, g1, hm1, r1⟩ => ?_
  refine ⟨by rw [List.length_map]; exact lt, fun tp hn => ?_⟩
  have n1 : Go ρ1 H1 ρ1 (upd H1 tp (.tup (ts.map fun t => V.ty (tyStr t)))) := go_new hn
  have pr : Paired ClsV (ts.map fun t => V.ty (tyStr t)) (ts.map fun t => Value.type (tyStr t)) := by
    clear i1 i2 lt ht q n1 hn
    induction ts with
    | nil => exact .nil
    | cons t r ih => exact .cons (.ty _) ih
  have tx : TyX X.K (upd H1 tp (.tup (ts.map fun t => V.ty (tyStr t)))) z (.type (kdStr kd)) := by
    have base := tyx_of hm1 q2 r1
    have nr : ∀ c, Value.type (kdStr kd) ≠ .ref c := fun c z => by cases z
    generalize Value.type (kdStr kd) = tt at base nr
    have keep : ∀ {b : Addr} {o : HO}, H1 b = some o → upd H1 tp (.tup (ts.map fun t => V.ty (tyStr t))) b = some o := fun {b o} e => by
      rw [upd_ne (fun z => by rw [z, hn] at e; cases e)]; exact e
    cases base with
    | base h =>
      refine .base ?_
      cases h with
      | non => exact .non
      | bl => exact .bl _
      | int => exact .int _
      | str => exact .str _
      | flt => exact .flt _
      | lst e => exact .lst (keep e)
      | frz e => exact .frz (keep e)
      | tup e => exact .tup (keep e)
      | dK e => exact .dK (keep e)
      | dT e => exact .dT (keep e)
      | ins e => exact absurd rfl (nr _)
    | byt b => exact .byt b
    | set e => exact .set (keep e)
    | kList e c => exact .kList e c
    | kTuple e c => exact .kTuple e c
    | kDict e c => exact .kDict e c
    | fTuple e => exact .fTuple (keep e)
    | fDict e => exact .fDict (keep e)
  exact ⟨z, tp, _, _, _, _, rfl, upd_same, pr, tx, kits _ _ _ i1, fun kf => ⟨ρ1, g1.trans n1, hm1.new hn, .bl⟩⟩
end
end Rf

namespace Rf
open PySem PySem.Spec PyProof.Rows L2
section
variable {fa : Nat → Addr} {X : Cx} {T : Tab} {nm : Nms} {k : Nat} {C : Cal}
variable {ρ ρ1 : Wd} {H H1 H2 : Hp} {M M' : Mem}
/-! ### the reversed copy -/
theorem snd_rev {e : Expr} {j : Nat} {p1 p2 p3 pos : Pos} {z : Bool} {x : Ex} (h : SndE fa X e (evE C x)) :
    SndE fa X (.Subscript e (.Slice none none (some (.UnaryOp .USub (.Constant (.int 1) j p1) p2)) p3) pos) (evE C (.rev z x)) := by
  intro s σ ρ M H v M' hs hm q
  obtain ⟨u, m1, q1, q⟩ := R.bind_ok q
  have q' : (match lstOf m1 u with
    | some vs => mkL z vs.reverse m1
    | none => .no) = .ok v M' := q
  split at q'
  · rename_i us qu
    refine seE.kfo (ofE (pe_revL (pE e)) ((h s σ ρ M H u m1 hs hm q1).thn fun y H1 kf ⟨ρ1, g1, hm1, r1⟩ => ?_))
    obtain ⟨a, vs, rfl, h1, r2⟩ := hm1.lstOf qu r1
    exact ⟨a, vs, rfl, .inl (.inl h1), fun p hn kf => (mk_list hm1 r2.rev q' hn kf).back g1⟩
  · cases q'

/-! ### targets -/
theorem ixIn_at {x : Str} : ∀ {N : List Str} {i : Nat}, ixIn x N = some i → N[i]? = some x
  | [], i, h => by cases h
  | y :: r, i, h => by
    unfold ixIn at h
    by_cases e : x = y
    · rw [if_pos e] at h
      cases h
      rw [e]; rfl
    · rw [if_neg e] at h
      cases q : ixIn x r with
      | none => rw [q] at h; cases h
      | some j =>
        rw [q] at h
        cases h
        have := ixIn_at (N := r) q
        simpa using this
theorem slotS_ok (c : Cok fa X T nm k C) {x : Str} {i : Nat} (h : slotS T nm x = some i) : X.N[i]? = some x ∧ Loc X.env.scope x ∧ (X.fn x = true ∨ X.env.scope.names.lookup x = some .local) := by
  unfold slotS at h
  rw [c.N]
  split at h
  · rename_i e
    exact ⟨ixIn_at h, .inl (c.na _ _ e (by decide)), .inr (c.na _ _ e (by decide))⟩
  · rename_i e
    exact ⟨ixIn_at h, .inr (c.na _ _ e (by decide)), .inl (c.fc _ e)⟩
  · cases h
theorem SR.set {s : Slots} {σ : L2.St} (h : SR X.K fa ρ H s σ) (i : Nat) {x : Val} {v : V} (r : RV X.K fa ρ H x v) : SR X.K fa ρ H (s.set i (some x)) (σ.set i (some v)) := by
  refine ⟨by rw [List.length_set, List.length_set]; exact h.len, fun j y e => ?_⟩
  by_cases hj : i = j
  · subst hj
    by_cases hi : i < s.length
    · rw [List.getElem?_set_self hi] at e
      cases e
      exact ⟨v, List.getElem?_set_self (by rw [← h.len]; exact hi), r⟩
    · rw [List.getElem?_eq_none (by rw [List.length_set]; omega)] at e
      cases e
  · rw [List.getElem?_set_ne hj] at e
    rw [List.getElem?_set_ne hj]
    exact h.at_ j y e
theorem SR.set0 {s : Slots} {σ : L2.St} (h : SR X.K fa ρ H s σ) (i : Nat) : SR X.K fa ρ H (s.set i none) (σ.set i none) := by
  refine ⟨by rw [List.length_set, List.length_set]; exact h.len, fun j y e => ?_⟩
  by_cases hj : i = j
  · subst hj
    by_cases hi : i < s.length
    · rw [List.getElem?_set_self hi] at e
      cases e
    · rw [List.getElem?_eq_none (by rw [List.length_set]; omega)] at e
      cases e
  · rw [List.getElem?_set_ne hj] at e
    rw [List.getElem?_set_ne hj]
    exact h.at_ j y e
theorem wipe_sr {s : Slots} {σ : L2.St} (h : SR X.K fa ρ H s σ) : ∀ vs : List Nat, SR X.K fa ρ H (wipeS s vs) (L2.wipe σ vs)
  | [] => h
  | v :: vs => (wipe_sr h vs).set0 v
/-- what a walk hands out, in the heap -/
def WV (K : PySem.W.Frag) (fa : Nat → Addr) (ρ : Wd) (H : Hp) : Wv → V → Prop
  | .v x, v => RV K fa ρ H x v
  | .t xs, v => ∃ T vs, v = .ref T ∧ H T = some (.tup vs) ∧ RVs K fa ρ H xs vs
mutual
/-- the slots that a target stores to -/
def tgIx : Tg → List Nat
  | .nm i => [i]
  | .tup ts => tgIxs ts
def tgIxs : Tgs → List Nat
  | .nil => []
  | .cons t ts => tgIx t ++ tgIxs ts
end
/-- behind a store: the heap as it was -/
def TgQ (fa : Nat → Addr) (X : Cx) (ρ : Wd) (H : Hp) (s' : Slots) (own : List Nat) (σ : L2.St) (σ' : L2.St) (H' : Hp) : Prop := H' = H ∧ SR X.K fa ρ H s' σ' ∧ ∀ vs : List Nat, (∀ i ∈ own, i ∈ vs) → L2.wipe σ' vs = L2.wipe σ vs
theorem wipe_set {σ : L2.St} {i : Nat} {v : Option V} : ∀ {vs : List Nat}, i ∈ vs → L2.wipe (σ.set i v) vs = L2.wipe σ vs
  | [], h => by cases h
  | j :: vs, h => by
    show (L2.wipe (σ.set i v) vs).set j none = (L2.wipe σ vs).set j none
    have gen : ∀ (vs : List Nat), L2.wipe (σ.set i v) vs = L2.wipe σ vs ∨ L2.wipe (σ.set i v) vs = (L2.wipe σ vs).set i v := by
      intro vs
      induction vs with
      | nil => exact .inr rfl
      | cons w ws ih =>
        show (L2.wipe (σ.set i v) ws).set w none = (L2.wipe σ ws).set w none ∨ (L2.wipe (σ.set i v) ws).set w none = ((L2.wipe σ ws).set w none).set i v
        rcases ih with e | e
        · exact .inl (by rw [e])
        · rw [e]
          by_cases z : i = w
          · subst z
            exact .inl (by rw [List.set_set])
          · exact .inr (by rw [List.set_comm _ _ z])
    by_cases z : i ∈ vs
    · rw [wipe_set z]
    · have e : i = j := (List.mem_cons.mp h).resolve_right z
      subst e
      rcases gen vs with e | e
      · rw [e]
      · rw [e, List.set_set]
theorem cTs_star (env : Env) : ∀ {es : List Expr} {ts : Tgs}, cTs T nm es = some ts → (∀ e ∈ es, ∃ x p, e = .Name x p)
  | [], _, _ => fun e h => by cases h
  | e :: r, _, h => by
    unfold cTs at h
    split at h
    · rename_i a b h1 h2
      intro x hx
      rcases List.mem_cons.mp hx with rfl | hx
      · cases x with
        | Name y p => exact ⟨y, p, rfl⟩
        | _ => cases h1
      · exact cTs_star env h2 x hx
    · cases h
theorem names_flat (env : Env) : ∀ {es : List Expr}, (∀ e ∈ es, ∃ x p, e = .Name x p) → assignEach es env = es.map fun e => (false, assign e env)
  | [], _ => rfl
  | e :: r, h => by
    obtain ⟨x, p, rfl⟩ := h e List.mem_cons_self
    have ih := names_flat env (es := r) fun e he => h e (List.mem_cons_of_mem _ he)
    show (false, assign (.Name x p) env) :: assignEach r env = _
    rw [ih]
    rfl
def seGs (X : Cx) (es : List Expr) : TGs := fun vs σ H Q => ∀ pins s us, Inv X pins σ H s → Vals vs us → wpAny (model X.prog X.w) X.A (assignInOrder ((assignEach es X.env).map (·.2)) us) (fun _ s' => ∃ σ' H', Inv X pins σ' H' s' ∧ Q σ' H') X.xe s
theorem pGs (es : List Expr) : PGs X es (seGs X es) := ⟨fun pins s _ _ _ us _ I r h => h pins s us I r⟩
theorem ofGs {es : List Expr} {t : TGs} (h : PGs X es t) {v : List V} {σ : L2.St} {H : Hp} {Q : L2.St → Hp → Prop} (q : t v σ H Q) : seGs X es v σ H Q := fun pins s u I r => h.run pins s σ H v u Q I r q
theorem seGs.thn {e : List Expr} {v : List V} {σ : L2.St} {H : Hp} {Q Q' : L2.St → Hp → Prop} (h : seGs X e v σ H Q) (q : ∀ σ' H', Q σ' H' → Q' σ' H') : seGs X e v σ H Q' := fun pins s u I r =>
  L2.thn (h pins s u I r) fun _ _ ⟨σ', H', I', z⟩ => ⟨σ', H', I', q σ' H' z⟩
theorem snd_T1 (c : Cok fa X T nm k C) {e : Expr} {t : Tg} (h : cT T nm e = some t) {ρ : Wd} {M : Mem} {H : Hp} {s s' : Slots} {σ : L2.St} {v : Val} {x : V} (hs : SR X.K fa ρ H s σ) (r : RV X.K fa ρ H v x) (q : asgT M t v s = some s') :
    seG X e x σ H (TgQ fa X ρ H s' (tgIx t) σ) := by
  cases e with
  | Name y p =>
    have h' : (slotS T nm y).map Tg.nm = some t := h
    cases hy : slotS T nm y with
    | none => rw [hy] at h'; cases h'
    | some i =>
      rw [hy] at h'
      cases h'
      obtain ⟨a1, a2, a3⟩ := slotS_ok c hy
      cases q
      exact ofG (pg_name c.nd a1 a2 a3) ⟨rfl, hs.set i r, fun vs hv => wipe_set (hv i (by simp [tgIx]))⟩
  | _ => cases h
theorem snd_Ts (c : Cok fa X T nm k C) : ∀ {es : List Expr} {ts : Tgs}, cTs T nm es = some ts → ∀ {ρ : Wd} {M : Mem} {H : Hp} {s s' : Slots} {σ : L2.St} {v : List Val} {x : List V}, SR X.K fa ρ H s σ → RVs X.K fa ρ H v x → asgTs M ts v s = some s' →
    seGs X es x σ H (TgQ fa X ρ H s' (tgIxs ts) σ)
  | [], ts, h, ρ, M, H, s, s', σ, v, x, hs, r, q => by
    cases h
    cases r with
    | nil =>
      cases q
      exact ofGs pgs_nil ⟨rfl, rfl, hs, fun _ _ => rfl⟩
    | cons _ _ => cases q
  | e :: es, ts, h, ρ, M, H, s, s', σ, v, x, hs, r, q => by
    unfold cTs at h
    split at h
    · rename_i a b h1 h2
      cases h
      cases r with
      | nil => cases q
      | @cons v1 vr x1 xr r1 rr =>
        have q' : (match asgT M a v1 s with
          | some s' => asgTs M b vr s'
          | none => none) = some s' := q
        split at q'
        · rename_i s1 e1
          have st : (assignEach (e :: es) X.env).map (·.2) = assign e X.env :: (assignEach es X.env).map (·.2) := by
            cases e with
            | Name y p => rfl
            | _ => cases h1
          refine ofGs (pgs_cons (pG e) (pGs es) st) ⟨x1, xr, rfl, ?_⟩
          refine (snd_T1 c h1 hs r1 e1).thn fun σ1 H1 ⟨e2, hs1, w1⟩ => ?_
          subst e2
          refine (snd_Ts c h2 hs1 rr q').thn fun σ2 H2 ⟨e3, hs2, w2⟩ => ?_
          subst e3
          refine ⟨rfl, hs2, fun vs hv => ?_⟩
          rw [w2 vs fun i hi => hv i (by simp only [tgIxs, List.mem_append]; exact .inr hi), w1 vs fun i hi => hv i (by simp only [tgIxs, List.mem_append]; exact .inl hi)]
        · cases q'
    · cases h
theorem len_Ts : ∀ {M : Mem} {es : List Expr} {ts : Tgs} {v : List Val} {s s' : Slots}, cTs T nm es = some ts → asgTs M ts v s = some s' → v.length = es.length
  | _, [], _, v, _, _, h, q => by
    cases h
    cases v with
    | nil => rfl
    | cons _ _ => cases q
  | M, e :: es, _, v, s, s', h, q => by
    unfold cTs at h
    split at h
    · rename_i a b h1 h2
      cases h
      cases v with
      | nil => cases q
      | cons v1 vr =>
        have q' : (match asgT M a v1 s with
          | some s' => asgTs M b vr s'
          | none => none) = some s' := q
        split at q'
        · rw [List.length_cons, List.length_cons, len_Ts h2 q']
        · cases q'
    · cases h
/-- a target -/
theorem snd_tg (c : Cok fa X T nm k C) {e : Expr} {t : Tg} (h : cTg T nm e = some t) {ρ : Wd} {M : Mem} {H : Hp} {s s' : Slots} {σ : L2.St} {w : Wv} {x : V} (hs : SR X.K fa ρ H s σ) (hm : HR X.K fa ρ M H) (r : WV X.K fa ρ H w x) (q : asgW M t w s = some s') :
    seG X e x σ H (TgQ fa X ρ H s' (tgIx t) σ) := by
  cases e with
  | Name y p =>
    cases w with
    | v v => exact snd_T1 c (e := .Name y p) h hs r q
    | t xs =>
      have h' : (slotS T nm y).map Tg.nm = some t := h
      cases hy : slotS T nm y with
      | none => rw [hy] at h'; cases h'
      | some i => rw [hy] at h'; cases h'; cases q
  | Tuple es j p =>
    have h' : (cTs T nm es).map Tg.tup = some t := h
    cases hy : cTs T nm es with
    | none => rw [hy] at h'; cases h'
    | some ts =>
      rw [hy] at h'
      cases h'
      have nf := names_flat X.env (cTs_star X.env hy)
      have hn : (assignEach es X.env).length = es.length := by rw [nf, List.length_map]
      have hst : (assignEach es X.env).findIdx? (·.1) = none := by
        rw [nf, List.findIdx?_eq_none_iff]
        intro x hx
        obtain ⟨e, _, rfl⟩ := List.mem_map.mp hx
        rfl
      have tup : ∀ {us : List Val} {vs : List V} {a : Addr}, RVs X.K fa ρ H us vs → asgTs M ts us s = some s' → SqT X.K H a vs → seG X (.Tuple es j p) (.ref a) σ H (TgQ fa X ρ H s' (tgIx (.tup ts)) σ) := by
        intro us vs a r2 e2 ht
        refine ofG (pg_tup c.calm (pGs es) hn hst) ⟨a, vs, rfl, ht, ?_, (snd_Ts c hy hs r2 e2)⟩
        rw [← r2.length, len_Ts hy e2]
      have lst : ∀ {us : List Val} {vs : List V} {a : Addr}, RVs X.K fa ρ H us vs → asgTs M ts us s = some s' → SqL X.K H a vs → seG X (.Tuple es j p) (.ref a) σ H (TgQ fa X ρ H s' (tgIx (.tup ts)) σ) := by
        intro us vs a r2 e2 ht
        refine ofG (pg_unl c.calm (pGs es) hn hst) ⟨a, vs, rfl, ht, ?_, (snd_Ts c hy hs r2 e2)⟩
        rw [← r2.length, len_Ts hy e2]
      cases w with
      | t xs =>
        obtain ⟨a, vs, rfl, ha, rs⟩ := r
        exact tup rs q (.inl (.inl ha))
      | v v =>
        have q' : (match tgItems M v with
          | some vs => asgTs M ts vs s
          | none => none) = some s' := q
        split at q'
        · rename_i us qu
          unfold tgItems at qu
          split at qu
          · cases qu
            cases r with
            | tup hx nx rs => exact tup rs.vs q' hx
          · obtain ⟨a, vs, rfl, h1, r2⟩ := hm.lstOf qu r
            exact lst r2 q' (.inl (.inl h1))
        · cases q'
  | _ => cases h

/-! ### walks -/
def Wlk (K : PySem.W.Frag) (fa : Nat → Addr) (ρ0 : Wd) (H0 : Hp) (wk : Wk) (J : L2.It) : Prop := ∀ ρ M H, Kp ρ0 H0 ρ H → Pl ρ0 ρ → HR K fa ρ M H →
  (∀ i r w, wk.rs[i]? = some r → r M = some w → J.go i H ∧ ∀ x H', J.yld i H x H' → Go ρ H ρ H' ∧ HR K fa ρ M H' ∧ WV K fa ρ H' w x) ∧ (wk.fin M = true → J.stop wk.rs.length H)
theorem Wlk.go {K : PySem.W.Frag} {ρ0 ρ1 : Wd} {H0 H1 : Hp} {wk : Wk} {J : L2.It} (h : Wlk K fa ρ0 H0 wk J) (g : Kp ρ0 H0 ρ1 H1) (p : Pl ρ0 ρ1) : Wlk K fa ρ1 H1 wk J := fun ρ M H g2 p2 hm =>
  h ρ M H ⟨fun a o e n => let z := g.rd a o e n; g2.rd a o z.1 z.2⟩ (fun i a e => p2 i a (p i a e)) hm
theorem wkL_at {vs : List Val} {i : Nat} {r : Mem → Option Wv} {w : Wv} (h : (wkL vs).rs[i]? = some r) (q : r M = some w) : ∃ v, vs[i]? = some v ∧ w = .v v := by
  have h' : (vs.map fun v (_ : Mem) => some (Wv.v v))[i]? = some r := h
  rw [List.getElem?_map] at h'
  cases e : vs[i]? with
  | none => rw [e] at h'; cases h'
  | some v => rw [e] at h'; cases h'; cases q; exact ⟨v, rfl, rfl⟩
theorem wkL_len (vs : List Val) : (wkL vs).rs.length = vs.length := List.length_map _
theorem wlk_list {K : PySem.W.Frag} {ρ0 : Wd} {H0 : Hp} {ds : List D} {a : Addr} (r : RD K fa ρ0 H0 (.lst ds) (.ref a)) : Wlk K fa ρ0 H0 (wkL (ds.map .d)) (Itl K a) := by
  intro ρ M H g p hm
  cases r.kp g with
  | lst h1 n rs =>
    rename_i vs
    refine ⟨fun i r w e q => ?_, fun _ => ⟨vs, .inl (.inl h1), by rw [wkL_len, List.length_map, rs.length]; exact Nat.le_refl _⟩⟩
    obtain ⟨v, e1, rfl⟩ := wkL_at e q
    obtain ⟨x, e2, r2⟩ := rs.vs.get e1
    refine ⟨⟨vs, x, .inl (.inl h1), e2⟩, fun y H' ⟨e3, hy⟩ => ?_⟩
    subst e3
    have := hy vs (.inl (.inl h1))
    rw [e2] at this
    cases this
    exact ⟨Go.refl, hm, r2⟩
theorem wlk_scr {K : PySem.W.Frag} {ρ0 : Wd} {H0 : Hp} {ns : List Int} {a : Addr} (r : RD K fa ρ0 H0 (.scr ns) (.ref a)) : Wlk K fa ρ0 H0 (wkL (ns.map fun n => .d (.int n))) (Itl K a) := by
  intro ρ M H g p hm
  cases r.kp g with
  | scr h1 n =>
    refine ⟨fun i r w e q => ?_, fun _ => ⟨_, h1, by rw [wkL_len, List.length_map, List.length_map]; exact Nat.le_refl _⟩⟩
    obtain ⟨v, e1, rfl⟩ := wkL_at e q
    rw [List.getElem?_map] at e1
    cases e2 : ns[i]? with
    | none => rw [e2] at e1; cases e1
    | some n =>
      rw [e2] at e1
      cases e1
      have e3 : (ns.map V.int)[i]? = some (.int n) := by rw [List.getElem?_map, e2]; rfl
      refine ⟨⟨_, _, h1, e3⟩, fun y H' ⟨e4, hy⟩ => ?_⟩
      subst e4
      have := hy _ h1
      rw [e3] at this
      cases this
      exact ⟨Go.refl, hm, .int⟩
theorem wlk_tup {K : PySem.W.Frag} {ρ0 : Wd} {H0 : Hp} {ds : List D} {a : Addr} (r : RD K fa ρ0 H0 (.tup ds) (.ref a)) : Wlk K fa ρ0 H0 (wkL (ds.map .d)) (Itt K a) := by
  intro ρ M H g p hm
  cases r.kp g with
  | tup h1 n rs =>
    rename_i vs
    refine ⟨fun i r w e q => ?_, fun _ => ⟨vs, h1, by rw [wkL_len, List.length_map, rs.length]; exact Nat.le_refl _⟩⟩
    obtain ⟨v, e1, rfl⟩ := wkL_at e q
    obtain ⟨x, e2, r2⟩ := rs.vs.get e1
    refine ⟨⟨vs, x, h1, e2⟩, fun y H' ⟨e3, hy⟩ => ?_⟩
    subst e3
    have := hy vs h1
    rw [e2] at this
    cases this
    exact ⟨Go.refl, hm, r2⟩
theorem wlk_str {K : PySem.W.Frag} {ρ0 : Wd} {H0 : Hp} {s : List Nat} (hl : s.length ≤ LINE) (hc : CP s) : Wlk K fa ρ0 H0 (wkL (s.map fun c => .d (.str [c]))) (Its (S0 s)) := by
  intro ρ M H g p hm
  refine ⟨fun i r w e q => ?_, fun _ => by rw [wkL_len, List.length_map]; show (S0 s).cps.size ≤ s.length; simp⟩
  obtain ⟨v, e1, rfl⟩ := wkL_at e q
  rw [List.getElem?_map] at e1
  cases e2 : s[i]? with
  | none => rw [e2] at e1; cases e1
  | some c =>
    rw [e2] at e1
    cases e1
    refine ⟨?_, fun y H' ⟨e3, c', e4, e5⟩ => ?_⟩
    · show i < (S0 s).cps.size
      have := (List.getElem?_eq_some_iff.mp e2).1
      simpa using this
    · subst e3 e5
      have e6 : s.toArray[i]? = some c' := e4
      rw [List.getElem?_toArray, e2] at e6
      cases e6
      exact ⟨Go.refl, hm, .str (s := [c]) (by show 1 ≤ LINE; decide) fun d hd => by
        have : d = c := by simpa using hd
        rw [this]; exact hc c (List.mem_of_getElem? e2)⟩
theorem wlk_range {K : PySem.W.Frag} {ρ0 : Wd} {H0 : Hp} (lo : Int) (n : Nat) : Wlk K fa ρ0 H0 (wkL ((List.range n).map fun (k : Nat) => .d (.int (lo + (k : Int))))) (Itr lo n) := by
  intro ρ M H g p hm
  refine ⟨fun i r w e q => ?_, fun _ => by rw [wkL_len, List.length_map, List.length_range]; exact Nat.le_refl _⟩
  obtain ⟨v, e1, rfl⟩ := wkL_at e q
  rw [List.getElem?_map] at e1
  cases e2 : (List.range n)[i]? with
  | none => rw [e2] at e1; cases e1
  | some j =>
    rw [e2] at e1
    cases e1
    obtain ⟨h1, h2⟩ := List.getElem?_eq_some_iff.mp e2
    rw [List.getElem_range] at h2
    subst h2
    have hin : i < n := by simpa using h1
    refine ⟨hin, fun y H' ⟨e3, e4⟩ => ?_⟩
    subst e3 e4
    exact ⟨Go.refl, hm, .int⟩
/-- a place, as it stands at each turn -/
theorem lstR_ok (hm : HR X.K fa ρ M H) {i n : Nat} {a : Addr} {us : List Val} (e : ρ.l[i]? = some a) (h : lstR i n M = some us) : us.length = n ∧ ∃ vs, H a = some (.lst vs) ∧ RVs X.K fa ρ H us vs := by
  unfold lstR at h
  split at h
  · rename_i w q
    split at h
    · rename_i hl
      cases h
      obtain ⟨vs, x, y⟩ := hm.at_ i a _ e q
      exact ⟨hl, vs, x, y⟩
    · cases h
  · cases h
theorem wlk_place {ρ0 : Wd} {H0 : Hp} {i n : Nat} {a : Addr} (e : ρ0.l[i]? = some a) : Wlk X.K fa ρ0 H0 (wkR i n) (Itl X.K a) := by
  intro ρ M H g p hm
  have ea := p i a e
  refine ⟨fun k r w ek q => ?_, fun hf => ?_⟩
  · have ek' : ((List.range n).map fun k m => (lstR i n m).bind fun us => (us[k]?).map Wv.v)[k]? = some r := ek
    rw [List.getElem?_map] at ek'
    cases e2 : (List.range n)[k]? with
    | none => rw [e2] at ek'; cases ek'
    | some j =>
      rw [e2] at ek'
      cases ek'
      obtain ⟨h1, h2⟩ := List.getElem?_eq_some_iff.mp e2
      rw [List.getElem_range] at h2
      subst h2
      have q' : ((lstR i n M).bind fun us => (us[k]?).map Wv.v) = some w := q
      cases el : lstR i n M with
      | none => rw [el] at q'; cases q'
      | some us =>
        rw [el] at q'
        have q'' : (us[k]?).map Wv.v = some w := q'
        obtain ⟨_, vs, hv, rs⟩ := lstR_ok hm ea el
        cases eu : us[k]? with
        | none => rw [eu] at q''; cases q''
        | some u =>
          rw [eu] at q''
          cases q''
          obtain ⟨x, e3, r3⟩ := rs.get eu
          refine ⟨⟨vs, x, .inl (.inl hv), e3⟩, fun y H' ⟨e4, hy⟩ => ?_⟩
          subst e4
          have := hy vs (.inl (.inl hv))
          rw [e3] at this
          cases this
          exact ⟨Go.refl, hm, r3⟩
  · have hf' : (lstR i n M).isSome = true := hf
    cases el : lstR i n M with
    | none => rw [el] at hf'; cases hf'
    | some us =>
      obtain ⟨hl, vs, hv, rs⟩ := lstR_ok hm ea el
      refine ⟨vs, .inl (.inl hv), ?_⟩
      rw [← rs.length, hl]
      show n ≤ (List.map _ (List.range n)).length
      rw [List.length_map, List.length_range]
      exact Nat.le_refl _
theorem wlk_placeE {ρ0 : Wd} {H0 : Hp} {i n : Nat} {a : Addr} (e : ρ0.l[i]? = some a) : Wlk X.K fa ρ0 H0 (wkE i n) (Ite X.K a) := by
  intro ρ M H g p hm
  have ea := p i a e
  refine ⟨fun k r w ek q => ?_, fun hf => ?_⟩
  · have ek' : ((List.range n).map fun k m => (lstR i n m).bind fun us => (us[k]?).map fun x => Wv.t [.d (.int (k : Nat)), x])[k]? = some r := ek
    rw [List.getElem?_map] at ek'
    cases e2 : (List.range n)[k]? with
    | none => rw [e2] at ek'; cases ek'
    | some j =>
      rw [e2] at ek'
      cases ek'
      obtain ⟨h1, h2⟩ := List.getElem?_eq_some_iff.mp e2
      rw [List.getElem_range] at h2
      subst h2
      have q' : ((lstR i n M).bind fun us => (us[k]?).map fun x => Wv.t [.d (.int (k : Nat)), x]) = some w := q
      cases el : lstR i n M with
      | none => rw [el] at q'; cases q'
      | some us =>
        rw [el] at q'
        have q'' : (us[k]?).map (fun x => Wv.t [.d (.int (k : Nat)), x]) = some w := q'
        obtain ⟨_, vs, hv, rs⟩ := lstR_ok hm ea el
        cases eu : us[k]? with
        | none => rw [eu] at q''; cases q''
        | some u =>
          rw [eu] at q''
          cases q''
          obtain ⟨x, e3, r3⟩ := rs.get eu
          refine ⟨⟨vs, x, .inl (.inl hv), e3⟩, fun y H' ⟨tp, y', e4, hn, e5, hy⟩ => ?_⟩
          subst e4 e5
          have := hy vs (.inl (.inl hv))
          rw [e3] at this
          cases this
          have gn : Go ρ H ρ (upd H tp (.tup [.int (k : Nat), x])) := go_new hn
          exact ⟨gn, hm.new hn, tp, _, rfl, upd_same, .cons .int (.cons (r3.go gn) .nil)⟩
  · have hf' : (lstR i n M).isSome = true := hf
    cases el : lstR i n M with
    | none => rw [el] at hf'; cases hf'
    | some us =>
      obtain ⟨hl, vs, hv, rs⟩ := lstR_ok hm ea el
      refine ⟨vs, .inl (.inl hv), ?_⟩
      rw [← rs.length, hl]
      show n ≤ (List.map _ (List.range n)).length
      rw [List.length_map, List.length_range]
      exact Nat.le_refl _
theorem wkT_at {vs : List (List Val)} {i : Nat} {r : Mem → Option Wv} {w : Wv} (h : (wkT vs).rs[i]? = some r) (q : r M = some w) : ∃ v, vs[i]? = some v ∧ w = .t v := by
  have h' : (vs.map fun v (_ : Mem) => some (Wv.t v))[i]? = some r := h
  rw [List.getElem?_map] at h'
  cases e : vs[i]? with
  | none => rw [e] at h'; cases h'
  | some v => rw [e] at h'; cases h'; cases q; exact ⟨v, rfl, rfl⟩
theorem enum_at : ∀ {us : List Val} {k i : Nat} {v : List Val}, (enumV k us)[i]? = some v → ∃ u, us[i]? = some u ∧ v = [.d (.int ((k + i : Nat) : Int)), u]
  | [], _, _, _, h => by cases h
  | u :: us, k, 0, v, h => by cases h; exact ⟨u, rfl, rfl⟩
  | u :: us, k, i + 1, v, h => by
    obtain ⟨w, e1, e2⟩ := enum_at (us := us) (k := k + 1) (i := i) h
    refine ⟨w, e1, ?_⟩
    rw [e2, Nat.add_assoc, Nat.add_comm 1 i]
theorem enum_len : ∀ {us : List Val} {k : Nat}, (enumV k us).length = us.length
  | [], _ => rfl
  | _ :: us, k => by rw [enumV, List.length_cons, List.length_cons, enum_len]
theorem wlk_enumD {K : PySem.W.Frag} {ρ0 : Wd} {H0 : Hp} {ds : List D} {a : Addr} (r : RD K fa ρ0 H0 (.lst ds) (.ref a)) : Wlk K fa ρ0 H0 (wkT (enumV 0 (ds.map .d))) (Ite K a) := by
  intro ρ M H g p hm
  cases r.kp g with
  | lst h1 n rs =>
    rename_i vs
    refine ⟨fun i r w e q => ?_, fun _ => ⟨vs, .inl (.inl h1), ?_⟩⟩
    · obtain ⟨v, e1, rfl⟩ := wkT_at e q
      obtain ⟨u, e2, rfl⟩ := enum_at e1
      obtain ⟨x, e3, r2⟩ := rs.vs.get e2
      refine ⟨⟨vs, x, .inl (.inl h1), e3⟩, fun y H' ⟨tp, y', e4, hn, e5, hy⟩ => ?_⟩
      subst e4 e5
      have := hy vs (.inl (.inl h1))
      rw [e3] at this
      cases this
      have gn : Go ρ H ρ (upd H tp (.tup [.int (i : Nat), x])) := go_new hn
      refine ⟨gn, hm.new hn, tp, _, rfl, upd_same, ?_⟩
      rw [Nat.zero_add]
      exact .cons .int (.cons (r2.go gn) .nil)
    · have e : (wkT (enumV 0 (ds.map Val.d))).rs.length = ds.length := by
        show (List.map _ _).length = _
        rw [List.length_map, enum_len, List.length_map]
      rw [e, rs.length]
      exact Nat.le_refl _
theorem zip_at : ∀ {us ws : List Val} {i : Nat} {v : List Val}, (zipV us ws)[i]? = some v → ∃ u w, us[i]? = some u ∧ ws[i]? = some w ∧ v = [u, w]
  | [], _, _, _, h => by unfold zipV at h; simp at h
  | _ :: _, [], _, _, h => by unfold zipV at h; simp at h
  | u :: us, w :: ws, 0, v, h => by cases h; exact ⟨u, w, rfl, rfl, rfl⟩
  | u :: us, w :: ws, i + 1, v, h => by
    obtain ⟨a, b, e1, e2, e3⟩ := zip_at (us := us) (ws := ws) (i := i) h
    exact ⟨a, b, e1, e2, e3⟩
theorem zip_len : ∀ {us ws : List Val}, us.length ≤ (zipV us ws).length ∨ ws.length ≤ (zipV us ws).length
  | [], _ => .inl (Nat.zero_le _)
  | _ :: _, [] => .inr (Nat.zero_le _)
  | _ :: us, _ :: ws => by
    rcases zip_len (us := us) (ws := ws) with h | h
    · exact .inl (by rw [zipV, List.length_cons, List.length_cons]; omega)
    · exact .inr (by rw [zipV, List.length_cons, List.length_cons]; omega)
theorem wlk_zipL {K : PySem.W.Frag} {ρ0 : Wd} {H0 : Hp} {ds es : List D} {a b : Addr} (r : RD K fa ρ0 H0 (.lst ds) (.ref a)) (r' : RD K fa ρ0 H0 (.lst es) (.ref b)) : Wlk K fa ρ0 H0 (wkT (zipV (ds.map .d) (es.map .d))) (Itz K a b) := by
  intro ρ M H g p hm
  cases r.kp g with
  | lst h1 n rs =>
    rename_i vs
    cases r'.kp g with
    | lst h2 n' rs' =>
      rename_i ws
      refine ⟨fun i r w e q => ?_, fun _ => ⟨vs, ws, .inl (.inl h1), .inl (.inl h2), ?_⟩⟩
      · obtain ⟨v, e1, rfl⟩ := wkT_at e q
        obtain ⟨u, w, e2, e2', rfl⟩ := zip_at e1
        obtain ⟨x, e3, r2⟩ := rs.vs.get e2
        obtain ⟨x', e3', r2'⟩ := rs'.vs.get e2'
        refine ⟨⟨vs, ws, x, x', .inl (.inl h1), .inl (.inl h2), e3, e3'⟩, fun y H' ⟨tp, y', z', e4, hn, e5, hy, hy'⟩ => ?_⟩
        subst e4 e5
        have := hy vs (.inl (.inl h1))
        rw [e3] at this
        cases this
        have := hy' ws (.inl (.inl h2))
        rw [e3'] at this
        cases this
        have gn : Go ρ H ρ (upd H tp (.tup [x, x'])) := go_new hn
        exact ⟨gn, hm.new hn, tp, _, rfl, upd_same, .cons (r2.go gn) (.cons (r2'.go gn) .nil)⟩
      · have e : (wkT (zipV (ds.map Val.d) (es.map Val.d))).rs.length = (zipV (ds.map Val.d) (es.map Val.d)).length := by
          show (List.map _ _).length = _
          rw [List.length_map]
        rw [e, ← rs.vs.length, ← rs'.vs.length]
        exact zip_len
theorem wlk_zipT {K : PySem.W.Frag} {ρ0 : Wd} {H0 : Hp} {ds es : List D} {a b : Addr} (r : RD K fa ρ0 H0 (.tup ds) (.ref a)) (r' : RD K fa ρ0 H0 (.tup es) (.ref b)) : Wlk K fa ρ0 H0 (wkT (zipV (ds.map .d) (es.map .d))) (RZ.ItzT K a b) := by
  intro ρ M H g p hm
  cases r.kp g with
  | tup h1 n rs =>
    rename_i vs
    cases r'.kp g with
    | tup h2 n' rs' =>
      rename_i ws
      refine ⟨fun i r w e q => ?_, fun _ => ⟨vs, ws, h1, h2, ?_⟩⟩
      · obtain ⟨v, e1, rfl⟩ := wkT_at e q
        obtain ⟨u, w, e2, e2', rfl⟩ := zip_at e1
        obtain ⟨x, e3, r2⟩ := rs.vs.get e2
        obtain ⟨x', e3', r2'⟩ := rs'.vs.get e2'
        refine ⟨⟨vs, ws, x, x', h1, h2, e3, e3'⟩, fun y H' ⟨tp, y', z', e4, hn, e5, hy, hy'⟩ => ?_⟩
        subst e4 e5
        have := hy vs h1
        rw [e3] at this
        cases this
        have := hy' ws h2
        rw [e3'] at this
        cases this
        have gn : Go ρ H ρ (upd H tp (.tup [x, x'])) := go_new hn
        exact ⟨gn, hm.new hn, tp, _, rfl, upd_same, .cons (r2.go gn) (.cons (r2'.go gn) .nil)⟩
      · have e : (wkT (zipV (ds.map Val.d) (es.map Val.d))).rs.length = (zipV (ds.map Val.d) (es.map Val.d)).length := by
          show (List.map _ _).length = _
          rw [List.length_map]
        rw [e, ← rs.vs.length, ← rs'.vs.length]
        exact zip_len
end
end Rf

namespace Rf
open PySem PySem.Spec PyProof.Rows L2
section
variable {fa : Nat → Addr} {X : Cx} {T : Tab} {nm : Nms} {k : Nat} {C : Cal}
variable {ρ ρ1 : Wd} {H H1 H2 : Hp} {M M' : Mem}
/-! ### what is walked -/
def SndI (fa : Nat → Addr) (X : Cx) (tg pe : Expr) (ev : Slots → Mem → R Wk) : Prop :=
  ∀ s σ ρ M H wk M', SR X.K fa ρ H s σ → HR X.K fa ρ M H → ev s M = .ok wk M' → seI X tg pe σ H (fun J H' => ∃ ρ', Go ρ H ρ' H' ∧ HR X.K fa ρ' M' H' ∧ Wlk X.K fa ρ' H' wk J)
theorem snd_itE {tg e : Expr} {x : Ex} (h : SndE fa X e (evE C x)) : SndI fa X tg e (evIt C (.ex x)) := by
  intro s σ ρ M H wk M' hs hm q
  obtain ⟨u, m1, q1, q⟩ := R.bind_ok q
  have run := h s σ ρ M H u m1 hs hm q1
  cases u with
  | r i =>
    have q' : (match m1[i]? with
      | some (.lst us) => R.ok (wkR i us.length) m1
      | _ => .no) = .ok wk M' := q
    split at q'
    · rename_i us qi
      cases q'
      refine ofI (pi_list (pE e)) (run.thn fun y H1 kf ⟨ρ1, g1, hm1, r1⟩ => ?_)
      obtain ⟨a, vs, e1, rfl, h1, r2⟩ := hm1.lst qi r1
      exact ⟨a, rfl, ⟨vs, .inl (.inl h1)⟩, ρ1, g1, hm1, wlk_place e1⟩
    · cases q'
  | d u =>
    have q' : ((R.opt (items m1 (.d u)) m1).bind fun vs m => .ok (wkL vs) m) = .ok wk M' := q
    obtain ⟨vs, m2, q2, q3⟩ := R.bind_ok q'
    obtain ⟨q4, rfl⟩ := R.opt_ok q2
    cases q3
    cases u with
    | str s =>
      cases q4
      refine ofI (pi_str (pE e)) (run.thn fun y H1 kf ⟨ρ1, g1, hm1, r1⟩ => ?_)
      cases r1 with
      | str hl hc => exact ⟨_, rfl, ρ1, g1, hm1, wlk_str hl hc⟩
    | tup xs =>
      cases q4
      refine ofI (pi_tup (pE e)) (run.thn fun y H1 kf ⟨ρ1, g1, hm1, r1⟩ => ?_)
      have r0 : RD X.K fa ρ1 H1 (.tup xs) y := r1
      cases r1 with
      | tup hx n rs => exact ⟨_, rfl, ⟨_, hx⟩, ρ1, g1, hm1, wlk_tup r0⟩
    | scr ns =>
      cases q4
      refine ofI (pi_list (pE e)) (run.thn fun y H1 kf ⟨ρ1, g1, hm1, r1⟩ => ?_)
      have r0 : RD X.K fa ρ1 H1 (.scr ns) y := r1
      cases r1 with
      | scr hx n => exact ⟨_, rfl, ⟨_, hx⟩, ρ1, g1, hm1, wlk_scr r0⟩
    | lst xs =>
      cases q4
      refine ofI (pi_list (pE e)) (run.thn fun y H1 kf ⟨ρ1, g1, hm1, r1⟩ => ?_)
      have r0 : RD X.K fa ρ1 H1 (.lst xs) y := r1
      cases r1 with
      | lst hx n rs => exact ⟨_, rfl, ⟨_, .inl (.inl hx)⟩, ρ1, g1, hm1, wlk_list r0⟩
    | _ => cases q4
theorem rng_core {C : Cal} {x y : Ex} {s : Slots} {M M' : Mem} {wk : Wk} (q : evIt C (.rng x y) s M = .ok wk M') :
    ∃ i j m1, evE C x s M = .ok (.d (.int i)) m1 ∧ evE C y s m1 = .ok (.d (.int j)) M' ∧ (-(2 ^ 40) ≤ i ∧ i < 2 ^ 40 ∧ -(2 ^ 40) ≤ j ∧ j < 2 ^ 40 ∧ j - i ≤ LINE) ∧ wk = wkL ((List.range (j - i).toNat).map fun (k : Nat) => .d (.int (i + (k : Int)))) := by
  obtain ⟨u, m1, q1, q⟩ := R.bind_ok q
  obtain ⟨w, m2, q2, q⟩ := R.bind_ok q
  unfold rngW at q
  split at q
  · split at q
    · rename_i h
      cases q
      exact ⟨_, _, m1, q1, q2, h, rfl⟩
    · cases q
  · cases q
theorem snd_rng1 {tg b : Expr} {p pos : Pos} {y : Ex} (c : Cok fa X T nm k C) (hx : isFr T nm "range" = true) (hb : okE b = true) (h2 : SndE fa X b (evE C y)) : SndI fa X tg (.Call (.Name "range" p) [b] [] pos) (evIt C (.rng (.con (.int 0)) y)) := by
  intro s σ ρ M H wk M' hs hm q
  obtain ⟨i, j, m1, q1, q2, hh, rfl⟩ := rng_core q
  cases q1
  obtain ⟨g1, g2, g3, g4⟩ := fr_of c hx
  refine ofI (pi_range1 g1 g3 (pA [b]) (ok_star hb _ _)) ?_
  refine (snd_cons hb h2 snd_nil s σ ρ M H [.d (.int j)] M' hs hm (by show (evE C _ s M).bind _ = _; rw [q2]; rfl)).thn fun ys H2 kf2 ⟨ρ2, g2, hm2, r2⟩ => ?_
  cases r2 with
  | cons ry rn =>
    cases rn
    cases ry
    refine ⟨j, rfl, by omega, by omega, ρ2, g2, hm2, ?_⟩
    have := wlk_range (K := X.K) (fa := fa) (ρ0 := ρ2) (H0 := H2) 0 j.toNat
    rw [show (j - 0).toNat = j.toNat by rw [Int.sub_zero]]
    exact this
theorem snd_rng2 {tg a b : Expr} {p pos : Pos} {x y : Ex} (c : Cok fa X T nm k C) (hx : isFr T nm "range" = true) (ha : okE a = true) (hb : okE b = true) (h1 : SndE fa X a (evE C x)) (h2 : SndE fa X b (evE C y)) : SndI fa X tg (.Call (.Name "range" p) [a, b] [] pos) (evIt C (.rng x y)) := by
  intro s σ ρ M H wk M' hs hm q
  obtain ⟨i, j, m1, q1, q2, hh, rfl⟩ := rng_core q
  obtain ⟨g1, g2, g3, g4⟩ := fr_of c hx
  refine ofI (pi_range2 g1 g3 (pA [a, b]) (by rw [ok_star ha, ok_star hb]; rfl) (ok_star hb _ _)) ?_
  refine (snd_cons ha h1 (snd_cons hb h2 snd_nil) s σ ρ M H [.d (.int i), .d (.int j)] M' hs hm (by show (evE C _ s M).bind _ = _; rw [q1]; show ((evE C _ s m1).bind _).bind _ = _; rw [q2]; rfl)).thn fun ys H2 kf2 ⟨ρ2, g2, hm2, r2⟩ => ?_
  cases r2 with
  | cons rx rn =>
    cases rn with
    | cons ry rn =>
      cases rn
      cases rx
      cases ry
      exact ⟨i, j, rfl, by omega, ρ2, g2, hm2, wlk_range i _⟩
theorem wlk_rangeC {K : PySem.W.Frag} {ρ0 : Wd} {H0 : Hp} (lo c : Int) (n : Nat) : Wlk K fa ρ0 H0 (wkL ((List.range n).map fun (k : Nat) => .d (.int (lo + (k : Int) * c)))) (Itc lo c n) := by
  intro ρ M H g p hm
  refine ⟨fun i r w e q => ?_, fun _ => by rw [wkL_len, List.length_map, List.length_range]; exact Nat.le_refl _⟩
  obtain ⟨v, e1, rfl⟩ := wkL_at e q
  rw [List.getElem?_map] at e1
  cases e2 : (List.range n)[i]? with
  | none => rw [e2] at e1; cases e1
  | some j =>
    rw [e2] at e1
    cases e1
    obtain ⟨h1, h2⟩ := List.getElem?_eq_some_iff.mp e2
    rw [List.getElem_range] at h2
    subst h2
    have hin : i < n := by simpa using h1
    refine ⟨hin, fun y H' ⟨e3, e4⟩ => ?_⟩
    subst e3 e4
    exact ⟨Go.refl, hm, .int⟩
theorem rgN_eq {i j c : Int} (h0 : 0 < c.natAbs) : Builtin.Range.rangeSize i j c = (rgN i j c : Int) := by
  unfold Builtin.Range.rangeSize rgN
  have d1 : ∀ a b : Int, 0 ≤ a → 0 < b → 0 ≤ a / b := fun a b h1 h2 => Int.ediv_nonneg h1 (Int.le_of_lt h2)
  by_cases hc : c > 0
  · rw [if_pos hc]
    by_cases h : i < j
    · rw [if_pos h]
      have := d1 (j - i - 1) c (by omega) hc
      omega
    · rw [if_neg h]; rfl
  · rw [if_neg hc]
    by_cases h : i > j
    · rw [if_pos h]
      have := d1 (i - j - 1) (-c) (by omega) (by omega)
      omega
    · rw [if_neg h]; rfl
theorem rg_small {i j c : Int} (hh : -(2 ^ 40) ≤ i ∧ i < 2 ^ 40 ∧ -(2 ^ 40) ≤ j ∧ j < 2 ^ 40 ∧ 0 < c.natAbs ∧ c.natAbs < 2 ^ 30) : Builtin.Range.small i j c = true := by
  obtain ⟨h1, h2, h3, h4, h5, h6⟩ := hh
  have hs := rgN_eq (i := i) (j := j) h5
  have hb : (rgN i j c : Int) ≤ 2 ^ 41 := by
    rw [← hs]
    unfold Builtin.Range.rangeSize
    have dv : ∀ a b : Int, 0 ≤ a → 0 < b → a / b ≤ a := fun a b h1 h2 => Int.ediv_le_self b h1
    by_cases hc : c > 0
    · rw [if_pos hc]
      by_cases h : i < j
      · rw [if_pos h]
        have := dv (j - i - 1) c (by omega) hc
        omega
      · rw [if_neg h]; omega
    · rw [if_neg hc]
      by_cases h : i > j
      · rw [if_pos h]
        have := dv (i - j - 1) (-c) (by omega) (by omega)
        omega
      · rw [if_neg h]; omega
  unfold Builtin.Range.small
  rw [hs]
  by_cases hc : c > 0
  · rw [if_pos hc]
    simp only [Builtin.Range.rangeFitsLong, Bool.and_eq_true, Bool.or_eq_true, decide_eq_true_eq, beq_iff_eq]
    omega
  · rw [if_neg hc]
    simp only [Builtin.Range.rangeFitsLong, Bool.and_eq_true, Bool.or_eq_true, decide_eq_true_eq, beq_iff_eq]
    omega
theorem rng3_core {C : Cal} {x y z : Ex} {s : Slots} {M M' : Mem} {wk : Wk} (q : evIt C (.rng3 x y z) s M = .ok wk M') :
    ∃ i j c m1 m2, evE C x s M = .ok (.d (.int i)) m1 ∧ evE C y s m1 = .ok (.d (.int j)) m2 ∧ evE C z s m2 = .ok (.d (.int c)) M' ∧ (-(2 ^ 40) ≤ i ∧ i < 2 ^ 40 ∧ -(2 ^ 40) ≤ j ∧ j < 2 ^ 40 ∧ 0 < c.natAbs ∧ c.natAbs < 2 ^ 30) ∧ wk = wkL ((List.range (rgN i j c)).map fun (k : Nat) => .d (.int (i + (k : Int) * c))) := by
  obtain ⟨u, m1, q1, q⟩ := R.bind_ok q
  obtain ⟨w, m2, q2, q⟩ := R.bind_ok q
  obtain ⟨t, m3, q3, q⟩ := R.bind_ok q
  unfold rng3W at q
  split at q
  · split at q
    · rename_i h
      cases q
      exact ⟨_, _, _, m1, m2, q1, q2, q3, h, rfl⟩
    · cases q
  · cases q
theorem snd_rng3 {tg a b d : Expr} {p pos : Pos} {x y z : Ex} (c : Cok fa X T nm k C) (hx : isFr T nm "range" = true) (ha : okE a = true) (hb : okE b = true) (hd : okE d = true) (h1 : SndE fa X a (evE C x)) (h2 : SndE fa X b (evE C y)) (h3 : SndE fa X d (evE C z)) : SndI fa X tg (.Call (.Name "range" p) [a, b, d] [] pos) (evIt C (.rng3 x y z)) := by
  intro s σ ρ M H wk M' hs hm q
  obtain ⟨i, j, st, m1, m2, q1, q2, q3, hh, rfl⟩ := rng3_core q
  obtain ⟨g1, g2, g3, g4⟩ := fr_of c hx
  refine ofI (pi_range3 g1 g3 (pA [a, b, d]) (ok_star ha _ _) (by rw [ok_star hb, ok_star hd]; rfl)) ?_
  refine (snd_cons ha h1 (snd_cons hb h2 (snd_cons hd h3 snd_nil)) s σ ρ M H [.d (.int i), .d (.int j), .d (.int st)] M' hs hm (by show (evE C _ s M).bind _ = _; rw [q1]; show ((evE C _ s m1).bind _).bind _ = _; rw [q2]; show (((evE C _ s m2).bind _).bind _).bind _ = _; rw [q3]; rfl)).thn fun ys H2 kf2 ⟨ρ2, g2, hm2, r2⟩ => ?_
  cases r2 with
  | cons rx rn =>
    cases rn with
    | cons ry rn =>
      cases rn with
      | cons rz rn =>
        cases rn
        cases rx
        cases ry
        cases rz
        exact ⟨i, j, st, rgN i j st, rfl, ⟨by omega, by omega, rg_small hh, rgN_eq hh.2.2.2.2.1⟩, ρ2, g2, hm2, wlk_rangeC i st _⟩
theorem isTup_of {tg : Expr} (h : isTupE tg = true) : ∃ es j p, tg = .Tuple es j p := by
  cases tg with
  | Tuple es j p => exact ⟨es, j, p, rfl⟩
  | _ => cases h
theorem snd_enum {tg a : Expr} {p pos : Pos} {x : Ex} (c : Cok fa X T nm k C) (hx : isFr T nm "enumerate" = true) (ht : isTupE tg = true) (ha : okE a = true) (h1 : SndE fa X a (evE C x)) : SndI fa X tg (.Call (.Name "enumerate" p) [a] [] pos) (evIt C (.enum x)) := by
  intro s σ ρ M H wk M' hs hm q
  obtain ⟨es, j, tp, rfl⟩ := isTup_of ht
  obtain ⟨u, m1, q1, q⟩ := R.bind_ok q
  obtain ⟨g1, g2, g3, g4⟩ := fr_of c hx
  refine ofI (pi_enum g1 g3 (pA [a]) (ok_star ha _ _)) ?_
  refine (snd_cons ha h1 snd_nil s σ ρ M H [u] m1 hs hm (by show (evE C _ s M).bind _ = _; rw [q1]; rfl)).thn fun ys H2 kf2 ⟨ρ2, g2, hm2, r2⟩ => ?_
  cases r2 with
  | cons rx rn =>
    cases rn
    cases u with
    | r i =>
      have q' : (match m1[i]? with
        | some (.lst us) => R.ok (wkE i us.length) m1
        | _ => .no) = .ok wk M' := q
      split at q'
      · rename_i us qi
        cases q'
        obtain ⟨a, vs, e1, rfl, h1, r2⟩ := hm2.lst qi rx
        exact ⟨a, vs, rfl, .inl (.inl h1), ρ2, g2, hm2, wlk_placeE e1⟩
      · cases q'
    | d u =>
      have q' : ((R.opt (lstOf m1 (.d u)) m1).bind fun vs m => .ok (wkT (enumV 0 vs)) m) = .ok wk M' := q
      obtain ⟨vs, m2, q2, q3⟩ := R.bind_ok q'
      obtain ⟨q4, rfl⟩ := R.opt_ok q2
      cases q3
      cases u with
      | lst xs =>
        cases q4
        rename_i x' _ _
        have r0 : RD X.K fa ρ2 H2 (.lst xs) x' := rx
        cases rx with
        | lst hx n rs => exact ⟨_, _, rfl, .inl (.inl hx), ρ2, g2, hm2, wlk_enumD r0⟩
      | _ => cases q4
def iZip_ (X : Cx) (fa : Nat → Addr) (ρ : Wd) (H : Hp) (wk : Wk) (M' : Mem) (H1 : Hp) (x y : V) : Prop :=
  ∃ a b xs ys, [x, y] = [V.ref a, .ref b] ∧ ((SqL X.K H1 a xs ∧ SqL X.K H1 b ys ∧ ∃ ρ', Go ρ H ρ' H1 ∧ HR X.K fa ρ' M' H1 ∧ Wlk X.K fa ρ' H1 wk (Itz X.K a b)) ∨ (SqT X.K H1 a xs ∧ SqT X.K H1 b ys ∧ ∃ ρ', Go ρ H ρ' H1 ∧ HR X.K fa ρ' M' H1 ∧ Wlk X.K fa ρ' H1 wk (RZ.ItzT X.K a b)))
theorem snd_zip {tg a b : Expr} {p pos : Pos} {x y : Ex} (c : Cok fa X T nm k C) (hx : isFr T nm "zip" = true) (ht : isTupE tg = true) (ha : okE a = true) (hb : okE b = true) (h1 : SndE fa X a (evE C x)) (h2 : SndE fa X b (evE C y)) : SndI fa X tg (.Call (.Name "zip" p) [a, b] [] pos) (evIt C (.zip x y)) := by
  intro s σ ρ M H wk M' hs hm q
  obtain ⟨es, j, tp, rfl⟩ := isTup_of ht
  obtain ⟨u, m1, q1, q⟩ := R.bind_ok q
  obtain ⟨w, m2, q2, q⟩ := R.bind_ok q
  obtain ⟨g1, g2, g3, g4⟩ := fr_of c hx
  refine ofI (RZ.pi_zipA g1 g3 (pA [a, b]) (ok_star ha _ _) (by rw [ok_star hb]; rfl)) ?_
  refine (snd_cons ha h1 (snd_cons hb h2 snd_nil) s σ ρ M H [u, w] m2 hs hm (by show (evE C _ s M).bind _ = _; rw [q1]; show ((evE C _ s m1).bind _).bind _ = _; rw [q2]; rfl)).thn fun ys H2 kf2 ⟨ρ2, g2, hm2, r2⟩ => ?_
  cases r2 with
  | cons rx rn =>
    cases rn with
    | cons ry rn =>
      cases rn
      have zl : ∀ {xs ys : List D} {x' y' : V}, RD X.K fa ρ2 H2 (.lst xs) x' → RD X.K fa ρ2 H2 (.lst ys) y' → wk = wkT (zipV (xs.map .d) (ys.map .d)) → M' = m2 → iZip_ X fa ρ H wk M' H2 x' y' := by
        intro xs ys x' y' r0 r1 e1 e2
        subst e1 e2
        cases id r0 with
        | lst hx n rs =>
          cases id r1 with
          | lst hy n' rs' => exact ⟨_, _, _, _, rfl, .inl ⟨.inl (.inl hx), .inl (.inl hy), ρ2, g2, hm2, wlk_zipL r0 r1⟩⟩
      have zt : ∀ {xs ys : List D} {x' y' : V}, RD X.K fa ρ2 H2 (.tup xs) x' → RD X.K fa ρ2 H2 (.tup ys) y' → wk = wkT (zipV (xs.map .d) (ys.map .d)) → M' = m2 → iZip_ X fa ρ H wk M' H2 x' y' := by
        intro xs ys x' y' r0 r1 e1 e2
        subst e1 e2
        cases id r0 with
        | tup hx n rs =>
          cases id r1 with
          | tup hy n' rs' => exact ⟨_, _, _, _, rfl, .inr ⟨hx, hy, ρ2, g2, hm2, wlk_zipT r0 r1⟩⟩
      unfold zipW at q
      split at q
      · cases q; exact zl rx ry rfl rfl
      · cases q; exact zt rx ry rfl rfl
      · cases q
/-- what is compiled as a walk -/
theorem snd_cIt {f : Expr → Option Ex} {tg e : Expr} {it : It} (c : Cok fa X T nm k C) (ih : ∀ e x, f e = some x → okE e = true → SndE fa X e (evE C x)) (h : cIt f T nm tg e = some it) : SndI fa X tg e (evIt C it) ∧ okE e = true := by
  have plain : (cE f e).map It.ex = some it → SndI fa X tg e (evIt C it) ∧ okE e = true := by
    intro h
    cases q : cE f e with
    | none => rw [q] at h; cases h
    | some x =>
      rw [q] at h
      cases h
      obtain ⟨k1, k2⟩ := cE_ok q
      exact ⟨snd_itE (ih e x k2 k1), k1⟩
  unfold cIt at h
  split at h
  · split at h
    · rename_i hr
      simp only [Bool.and_eq_true, decide_eq_true_eq] at hr
      obtain ⟨hr, rfl⟩ := hr
      split at h
      · split at h
        · rename_i b q
          cases h
          obtain ⟨k1, k2⟩ := cE_ok q
          exact ⟨snd_rng1 c hr k1 (ih _ _ k2 k1), rfl⟩
        · cases h
      · split at h
        · rename_i q1 q2
          cases h
          obtain ⟨k1, k2⟩ := cE_ok q1
          obtain ⟨k3, k4⟩ := cE_ok q2
          exact ⟨snd_rng2 c hr k1 k3 (ih _ _ k2 k1) (ih _ _ k4 k3), rfl⟩
        · cases h
      · split at h
        · rename_i q1 q2 q3
          cases h
          obtain ⟨k1, k2⟩ := cE_ok q1
          obtain ⟨k3, k4⟩ := cE_ok q2
          obtain ⟨k5, k6⟩ := cE_ok q3
          exact ⟨snd_rng3 c hr k1 k3 k5 (ih _ _ k2 k1) (ih _ _ k4 k3) (ih _ _ k6 k5), rfl⟩
        · cases h
      · cases h
    · split at h
      · rename_i hr
        simp only [Bool.and_eq_true, decide_eq_true_eq] at hr
        obtain ⟨⟨hr, rfl⟩, ht⟩ := hr
        split at h
        · rename_i a
          cases q : cE f a with
          | none => rw [q] at h; cases h
          | some x =>
            rw [q] at h
            cases h
            obtain ⟨k1, k2⟩ := cE_ok q
            exact ⟨snd_enum c hr ht k1 (ih _ _ k2 k1), rfl⟩
        · cases h
      · split at h
        · rename_i hr
          simp only [Bool.and_eq_true, decide_eq_true_eq] at hr
          obtain ⟨⟨hr, rfl⟩, ht⟩ := hr
          split at h
          · split at h
            · rename_i q1 q2
              cases h
              obtain ⟨k1, k2⟩ := cE_ok q1
              obtain ⟨k3, k4⟩ := cE_ok q2
              exact ⟨snd_zip c hr ht k1 k3 (ih _ _ k2 k1) (ih _ _ k4 k3), rfl⟩
            · cases h
          · cases h
        · exact plain h
  · exact plain h
end
end Rf

namespace Rf
open PySem PySem.Spec PyProof.Rows L2
section
variable {fa : Nat → Addr} {X : Cx} {T : Tab} {nm : Nms} {k : Nat} {C : Cal}
variable {ρ ρ1 : Wd} {H H1 H2 : Hp} {M M' : Mem}
theorem seI.thn {tg e : Expr} {σ : L2.St} {H : Hp} {Q Q' : L2.It → Hp → Prop} (h : seI X tg e σ H Q) (q : ∀ v H', KF X.K H' → Q v H' → Q' v H') : seI X tg e σ H Q' := fun pins s I =>
  L2.thn (h pins s I) fun _ _ z => L2.thn z fun _ _ ⟨it, fp, tn, J, H', e, I', a, b, d, r⟩ => ⟨it, fp, tn, J, H', e, I', a, b, d, q _ _ (kf_of I') r⟩
theorem seT.thn' {e : Expr} {σ : L2.St} {H : Hp} {Q Q' : Bool → Hp → Prop} (h : seT X e σ H Q) (q : ∀ v H', Q v H' → Q' v H') : seT X e σ H Q' := h.thn fun v H' _ z => q v H' z

/-! ### a comprehension's block -/
theorem lk_free {sc : Scope} {x : Str} : ∀ {names : List (Str × NameKind)}, names.lookup x = some .free →
    (names.map fun (n, k) => if (k == NameKind.free && sc.kind == .function && sc.names.lookup n == some .cell) then (n, NameKind.cell) else (n, k)).lookup x = some .free ∨
    (names.map fun (n, k) => if (k == NameKind.free && sc.kind == .function && sc.names.lookup n == some .cell) then (n, NameKind.cell) else (n, k)).lookup x = some .cell
  | [], h => by simp at h
  | (n, k₀) :: r, h => by
    have ih := @lk_free sc x r
    show List.lookup x ((if (k₀ == NameKind.free && sc.kind == .function && sc.names.lookup n == some .cell) = true then (n, NameKind.cell) else (n, k₀)) :: (r.map _)) = some .free ∨
      List.lookup x ((if (k₀ == NameKind.free && sc.kind == .function && sc.names.lookup n == some .cell) = true then (n, NameKind.cell) else (n, k₀)) :: (r.map _)) = some .cell
    by_cases hc : (k₀ == NameKind.free && sc.kind == .function && sc.names.lookup n == some .cell) = true
    · rw [if_pos hc]
      cases hx : x == n with
      | true => exact .inr (by simp only [List.lookup_cons, hx])
      | false =>
        simp only [List.lookup_cons, hx] at h ⊢
        exact ih h
    · rw [if_neg hc]
      cases hx : x == n with
      | true =>
        simp only [List.lookup_cons, hx] at h ⊢
        exact .inl h
      | false =>
        simp only [List.lookup_cons, hx] at h ⊢
        exact ih h
abbrev Bk (X : Cx) (sc : Scope) (s : Shared) (H : Hp) (cl : List (Str × Addr)) (C0 : Addr) (fp : List Addr) : Cx := X.blk s H sc (compEnvC sc cl C0 X.env) fp
theorem Cok.blk (c : Cok fa X T nm k C) {sc : Scope} (s : Shared) (H : Hp) (C0 : Addr) (cl : List (Str × Addr)) (fp : List Addr) : Cok fa (Bk X sc s H cl C0 fp) T sc.names k C := by
  refine ⟨c.calm, c.nd, c.N, c.rm, c.k1, fun x kd h n => ?_, fun x h => ?_, c.fn, c.gl, c.fr, fun x h => ?_⟩
  · exact lookup_relS_keep n h
  · exact lk_free h
  · show (sc.names.lookup x == some .cell) = true
    rw [h]; rfl
theorem ixIn_none {x : Str} : ∀ {N : List Str}, ixIn x N = none → x ∉ N
  | [], _ => by simp
  | y :: r, h => by
    unfold ixIn at h
    by_cases e : x = y
    · rw [if_pos e] at h; cases h
    · rw [if_neg e] at h
      have h' := ixIn_none (Option.map_eq_none_iff.mp h)
      simp [e, h']
theorem own_ok : ∀ {names : Nms} {own : List (Str × Nat)}, ownOf T names = some own → (∀ p ∈ own, ixIn p.1 T.N = some p.2) ∧ (∀ y ∈ names, y.2 = .local ∨ y.2 = .cell → (∃ i, (y.1, i) ∈ own) ∨ ixIn y.1 T.N = none)
  | [], own, h => by cases h; exact ⟨fun _ h => (by cases h), fun _ h => (by cases h)⟩
  | (x, kd) :: r, own, h => by
    have stp : (match ixIn x T.N with
      | some i => (ownOf T r).map fun l => (x, i) :: l
      | none => ownOf T r) = some own → (∀ p ∈ own, ixIn p.1 T.N = some p.2) ∧ (∀ y ∈ (x, kd) :: r, y.2 = .local ∨ y.2 = .cell → (∃ i, (y.1, i) ∈ own) ∨ ixIn y.1 T.N = none) := by
      intro h
      split at h
      · rename_i i h1
        obtain ⟨l, h2, rfl⟩ := Option.map_eq_some_iff.mp h
        obtain ⟨a, b⟩ := own_ok h2
        refine ⟨fun p hp => ?_, fun y hy hk => ?_⟩
        · rcases List.mem_cons.mp hp with rfl | hp
          · exact h1
          · exact a p hp
        · rcases List.mem_cons.mp hy with rfl | hy
          · exact .inl ⟨i, List.mem_cons_self⟩
          · rcases b y hy hk with ⟨j, hj⟩ | hj
            · exact .inl ⟨j, List.mem_cons_of_mem _ hj⟩
            · exact .inr hj
      · rename_i h1
        obtain ⟨a, b⟩ := own_ok h
        refine ⟨a, fun y hy hk => ?_⟩
        rcases List.mem_cons.mp hy with rfl | hy
        · exact .inr h1
        · exact b y hy hk
    have skip : ownOf T r = some own → (kd ≠ .local ∧ kd ≠ .cell) → (∀ p ∈ own, ixIn p.1 T.N = some p.2) ∧ (∀ y ∈ (x, kd) :: r, y.2 = .local ∨ y.2 = .cell → (∃ i, (y.1, i) ∈ own) ∨ ixIn y.1 T.N = none) := by
      intro h n
      obtain ⟨a, b⟩ := own_ok h
      refine ⟨a, fun y hy hk => ?_⟩
      rcases List.mem_cons.mp hy with rfl | hy
      · rcases hk with hk | hk
        · exact absurd hk n.1
        · exact absurd hk n.2
      · exact b y hy hk
    cases kd with
    | «local» => exact stp h
    | cell => exact stp h
    | _ => exact skip h ⟨by decide, by decide⟩
theorem blk_ok (c : Cok fa X T nm k C) {sc : Scope} {own : List (Str × Nat)} (ho : ownOf T sc.names = some own) (hb : blkB T nm sc = true) : BlkOk X.N X.env.scope sc own := by
  obtain ⟨a, b⟩ := own_ok ho
  unfold blkB at hb
  simp only [Bool.and_eq_true, decide_eq_true_eq, List.all_eq_true] at hb
  obtain ⟨⟨hk, hu⟩, hf⟩ := hb
  refine ⟨hk, hu, fun p hp => by rw [c.N]; exact ixIn_at (a p hp), fun y hy e => ?_, fun y hy e => ?_⟩
  · have := hf y hy
    rw [e] at this
    simp only at this
    split at this
    · rename_i q; exact .inl (c.na _ _ q (by decide))
    · rename_i q
      rcases c.nf _ q with z | z
      · exact .inr z
      · exact .inl z
    · cases this
  · rcases b y hy e with ⟨i, hi⟩ | hi
    · exact .inl (List.mem_map.mpr ⟨_, hi, rfl⟩)
    · rw [c.N]
      exact .inr (ixIn_none hi)
theorem tgs_own {sc : Scope} {own : List (Str × Nat)} (ho : ownOf T sc.names = some own) : ∀ {x : Str} {i : Nat}, slotS T sc.names x = some i → i ∈ own.map (·.2) := by
  intro x i h
  obtain ⟨a, b⟩ := own_ok ho
  have fin : ∀ kd, sc.names.lookup x = some kd → (kd = .local ∨ kd = .cell) → ixIn x T.N = some i → i ∈ own.map (·.2) := by
    intro kd e hk hi
    obtain ⟨j, hj⟩ : ∃ j, (x, j) ∈ own := (b (x, kd) (PySem.mem_of_lookup e) hk).resolve_right (by rw [hi]; exact fun z => nomatch z)
    have := a _ hj
    have e2 : ixIn x T.N = some j := this
    rw [hi] at e2
    cases e2
    exact List.mem_map.mpr ⟨_, hj, rfl⟩
  unfold slotS at h
  split at h
  · rename_i e; exact fin _ e (.inl rfl) h
  · rename_i e; exact fin _ e (.inr rfl) h
  · cases h
theorem tg_own {sc : Scope} {own : List (Str × Nat)} (ho : ownOf T sc.names = some own) {e : Expr} {t : Tg} (h : cTg T sc.names e = some t) : ∀ i ∈ tgIx t, i ∈ own.map (·.2) := by
  have one : ∀ {e : Expr} {t : Tg}, cT T sc.names e = some t → ∀ i ∈ tgIx t, i ∈ own.map (·.2) := by
    intro e t h
    cases e with
    | Name x p =>
      have h' : (slotS T sc.names x).map Tg.nm = some t := h
      cases q : slotS T sc.names x with
      | none => rw [q] at h'; cases h'
      | some i =>
        rw [q] at h'
        cases h'
        intro j hj
        have : j = i := by simpa [tgIx] using hj
        rw [this]
        exact tgs_own ho q
    | _ => cases h
  have many : ∀ {es : List Expr} {ts : Tgs}, cTs T sc.names es = some ts → ∀ i ∈ tgIxs ts, i ∈ own.map (·.2) := by
    intro es
    induction es with
    | nil => intro ts h; cases h; intro i hi; simp [tgIxs] at hi
    | cons e r ih =>
      intro ts h
      unfold cTs at h
      split at h
      · rename_i a b h1 h2
        cases h
        intro i hi
        simp only [tgIxs, List.mem_append] at hi
        rcases hi with hi | hi
        · exact one h1 i hi
        · exact ih h2 i hi
      · cases h
  cases e with
  | Name x p => exact one (e := .Name x p) h
  | Tuple es j p =>
    have h' : (cTs T sc.names es).map Tg.tup = some t := h
    cases q : cTs T sc.names es with
    | none => rw [q] at h'; cases h'
    | some ts =>
      rw [q] at h'
      cases h'
      intro i hi
      exact many q i (by simpa [tgIx] using hi)
  | _ => cases h

/-! ### readings for all blocks -/
def gB (X : Cx) (sc : Scope) (tg : Expr) : TG := fun v σ H Q => ∀ s0 H0 C0 cl fp, seG (Bk X sc s0 H0 cl C0 fp) tg v σ H Q
def eB (X : Cx) (sc : Scope) (e : Expr) : TE := fun σ H Q => ∀ s0 H0 C0 cl fp, seE (Bk X sc s0 H0 cl C0 fp) e σ H Q
def tB (X : Cx) (sc : Scope) : List Expr → TT
  | [] => tYes
  | [c] => fun σ H Q => ∀ s0 H0 C0 cl fp, seT (Bk X sc s0 H0 cl C0 fp) c σ H Q
  | _ => fun _ _ _ => False
theorem gB_ok {sc : Scope} {tg : Expr} (s0 : Shared) (H0 : Hp) (C0 : Addr) (cl : List (Str × Addr)) (fp : List Addr) : PG (Bk X sc s0 H0 cl C0 fp) tg (gB X sc tg) := ⟨fun pins s _ _ _ u _ I r h => h s0 H0 C0 cl fp pins s u I r⟩
theorem eB_ok {sc : Scope} {e : Expr} (s0 : Shared) (H0 : Hp) (C0 : Addr) (cl : List (Str × Addr)) (fp : List Addr) : PE (Bk X sc s0 H0 cl C0 fp) e (eB X sc e) := ⟨fun pins s _ _ _ I h => h s0 H0 C0 cl fp pins s I⟩
theorem tB_ok {sc : Scope} {ifs : List Expr} (s0 : Shared) (H0 : Hp) (C0 : Addr) (cl : List (Str × Addr)) (fp : List Addr) : PTs (Bk X sc s0 H0 cl C0 fp) ifs (tB X sc ifs) := by
  match ifs with
  | [] => exact pts_nil
  | [c] => exact pts_one ⟨fun pins s _ _ _ I h => h s0 H0 C0 cl fp pins s I⟩
  | _ :: _ :: _ => exact ⟨fun _ _ _ _ _ _ h => h.elim⟩

/-- a turn -/
def fB (C : Cal) (s : Slots) (own : List Nat) (tg : Tg) (c e : Ex) (v : Wv) (m : Mem) : R (Option Val) := match asgW m tg v (wipeS s own) with
  | some s' => (evE C c s' m).bind fun k m => match truth m k with
    | some true => (evE C e s' m).bind fun y m => .ok (some y) m
    | some false => .ok none m
    | none => .no
  | none => .no
theorem fB_ok {C : Cal} {s : Slots} {own : List Nat} {tg : Tg} {c e : Ex} {v : Wv} {m m' : Mem} {o : Option Val} (h : fB C s own tg c e v m = .ok o m') :
    ∃ s' t m1, asgW m tg v (wipeS s own) = some s' ∧ evE C c s' m = .ok t m1 ∧ ((truth m1 t = some true ∧ ∃ y, evE C e s' m1 = .ok y m' ∧ o = some y) ∨ (truth m1 t = some false ∧ o = none ∧ m' = m1)) := by
  unfold fB at h
  split at h
  · rename_i s' q
    obtain ⟨t, m1, q1, h⟩ := R.bind_ok h
    refine ⟨s', t, m1, q, q1, ?_⟩
    split at h
    · rename_i q2
      obtain ⟨y, m2, q3, h⟩ := R.bind_ok h
      cases h
      exact .inl ⟨q2, y, q3, rfl⟩
    · rename_i q2
      cases h
      exact .inr ⟨q2, rfl, rfl⟩
    · cases h
  · cases h
theorem compL_cons {f : Wv → Mem → R (Option Val)} {fin : Mem → Bool} {r : Mem → Option Wv} {rs : List (Mem → Option Wv)} {acc res : List Val} {m m' : Mem} (h : compL f fin (r :: rs) acc m = .ok res m') :
    ∃ w o m1, r m = some w ∧ f w m = .ok o m1 ∧ ((∃ y, o = some y ∧ acc.length < LINE ∧ compL f fin rs (acc ++ [y]) m1 = .ok res m') ∨ (o = none ∧ compL f fin rs acc m1 = .ok res m')) := by
  unfold compL at h
  split at h
  · cases h
  · rename_i w q
    obtain ⟨o, m1, q1, h⟩ := R.bind_ok h
    refine ⟨w, o, m1, q, q1, ?_⟩
    cases o with
    | none => exact .inr ⟨rfl, h⟩
    | some y =>
      have h' : (if acc.length < LINE then compL f fin rs (acc ++ [y]) m1 else .no) = .ok res m' := h
      split at h'
      · rename_i hl; exact .inl ⟨y, rfl, hl, h'⟩
      · cases h'
theorem compL_nil {f : Wv → Mem → R (Option Val)} {fin : Mem → Bool} {acc res : List Val} {m m' : Mem} (h : compL f fin [] acc m = .ok res m') : fin m = true ∧ res = acc ∧ m' = m := by
  unfold compL at h
  split at h
  · cases h; exact ⟨by assumption, rfl, rfl⟩
  · cases h
theorem drop_cons {α : Type} {l : List α} {i : Nat} (h : i < l.length) : ∃ x, l[i]? = some x ∧ l.drop i = x :: l.drop (i + 1) := ⟨l[i], List.getElem?_eq_getElem h, List.drop_eq_getElem_cons h⟩
theorem drop_end {α : Type} {l : List α} {i : Nat} (h : ¬ i < l.length) : l.drop i = [] := List.drop_of_length_le (by omega)

theorem tB_thn {sc : Scope} {ifs : List Expr} {σ : L2.St} {H : Hp} {Q Q' : Bool → Hp → Prop} (h : tB X sc ifs σ H Q) (q : ∀ b H', Q b H' → Q' b H') : tB X sc ifs σ H Q' := by
  match ifs with
  | [] => exact q _ _ h
  | [c] => exact fun s0 H0 C0 cl fp => seT.thn (h s0 H0 C0 cl fp) fun b H' _ z => q b H' z
  | _ :: _ :: _ => exact h.elim
theorem go_step {ρ' : Wd} {D : Addr} {o : HO} (g : Go ρ H ρ' H1) (hD : H D = none) : Go ρ H ρ' (upd H1 D o) := by
  refine ⟨g.gr, g.zz, fun b x e n => ?_, fun b e => ?_⟩
  · rw [upd_ne (fun z => by rw [z, hD] at e; cases e)]
    exact g.fr b x e n
  · by_cases z : b = D
    · rw [z, upd_same]; simp
    · rw [upd_ne z]; exact g.dm b e
theorem go_take {l zs : List Addr} {D : Addr} (g : Go ρ H ⟨l, zs⟩ H1) (hD : H D = none) : Go ρ H ⟨l ++ [D], zs⟩ H1 := by
  obtain ⟨⟨n, e, h⟩, z, f, d⟩ := g
  refine ⟨⟨n ++ [D], ?_, fun a ha => ?_⟩, z, f, d⟩
  · show l ++ [D] = ρ.l ++ (n ++ [D])
    have e' : l = ρ.l ++ n := e
    rw [e', List.append_assoc]
  · rcases List.mem_append.mp ha with ha | ha
    · exact h a ha
    · have e : a = D := by simpa using ha
      rw [e]; exact hD

/-- what stays between the turns -/
def LcW (K : PySem.W.Frag) (fa : Nat → Addr) (f : Wv → Mem → R (Option Val)) (wk : Wk) (ρ1 : Wd) (H1 : Hp) (D : Addr) (acc : List Val) (m2 : Mem) (i n : Nat) (H : Hp) : Prop :=
  ∃ l M ac vs, Go ρ1 H1 ⟨l, ρ1.z⟩ H ∧ D ∉ l ∧ H D = some (.lst vs) ∧ HR K fa ⟨l, D :: ρ1.z⟩ M H ∧ RVs K fa ⟨l, D :: ρ1.z⟩ H ac vs ∧ i ≤ wk.rs.length ∧ n = wk.rs.length - i ∧ compL f wk.fin (wk.rs.drop i) ac M = .ok acc m2
theorem lc_core {tg it elt : Expr} {ifs : List Expr} {sc : Scope} {own : List Nat} {t : Tg} {xi : It} {xc xe : Ex} {z : Bool} (hi : SndI fa X tg it (evIt C xi))
    (hg : ∀ s0 H0 C0 cl fp {ρ : Wd} {M : Mem} {H : Hp} {s s' : Slots} {σ : L2.St} {w : Wv} {x : V}, SR X.K fa ρ H s σ → HR X.K fa ρ M H → WV X.K fa ρ H w x → asgW M t w s = some s' → seG (Bk X sc s0 H0 cl C0 fp) tg x σ H (TgQ fa X ρ H s' own σ))
    (hc : ∀ s σ ρ M H v M' b, SR X.K fa ρ H s σ → HR X.K fa ρ M H → evE C xc s M = .ok v M' → truth M' v = some b → tB X sc ifs σ H (PoT X.K fa ρ H b M'))
    (he : ∀ s0 H0 C0 cl fp, SndE fa (Bk X sc s0 H0 cl C0 fp) elt (evE C xe))
    {s : Slots} {σ : L2.St} {ρ : Wd} {M : Mem} {H : Hp} {v : Val} {M' : Mem} (hs : SR X.K fa ρ H s σ) (hm : HR X.K fa ρ M H) (q : evE C (.cmpr z own t xi xc xe) s M = .ok v M') {Q : VK} (fin : ∀ x H', PoE X.K fa ρ H v M' x H' → Q x H') :
    tLc (seI X tg it) (gB X sc tg) (tB X sc ifs) (eB X sc elt) own σ H Q := by
  obtain ⟨wk, m1, q1, q⟩ := R.bind_ok q
  obtain ⟨acc, m2, q2, q⟩ := R.bind_ok q
  have q2 : compL (fB C s own t xc xe) wk.fin wk.rs [] m1 = .ok acc m2 := q2
  refine (hi s σ ρ M H wk m1 hs hm q1).thn fun J H1 kf ⟨ρ1, g1, hm1, wl⟩ => fun D hD => ?_
  have hs1 := hs.go g1
  refine ⟨LcW X.K fa (fB C s own t xc xe) wk ρ1 H1 D acc m2, ⟨wk.rs.length, ρ1.l, m1, [], [], go_new hD, (hm1.out hD).1, upd_same, hm1.hide hD, .nil, Nat.zero_le _, rfl, q2⟩, ?_⟩
  rintro i n H2 ⟨l, M2, ac, vs, g2, hDl, hDv, hm2, rs2, hi2, rfl, q3⟩
  -- from the walk's start to here, D hidden
  have k0 : Kp ρ1 H1 ⟨l, D :: ρ1.z⟩ H2 := ⟨fun p o e w => by
    have h := g2.kp.rd p o e w
    have ne : p ≠ D := fun z => by rw [z, hD] at e; cases e
    exact ⟨h.1, h.2.1, fun m => (List.mem_cons.mp m).elim ne w.2⟩⟩
  have p0 : Pl ρ1 ⟨l, D :: ρ1.z⟩ := fun i a e => g2.pl i a e
  have wl2 := wl ⟨l, D :: ρ1.z⟩ M2 H2 k0 p0 hm2
  have hs2 : SR X.K fa ⟨l, D :: ρ1.z⟩ H2 s σ := hs1.kp k0 p0
  by_cases hlt : i < wk.rs.length
  · obtain ⟨r, er, ed⟩ := drop_cons hlt
    rw [ed] at q3
    obtain ⟨w, o, m3, q4, q5, q6⟩ := compL_cons q3
    obtain ⟨go, yl⟩ := wl2.1 i r w er q4
    refine .inr ⟨go, fun H' => ∃ m', m' < wk.rs.length - i ∧ LcW X.K fa (fB C s own t xc xe) wk ρ1 H1 D acc m2 (i + 1) m' H', fun H' h => h, fun x H3 y3 => ?_⟩
    obtain ⟨g3, hm3, wv3⟩ := yl x H3 y3
    obtain ⟨s', tv, m4, q7, q8, q9⟩ := fB_ok q5
    intro s0 H0 C0 cl fp
    refine (hg s0 H0 C0 cl fp (wipe_sr (hs2.go g3) own) hm3 wv3 q7).thn fun σ4 H4 ⟨e4, hs4, w4⟩ => ?_
    subst e4
    have D3 : H4 D = some (.lst vs) := g3.fr _ _ hDv hDl
    refine ⟨?_, ?_⟩
    · rw [w4 own fun _ h => h]
      have idem : ∀ vs : List Nat, (∀ i ∈ vs, ∀ x, (L2.wipe σ vs)[i]? = some (some x) → False) := fun vs i hi x e => (L2.wipe_some e).2 hi
      have : ∀ (τ : L2.St) (ws : List Nat), (∀ i ∈ ws, τ[i]? = some none ∨ τ[i]? = none) → L2.wipe τ ws = τ := by
        intro τ ws
        induction ws with
        | nil => intro _; rfl
        | cons a as ih =>
          intro h
          show (L2.wipe τ as).set a none = τ
          rw [ih fun i hi => h i (List.mem_cons_of_mem _ hi)]
          rcases h a List.mem_cons_self with e | e
          · obtain ⟨h1, h2⟩ := List.getElem?_eq_some_iff.mp e
            rw [← h2]
            exact List.set_getElem_self h1
          · exact List.set_eq_of_length_le (List.getElem?_eq_none_iff.mp e)
      refine this _ own fun i hi => ?_
      cases e : (L2.wipe σ own)[i]? with
      | none => exact .inr rfl
      | some o =>
        cases o with
        | none => exact .inl rfl
        | some x => exact (idem own i hi x e).elim
    -- the test
    have hmz := hm3
    have run : ∀ b, truth m4 tv = some b → (∀ b' H5, PoT X.K fa ⟨l, D :: ρ1.z⟩ H4 b m4 b' H5 → if b' = true then eB X sc elt σ4 H5 (fun y H4 => ∃ av, H4 D = some (.lst av) ∧ av.length < sizeLine ∧ (fun H' => ∃ m', m' < wk.rs.length - i ∧ LcW X.K fa (fB C s own t xc xe) wk ρ1 H1 D acc m2 (i + 1) m' H') (upd H4 D (.lst (av ++ [y])))) else (fun H' => ∃ m', m' < wk.rs.length - i ∧ LcW X.K fa (fB C s own t xc xe) wk ρ1 H1 D acc m2 (i + 1) m' H') H5) → _ := fun b hb fin => tB_thn (hc s' σ4 _ _ H4 tv m4 b hs4 hm3 q8 hb) fin
    rcases q9 with ⟨tr, y, q10, rfl⟩ | ⟨tr, rfl, rfl⟩
    · refine run true tr fun b' H5 ⟨ρ5, g5, hm5, eb⟩ => ?_
      subst eb
      rw [if_pos rfl]
      obtain ⟨l5, z5⟩ := ρ5
      have ez : z5 = D :: ρ1.z := g5.zz
      subst ez
      have D5n : D ∉ l5 := g5.nl hDl (by rw [D3]; simp)
      have D5 : H5 D = some (.lst vs) := g5.fr _ _ D3 hDl
      intro s0 H0 C0 cl fp
      refine (he s0 H0 C0 cl fp s' σ4 _ m4 H5 y m3 (hs4.go g5) hm5 q10).thn fun yv H6 _ ⟨ρ6, g6, hm6, r6⟩ => ?_
      obtain ⟨l6, z6⟩ := ρ6
      have ez : z6 = D :: ρ1.z := g6.zz
      subst ez
      have D6n : D ∉ l6 := g6.nl D5n (by rw [D5]; simp)
      have D6 : H6 D = some (.lst vs) := g6.fr _ _ D5 D5n
      rcases q6 with ⟨y', ey, hl6, q11⟩ | ⟨ey, _⟩
      · cases ey
        refine ⟨vs, D6, by rw [← rs2.length, ← line_eq]; exact hl6, wk.rs.length - (i + 1), by omega, l6, m3, ac ++ [y], vs ++ [yv], ?_, D6n, upd_same, ?_, ?_, hlt, rfl, q11⟩
        · exact go_step (g2.trans ((g3.trans (g5.trans g6)).drop)) hD
        · exact hm6.step List.mem_cons_self D6n
        · exact ((((rs2.go g3).go g5).go g6).append (.cons r6 .nil)).kp (kp_step List.mem_cons_self) fun i a e => e
      · cases ey
    · refine run false tr fun b' H5 ⟨ρ5, g5, hm5, eb⟩ => ?_
      subst eb
      rw [if_neg Bool.false_ne_true]
      obtain ⟨l5, z5⟩ := ρ5
      have ez : z5 = D :: ρ1.z := g5.zz
      subst ez
      have D5n : D ∉ l5 := g5.nl hDl (by rw [D3]; simp)
      have D5 : H5 D = some (.lst vs) := g5.fr _ _ D3 hDl
      rcases q6 with ⟨y', ey, _⟩ | ⟨_, q11⟩
      · cases ey
      · exact ⟨wk.rs.length - (i + 1), by omega, l5, m3, ac, vs, g2.trans ((g3.trans g5).drop), D5n, D5, hm5, (rs2.go g3).go g5, hlt, rfl, q11⟩
  · rw [drop_end hlt] at q3
    obtain ⟨hf, ea, em⟩ := compL_nil q3
    have hie : i = wk.rs.length := by omega
    subst hie
    subst ea em
    refine .inl ⟨wl2.2 hf, ?_⟩
    cases z with
    | true =>
      have e' : (match datas acc with
        | some ds => R.ok (Val.d (.lst ds)) m2
        | none => .no) = .ok v M' := q
      split at e'
      · rename_i ds qd
        cases e'
        exact fin _ _ ⟨⟨l, ρ1.z⟩, g1.trans g2, hm2.shown, .lst hDv ⟨hDl, (hm1.out hD).2⟩ ((RVs.ds rs2 qd).kp kp_show)⟩
      · cases e'
    | false =>
      cases q
      refine fin _ _ ⟨⟨l ++ [D], ρ1.z⟩, g1.trans (go_take g2 hD), hm2.adopt kp_take rfl (fun _ _ => rfl) hDv hDl (fun a m => hm2.zr a (List.mem_cons_of_mem _ m)) (rs2.kp kp_take fun i a e => ?_), D, ?_, rfl⟩
      · show (l ++ [D])[i]? = some a
        rw [List.getElem?_append_left (by exact (List.getElem?_eq_some_iff.mp e).1)]
        exact e
      · show (l ++ [D])[m2.length]? = some D
        rw [← hm2.len, List.getElem?_append_right (Nat.le_refl _), Nat.sub_self]
        rfl
theorem snd_lc {tg it elt : Expr} {ifs : List Expr} {sc : Scope} {own : List (Str × Nat)} {t : Tg} {xi : It} {xc xe : Ex} {z : Bool} {pos : Pos} (c : Cok fa X T nm k C) (hi : SndI fa X tg it (evIt C xi)) (hk : okE it = true) (ok : BlkOk X.N X.env.scope sc own)
    (hg : ∀ s0 H0 C0 cl fp {ρ : Wd} {M : Mem} {H : Hp} {s s' : Slots} {σ : L2.St} {w : Wv} {x : V}, SR X.K fa ρ H s σ → HR X.K fa ρ M H → WV X.K fa ρ H w x → asgW M t w s = some s' → seG (Bk X sc s0 H0 cl C0 fp) tg x σ H (TgQ fa X ρ H s' (own.map (·.2)) σ))
    (hc : ∀ s σ ρ M H v M' b, SR X.K fa ρ H s σ → HR X.K fa ρ M H → evE C xc s M = .ok v M' → truth M' v = some b → tB X sc ifs σ H (PoT X.K fa ρ H b M'))
    (he : ∀ s0 H0 C0 cl fp, SndE fa (Bk X sc s0 H0 cl C0 fp) elt (evE C xe)) :
    SndE fa X (.ListComp elt [⟨tg, it, ifs, 0⟩] sc pos) (evE C (.cmpr z (own.map (·.2)) t xi xc xe)) := by
  intro s σ ρ M H v M' hs hm q
  exact ofE (pe_lc c.calm c.nd (pI tg it) ok (fun s0 H0 C0 cl fp => gB_ok s0 H0 C0 cl fp) (fun s0 H0 C0 cl fp => tB_ok s0 H0 C0 cl fp) (fun s0 H0 C0 cl fp => eB_ok s0 H0 C0 cl fp) (ok_fold hk X.env)) (lc_core hi hg hc he hs hm q fun _ _ z => z)
end
end Rf

namespace Rf
open PySem PySem.Spec PyProof.Rows L2
section
variable {fa : Nat → Addr} {T : Tab} {k : Nat} {C : Cal}
theorem pt_ite {X : Cx} {c a b : Expr} {tc ta tb : TT} {pos : Pos} (hc : PT X c tc) (ha : PT X a ta) (hb : PT X b tb) : PT X (.IfExp c a b pos) (fun σ H Q => tc σ H fun t H1 => if t = true then ta σ H1 Q else tb σ H1 Q) := ⟨fun pins s σ H Q I h => by
  show wpAny _ _ (isTrue c X.env (eval c X.env) >>= fun t => if t = true then isTrue a X.env (eval a X.env) else isTrue b X.env (eval b X.env)) _ _ _
  refine wpAny_bind (L2.thn (hc.run pins s σ H _ I h) fun d s1 ⟨H1, I1, q1⟩ => ?_)
  cases d with
  | true => exact ha.run pins s1 σ H1 Q I1 q1
  | false => exact hb.run pins s1 σ H1 Q I1 q1⟩
theorem tst_ite {X : Cx} {c a b : Expr} {p : Pos} {z x y : Ex} (h0 : SndT fa X c (evE C z)) (h1 : SndT fa X a (evE C x)) (h2 : SndT fa X b (evE C y)) : SndT fa X (.IfExp c a b p) (evE C (.ite z x y)) := by
  intro s σ ρ M H v M' tb hs hm q tr
  obtain ⟨u, m1, q1, q⟩ := ite_core q
  rcases q with ⟨t, q⟩ | ⟨t, q⟩
  · refine ofT (pt_ite (pT c) (pT a) (pT b)) ((h0 s σ ρ M H u m1 true hs hm q1 t).thn fun z H1 kf ⟨ρ1, g1, hm1, r1⟩ => ?_)
    subst r1
    rw [if_pos rfl]
    exact (h1 s σ ρ1 m1 H1 v M' tb (hs.go g1) hm1 q tr).thn fun z H2 _ po => po.back g1
  · refine ofT (pt_ite (pT c) (pT a) (pT b)) ((h0 s σ ρ M H u m1 false hs hm q1 t).thn fun z H1 kf ⟨ρ1, g1, hm1, r1⟩ => ?_)
    subst r1
    rw [if_neg Bool.false_ne_true]
    exact (h2 s σ ρ1 m1 H1 v M' tb (hs.go g1) hm1 q tr).thn fun z H2 _ po => po.back g1
theorem snd_one {X : Cx} {a : Expr} {op : BoolOp} {p : Pos} {x : Ex} (h : SndE fa X a (evE C x)) : SndE fa X (.BoolOp op [a] p) (evE C x) := by
  intro s σ ρ M H v M' hs hm q
  exact h s σ ρ M H v M' hs hm q
theorem cL_one {f : Expr → Option Ex} {e : Expr} {xs : Exs} (h : cL f [e] = some xs) : ∃ y, cE f e = some y ∧ xs = .cons y .nil := by
  have h' : (match cE f e, (some Exs.nil : Option Exs) with
    | some a, some b => some (Exs.cons a b)
    | _, _ => none) = some xs := h
  split at h'
  · rename_i a b q1 q2
    cases q2
    cases h'
    exact ⟨_, q1, rfl⟩
  · cases h'
theorem cIf_ok {f : Expr → Option Ex} {ifs : List Expr} {x : Ex} (h : cIf f ifs = some x) : (ifs = [] ∧ x = .con (.bl true)) ∨ ∃ c, ifs = [c] ∧ cE f c = some x := by
  match ifs, h with
  | [], h => cases h; exact .inl ⟨rfl, rfl⟩
  | [c], h => exact .inr ⟨c, rfl, h⟩
  | _ :: _ :: _, h => cases h
theorem notC0_of {o : Expr} (h : ∀ id p q, o = .Call (.Name id p) [] [] q → False) : notC0 o = true := by
  unfold notC0
  split
  · exact (h _ _ _ rfl).elim
  · rfl
/-- both readings -/
def Snd (fa : Nat → Addr) (C : Cal) (X : Cx) (e : Expr) (x : Ex) : Prop := SndE fa X e (evE C x) ∧ SndT fa X e (evE C x)
theorem Snd.val {X : Cx} {e : Expr} {x : Ex} (ht : tvE e = true) (h : SndE fa X e (evE C x)) : Snd fa C X e x := ⟨h, tst_val ht h⟩
theorem snd_bool {X : Cx} {f : Expr → Option Ex} {op : BoolOp} {p : Pos} (ih : ∀ e x, f e = some x → okE e = true → Snd fa C X e x) : ∀ {es : List Expr} {x : Ex}, cBool f op es = some x → SndE fa X (.BoolOp op es p) (evE C x) ∧ SndW fa X (.BoolOp op es p) (evE C x)
  | [], x, h => by cases h
  | [e], x, h => by
    obtain ⟨k1, k2⟩ := cE_ok (show cE f e = some x from h)
    obtain ⟨a, b⟩ := ih e x k2 k1
    exact ⟨snd_one a, tst_one b⟩
  | e :: e2 :: r, x, h => by
    have h' : (match cE f e, cBool f op (e2 :: r) with
      | some a, some b => some (bEx op a b)
      | _, _ => none) = some x := h
    split at h'
    · rename_i a b q1 q2
      cases h'
      obtain ⟨k1, k2⟩ := cE_ok q1
      obtain ⟨a1, a2⟩ := ih e a k2 k1
      obtain ⟨b1, b2⟩ := snd_bool ih q2
      cases op with
      | And => exact ⟨snd_and a1 b1, tst_and a2 b2⟩
      | Or => exact ⟨snd_or a1 b1, tst_or a2 b2⟩
    · cases h'
/-! ### dict displays -/
def trsOf (X : Cx) : List (Option Expr) → List Expr → List (TE × TE)
  | some k :: ks, v :: vs => (seE X k, seE X v) :: trsOf X ks vs
  | _, _ => []
theorem pps_of {X : Cx} {pos : Pos} : ∀ {ks : List (Option Expr)} {vs es : List Expr}, altL ks vs = some es → PPs X pos ks vs (trsOf X ks vs) ∧ ks.all (·.isSome) = true ∧ ks.length = vs.length
  | [], [], _, _ => ⟨pps_nil, rfl, rfl⟩
  | [], _ :: _, _, h => by cases h
  | none :: _, _, _, h => by cases h
  | some k :: ks, [], _, h => by cases h
  | some k :: ks, v :: vs, es, h => by
    obtain ⟨r, h2, rfl⟩ := Option.map_eq_some_iff.mp (show (altL ks vs).map (fun r => k :: v :: r) = some es from h)
    obtain ⟨a, b, c⟩ := pps_of (pos := pos) (X := X) h2
    exact ⟨pps_cons (pE k) (pE v) a, by simpa using b, by simp [c]⟩
theorem pairs_run {X : Cx} {f : Expr → Option Ex} (ih : ∀ e x, f e = some x → okE e = true → SndE fa X e (evE C x)) : ∀ {ks : List (Option Expr)} {vs es : List Expr} {xs : Exs}, altL ks vs = some es → cL f es = some xs →
    ∀ {s : Slots} {σ : L2.St} {ρ : Wd} {M : Mem} {H : Hp} {us : List Val} {M' : Mem} {prs : List (D × D)}, SR X.K fa ρ H s σ → HR X.K fa ρ M H → evEs C xs s M = .ok us M' → pairsD us = some prs →
      ∀ Q : List (V × V) → Hp → Prop, (∀ (kvs : List (Key × V)) H' ρ', Go ρ H ρ' H' → HR X.K fa ρ' M' H' → RKs X.K fa ρ' H' prs kvs → Q (kvs.map fun kv => (kV kv.1, kv.2)) H') → tPairs (trsOf X ks vs) σ H Q
  | [], [], es, xs, h, hc, s, σ, ρ, M, H, us, M', prs, hs, hm, q, hp, Q, fin => by
    cases h
    cases hc
    cases q
    cases hp
    exact fin [] H ρ .refl hm .nil
  | [], _ :: _, _, _, h, _, _, _, _, _, _, _, _, _, _, _, _, _, _, _ => by cases h
  | none :: _, _, _, _, h, _, _, _, _, _, _, _, _, _, _, _, _, _, _, _ => by cases h
  | some k :: ks, [], _, _, h, _, _, _, _, _, _, _, _, _, _, _, _, _, _, _ => by cases h
  | some k :: ks, v :: vs, es, xs, h, hc, s, σ, ρ, M, H, us, M', prs, hs, hm, q, hp, Q, fin => by
    obtain ⟨r, h2, rfl⟩ := Option.map_eq_some_iff.mp (show (altL ks vs).map (fun r => k :: v :: r) = some es from h)
    have hc' : (match cE f k, cL f (v :: r) with
      | some a, some b => some (Exs.cons a b)
      | _, _ => none) = some xs := hc
    split at hc'
    · rename_i a b q1 q2
      cases hc'
      have q2' : (match cE f v, cL f r with
        | some a, some b => some (Exs.cons a b)
        | _, _ => none) = some b := q2
      split at q2'
      · rename_i a2 b2 q3 q4
        cases q2'
        obtain ⟨u1, m1, e1, q⟩ := R.bind_ok q
        obtain ⟨ur, m2, e2, q⟩ := R.bind_ok q
        cases q
        obtain ⟨u2, m3, e3, e2⟩ := R.bind_ok e2
        obtain ⟨ur2, m4, e4, e2⟩ := R.bind_ok e2
        cases e2
        obtain ⟨k1, k2⟩ := cE_ok q1
        obtain ⟨k3, k4⟩ := cE_ok q3
        cases u1 with
        | r _ => cases hp
        | d kd =>
          cases u2 with
          | r _ => cases hp
          | d vd =>
            have hp' : (if keyB kd then (pairsD ur2).map fun l => (kd, vd) :: l else none) = some prs := hp
            split at hp'
            · rename_i hk
              obtain ⟨l, hl, rfl⟩ := Option.map_eq_some_iff.mp hp'
              refine (ih k a k2 k1 s σ ρ M H _ m1 hs hm e1).thn fun x H1 _ ⟨ρ1, g1, hm1, r1⟩ => ?_
              refine (ih v a2 k4 k3 s σ ρ1 m1 H1 _ m3 (hs.go g1) hm1 e3).thn fun y H2 _ ⟨ρ2, g2, hm2, r2⟩ => ?_
              refine pairs_run ih h2 q4 ((hs.go g1).go g2) hm2 e4 hl _ fun kvs H3 ρ3 g3 hm3 r3 => ?_
              obtain ⟨k', ek, hkr⟩ := key_of (X := X) hk ((r1.go g2).go g3)
              subst ek
              exact fin ((k', y) :: kvs) H3 ρ3 ((g1.trans g2).trans g3) hm3 (.cons hkr (r2.go g3) r3)
            · cases hp'
      · cases q2'
    · cases hc'
theorem put_rel {X : Cx} {ρ : Wd} {H : Hp} {k d : D} {k' : Key} {v : V} (hk : KR k k') (hv : RD X.K fa ρ H d v) {kvs : List (D × D)} {ks : List (Key × V)} (r : RKs X.K fa ρ H kvs ks) : RKs X.K fa ρ H (putD kvs k d) (putK ks k' v) := by
  have e : (ks.any fun kv => decide (kv.1 = k')) = (kvs.any fun q => keq q.1 k) := by
    rw [valV_any]; exact any_key hk r
  unfold putD putK
  rw [e]
  split
  · have mp : ∀ {kvs : List (D × D)} {ks : List (Key × V)}, RKs X.K fa ρ H kvs ks → RKs X.K fa ρ H (kvs.map fun q => if keq q.1 k = true then (q.1, d) else q) (ks.map fun kv => if kv.1 = k' then (kv.1, v) else kv) := by
      intro kvs
      induction kvs with
      | nil => intro ks r; cases r; exact .nil
      | cons q kvs ih =>
        intro ks r
        cases r with
        | cons h1 h2 h3 =>
          rw [List.map_cons, List.map_cons]
          have e2 := keq_of h1 hk
          rename_i a b a' b' _
          by_cases c : a' = k'
          · have e3 : keq a k = true := by rw [e2]; exact decide_eq_true c
            rw [if_pos e3, if_pos c]
            exact .cons h1 hv (ih h3)
          · have e3 : ¬ keq a k = true := by rw [e2]; simpa using c
            rw [if_neg e3, if_neg c]
            exact .cons h1 h2 (ih h3)
    exact mp r
  · have ap : ∀ {kvs : List (D × D)} {ks : List (Key × V)}, RKs X.K fa ρ H kvs ks → RKs X.K fa ρ H (kvs ++ [(k, d)]) (ks ++ [(k', v)]) := by
      intro kvs
      induction kvs with
      | nil => intro ks r; cases r; exact .cons hk hv .nil
      | cons q kvs ih =>
        intro ks r
        cases r with
        | cons h1 h2 h3 => exact .cons h1 h2 (ih h3)
    exact ap r
theorem merge_rel {X : Cx} {ρ : Wd} {H : Hp} : ∀ {prs : List (D × D)} {more : List (Key × V)}, RKs X.K fa ρ H prs more → ∀ {kvs : List (D × D)} {ks : List (Key × V)}, RKs X.K fa ρ H kvs ks → RKs X.K fa ρ H (prs.foldl (fun acc q => putD acc q.1 q.2) kvs) (mergeK ks more)
  | [], _, r, kvs, ks, h => by cases r; exact h
  | q :: prs, _, r, kvs, ks, h => by
    cases r with
    | cons h1 h2 h3 => exact merge_rel h3 (put_rel h1 h2 h)
theorem RKs.length {K : PySem.W.Frag} {ρ : Wd} {H : Hp} : ∀ {kvs : List (D × D)} {ks : List (Key × V)}, RKs K fa ρ H kvs ks → kvs.length = ks.length
  | _, _, .nil => rfl
  | _, _, .cons _ _ r => by simp [RKs.length r]
theorem snd_dct {X : Cx} {ks : List (Option Expr)} {vs es : List Expr} {p : Pos} {f : Expr → Option Ex} {xs : Exs} (h0 : 0 < ks.length) (h15 : ks.length ≤ 15) (ha : altL ks vs = some es) (hc : cL f es = some xs) (ih : ∀ e x, f e = some x → okE e = true → SndE fa X e (evE C x)) :
    SndE fa X (.Dict ks vs p) (evE C (.dct xs)) := by
  intro s σ ρ M H v M' hs hm q
  obtain ⟨us, m1, q1, q⟩ := R.bind_ok q
  obtain ⟨d, m2, q2, q⟩ := R.bind_ok q
  obtain ⟨q3, em⟩ := R.opt_ok q2
  subst em
  cases q
  unfold mkDct at q3
  split at q3
  · rename_i prs hp
    split at q3
    · rename_i hl
      cases q3
      obtain ⟨P, a1, a2⟩ := pps_of (X := X) (pos := p) ha
      refine ofE (pe_disp P a1 a2 (fun e => by rw [e] at h0; cases h0) h15) fun a hn => ?_
      have hmh := hm.hide hn (o := HO.dK [])
      have hsh := hs.kp (kp_hide hn (o := HO.dK [])) (fun i b e => e)
      refine pairs_run ih ha hc hsh hmh q1 hp _ fun kvs H2 ρ2 g2 hm2 r2 => ?_
      obtain ⟨l2, z2⟩ := ρ2
      have ez : z2 = a :: ρ.z := g2.zz
      subst ez
      have oa := hm.out hn
      have ha2 : H2 a = some (.dK []) := g2.fr _ _ upd_same oa.1
      have na : a ∉ l2 := g2.nl oa.1 (by rw [upd_same]; simp)
      refine ⟨ha2, kvs, rfl, by rw [← r2.length]; exact hl, ⟨l2, ρ.z⟩, ?_, ?_, ?_⟩
      · exact go_step ((go_new hn).trans g2.drop) hn
      · exact (hm2.step (List.mem_cons_self) na).shown
      · exact .dct upd_same ⟨na, oa.2⟩ (((merge_rel r2 .nil).kp (kp_step List.mem_cons_self)).kp kp_show)
    · cases q3
  · cases q3
/-- a list comprehension's parts -/
structure LcH (fa : Nat → Addr) (C : Cal) (X : Cx) (tg it elt : Expr) (ifs : List Expr) (sc : Scope) (own : List (Str × Nat)) (t : Tg) (xi : It) (xc xe : Ex) : Prop where
  hi : SndI fa X tg it (evIt C xi)
  hk : okE it = true
  ok : BlkOk X.N X.env.scope sc own
  hg : ∀ s0 H0 C0 cl fp {ρ : Wd} {M : Mem} {H : Hp} {s s' : Slots} {σ : L2.St} {w : Wv} {x : V}, SR X.K fa ρ H s σ → HR X.K fa ρ M H → WV X.K fa ρ H w x → asgW M t w s = some s' → seG (Bk X sc s0 H0 cl C0 fp) tg x σ H (TgQ fa X ρ H s' (own.map (·.2)) σ)
  hc : ∀ s σ ρ M H v M' b, SR X.K fa ρ H s σ → HR X.K fa ρ M H → evE C xc s M = .ok v M' → truth M' v = some b → tB X sc ifs σ H (PoT X.K fa ρ H b M')
  he : ∀ s0 H0 C0 cl fp, SndE fa (Bk X sc s0 H0 cl C0 fp) elt (evE C xe)
theorem lc_of {n : Nat} (IH : ∀ {X : Cx} {nm : Nms}, Cok fa X T nm k C → ∀ (e : Expr) (x : Ex), compE n T nm e = some x → Snd fa C X e x) {X : Cx} {nm : Nms} (c : Cok fa X T nm k C) {elt tg it : Expr} {ifs : List Expr} {sc : Scope} {own : List (Str × Nat)} {xi : It} {t : Tg} {xc xe : Ex}
    (qo : ownOf T sc.names = some own) (qb : blkB T nm sc = true) (qi : cIt (compE n T nm) T nm tg it = some xi) (qt : cTg T sc.names tg = some t) (qc : cIf (compE n T sc.names) ifs = some xc) (qe : cE (compE n T sc.names) elt = some xe) : LcH fa C X tg it elt ifs sc own t xi xc xe := by
  obtain ⟨si, sk⟩ := snd_cIt c (fun e x h _ => (IH c e x h).1) qi
  obtain ⟨ke, he⟩ := cE_ok qe
  refine ⟨si, sk, blk_ok c qo qb, fun s0 H0 C0 cl fp ρ M H s s' σ w x hs hm r q => ?_, ?_, fun s0 H0 C0 cl fp => ?_⟩
  · exact (snd_tg (c.blk s0 H0 C0 cl fp) qt hs hm r q).thn fun σ' H' ⟨e1, e2, e3⟩ => ⟨e1, e2, fun vs hv => e3 vs fun i hi => hv i (tg_own qo qt i hi)⟩
  · intro s σ ρ M H v M' b hs hm q tr
    rcases cIf_ok qc with ⟨rfl, rfl⟩ | ⟨cd, rfl, qc⟩
    · cases q
      have e : true = b := Option.some.inj tr
      subst e
      exact ⟨ρ, .refl, hm, rfl⟩
    · obtain ⟨kc, hc⟩ := cE_ok qc
      exact fun s0 H0 C0 cl fp => (IH (c.blk s0 H0 C0 cl fp) cd _ hc).2 s σ ρ M H v M' b hs hm q tr
  · exact (IH (c.blk s0 H0 C0 cl fp) _ _ he).1
/-- an expression that is compiled comes to what is evaluated -/
theorem snd_exp : ∀ (n : Nat) {X : Cx} {nm : Nms}, Cok fa X T nm k C → ∀ (e : Expr) (x : Ex), compE n T nm e = some x → Snd fa C X e x
  | 0, _, _, _, _, _, h => by cases h
  | n + 1, X, nm, c, e, x, h => by
    have ih : ∀ e x, compE n T nm e = some x → okE e = true → Snd fa C X e x := fun e x h _ => snd_exp n c e x h
    have ih1 : ∀ e x, compE n T nm e = some x → okE e = true → SndE fa X e (evE C x) := fun e x h _ => (snd_exp n c e x h).1
    have sub : ∀ {e x}, cE (compE n T nm) e = some x → okE e = true ∧ Snd fa C X e x := fun {e x} q => ⟨(cE_ok q).1, snd_exp n c e x (cE_ok q).2⟩
    have lst : ∀ {es xs}, cL (compE n T nm) es = some xs → SndA fa X es (evEs C xs) := fun {es xs} q => snd_cL ih1 q
    unfold compE at h
    split at h
    · -- constants
      split at h
      · cases h; exact .val rfl snd_int
      · split at h
        · rename_i hl; cases h; exact .val rfl (snd_str hl.1 hl.2)
        · cases h
      · cases h; exact .val rfl snd_bl
      · cases h; exact .val rfl snd_non
      · cases h
    · -- names
      split at h
      · rename_i i q
        cases h; exact .val rfl (snd_var c q)
      · split at h
        · rename_i hg
          obtain ⟨g, q, rfl⟩ := Option.map_eq_some_iff.mp h
          exact .val rfl (snd_glo c hg q)
        · cases h
    · -- tuples
      rename_i es _ _
      split at h
      · rename_i hl
        cases q : cL (compE n T nm) es with
        | none => rw [q] at h; cases h
        | some xs => rw [q] at h; cases h; exact .val rfl (snd_tup hl q (lst q))
      · cases h
    · -- lists
      rename_i es _
      split at h
      · rename_i hl
        cases q : cL (compE n T nm) es with
        | none => rw [q] at h; cases h
        | some xs => rw [q] at h; cases h; exact .val rfl (snd_lst hl q (lst q))
      · cases h
    · -- dicts
      split at h
      · rename_i es qa
        split at h
        · rename_i hl
          obtain ⟨xs, q, rfl⟩ := Option.map_eq_some_iff.mp h
          exact .val rfl (snd_dct hl.1 hl.2 qa q ih1)
        · cases h
      · cases h
    · -- binary operators
      split at h
      · rename_i q1 q2 q3
        cases h; exact .val rfl (snd_bin q2 (sub q1).2.1 (sub q3).2.1)
      · cases h
    · rename_i a p
      cases q : cE (compE n T nm) a with
      | none => rw [q] at h; cases h
      | some y => rw [q] at h; cases h; exact .val rfl (snd_neg (sub q).2.1)
    · rename_i a p
      cases q : cE (compE n T nm) a with
      | none => rw [q] at h; cases h
      | some y => rw [q] at h; cases h; exact ⟨snd_not (sub q).2.1, tst_not (sub q).2.2⟩
    · -- comparisons
      split at h
      · rename_i q1 q2
        cases h; exact ⟨snd_cmp c (sub q2).1 (sub q1).2.1 (sub q2).2.1, tst_cmp c (sub q2).1 (sub q1).2.1 (sub q2).2.1⟩
      · cases h
    · split at h
      · rename_i q1 q2 q3
        cases h; exact ⟨snd_chn c (sub q1).2.1 (sub q2).2.1 (sub q3).1 (sub q3).2.1, tst_chn c (sub q1).2.1 (sub q2).2.1 (sub q3).1 (sub q3).2.1⟩
      · cases h
    · obtain ⟨a, b⟩ := snd_bool ih h
      exact ⟨a, b.t⟩
    · split at h
      · rename_i q1 q2 q3
        cases h; exact ⟨snd_ite (sub q1).2.2 (sub q2).2.1 (sub q3).2.1, tst_ite (sub q1).2.2 (sub q2).2.2 (sub q3).2.2⟩
      · cases h
    · -- slices
      split at h
      · rename_i q1 q2 q3
        cases h; exact .val rfl (snd_slc ih1 (sub q1).2.1 q2 q3)
      · cases h
    · obtain ⟨y, q, rfl⟩ := Option.map_eq_some_iff.mp h
      exact .val rfl (snd_rev (sub q).2.1)
    · split at h
      · rename_i q1 q2
        cases h; exact .val rfl (snd_idx c (sub q2).1 (sub q1).2.1 (sub q2).2.1)
      · cases h
    · -- calls by a name
      split at h
      · rename_i hf
        split at h
        · rename_i a y py
          split at h
          · rename_i hx
            subst hx
            split at h
            · rename_i q1 q2
              cases h; exact .val rfl (snd_isi1 c hf (sub q1).1 q2 (sub q1).2.1)
            · cases h
          · split at h
            · rename_i q1 q2
              cases h; exact .val rfl (snd_bi c hf (boot2 q1) q2 (lst q2))
            · cases h
        · split at h
          · rename_i hx
            obtain ⟨rfl, hl⟩ := hx
            split at h
            · rename_i q1 q2
              cases h; exact .val rfl (snd_isiT c hf (sub q1).1 hl q2 (sub q1).2.1)
            · cases h
          · cases h
        · split at h
          · rename_i q1 q2
            cases h; exact .val rfl (snd_bi c hf (boot1 q1) q2 (lst q2))
          · cases h
        · split at h
          · rename_i q1 q2
            cases h; exact .val rfl (snd_bi c hf (boot2 q1) q2 (lst q2))
          · cases h
        · cases h
      · split at h
        · rename_i hg
          split at h
          · rename_i q1 q2
            split at h
            · rename_i hl
              cases h; exact .val rfl (snd_call c hg q1 hl q2 (lst q2))
            · cases h
          · cases h
        · cases h
    · -- methods
      split at h
      · rename_i hl
        split at h
        · rename_i q1 q2
          split at h
          · cases h
          · rename_i hb
            have nb := notC0_of hb
            split at h
            · obtain ⟨m, q, rfl⟩ := Option.map_eq_some_iff.mp h
              cases q2
              exact .val rfl (snd_mth0 nb hl (mt0_name q) (sub q1).2.1)
            · obtain ⟨m, q, rfl⟩ := Option.map_eq_some_iff.mp h
              obtain ⟨y, q3, rfl⟩ := cL_one q2
              exact .val rfl (snd_mth1 (f := compE n T nm) nb hl (mt1_name q) (sub q3).1 (sub q1).2.1 (sub q3).2.1)
            · cases h
        · cases h
      · cases h
    · -- comprehensions
      split at h
      · rename_i ha
        subst ha
        split at h
        · rename_i own it qo qb qi
          split at h
          · rename_i tg' cc' e' qt qc qe
            cases h
            have L := lc_of (snd_exp n) c qo qb qi qt qc qe
            exact .val rfl (snd_lc c L.hi L.hk L.ok L.hg L.hc L.he)
          · cases h
        · cases h
      · cases h
    · cases h
/-- a comprehension that is compiled, with its parts -/
theorem comp_lc {n : Nat} {X : Cx} {nm : Nms} (c : Cok fa X T nm k C) {elt : Expr} {gens : List Comprehension} {sc : Scope} {p : Pos} {x : Ex} (h : compE n T nm (.ListComp elt gens sc p) = some x) :
    ∃ tg it ifs own t xi xc xe, gens = [⟨tg, it, ifs, 0⟩] ∧ x = .cmpr (zOf T p) (own.map (·.2)) t xi xc xe ∧ LcH fa C X tg it elt ifs sc own t xi xc xe := by
  cases n with
  | zero => cases h
  | succ n =>
    match gens, h with
    | [⟨tg, it, ifs, as⟩], h =>
      have h' : (if as = 0 then
        (match ownOf T sc.names, blkB T nm sc, cIt (compE n T nm) T nm tg it with
        | some own, true, some it => (match cTg T sc.names tg, cIf (compE n T sc.names) ifs, cE (compE n T sc.names) elt with
          | some tg, some c, some e => some (Ex.cmpr (zOf T p) (own.map (·.2)) tg it c e)
          | _, _, _ => none)
        | _, _, _ => none)
        else none) = some x := h
      split at h'
      · rename_i ha
        subst ha
        split at h'
        · rename_i own xi qo qb qi
          split at h'
          · rename_i t xc xe qt qc qe
            cases h'
            exact ⟨tg, it, ifs, own, t, xi, xc, xe, rfl, rfl, lc_of (snd_exp n) c qo qb qi qt qc qe⟩
          · cases h'
        · cases h'
      · cases h'
    | [], h => exact nomatch (show (none : Option Ex) = some x from h)
    | ⟨_, _, _, _⟩ :: _ :: _, h => exact nomatch (show (none : Option Ex) = some x from h)
end
end Rf

namespace Rf
open PySem PySem.Spec PyProof.Rows L2
section
variable {fa : Nat → Addr} {T : Tab} {k : Nat} {C : Cal} {X : Cx} {nm : Nms}
/-! ### statements -/
def PoS (K : PySem.W.Frag) (fa : Nat → Addr) (ρ : Wd) (H : Hp) (s : Slots) (M' : Mem) (σ' : L2.St) (H' : Hp) : Prop := ∃ ρ', Go ρ H ρ' H' ∧ HR K fa ρ' M' H' ∧ SR K fa ρ' H' s σ'
theorem PoS.back {K : PySem.W.Frag} {ρ ρ1 : Wd} {H H1 H2 : Hp} {s : Slots} {M : Mem} {σ : L2.St} (g : Go ρ H ρ1 H1) (h : PoS K fa ρ1 H1 s M σ H2) : PoS K fa ρ H s M σ H2 := let ⟨ρ2, a, b, c⟩ := h; ⟨ρ2, g.trans a, b, c⟩
/-- the ends that are wanted -/
def Dn (K : PySem.W.Frag) (fa : Nat → Addr) (ρ : Wd) (H : Hp) (r : Fl) (M' : Mem) : Ends where
  nx := fun σ' H' => ∃ s, r = .nx s ∧ PoS K fa ρ H s M' σ' H'
  rt := fun v H' => ∃ w, r = .rt w ∧ PoE K fa ρ H w M' v H'
  bk := fun σ' H' => ∃ s, r = .bk s ∧ PoS K fa ρ H s M' σ' H'
  ct := fun σ' H' => ∃ s, r = .ct s ∧ PoS K fa ρ H s M' σ' H'
def SndS (fa : Nat → Addr) (X : Cx) (st : Stmt) (ev : Slots → Mem → R Fl) : Prop :=
  ∀ s σ ρ M H r M', SR X.K fa ρ H s σ → HR X.K fa ρ M H → ev s M = .ok r M' → seS X st (Dn X.K fa ρ H r M') σ H
def SndSs (fa : Nat → Addr) (X : Cx) (st : List Stmt) (ev : Slots → Mem → R Fl) : Prop :=
  ∀ s σ ρ M H r M', SR X.K fa ρ H s σ → HR X.K fa ρ M H → ev s M = .ok r M' → seSs X st (Dn X.K fa ρ H r M') σ H
theorem seS.ok {st : Stmt} {D : Ends} {σ : L2.St} {H : Hp} (h : X.Ok → seS X st D σ H) : seS X st D σ H := fun pins s I => h I.ok pins s I
/-- other ends -/
theorem seSs.back {K : PySem.W.Frag} {st : List Stmt} {σ : L2.St} {H H0 : Hp} {ρ ρ0 : Wd} {r : Fl} {M' : Mem} (g : Go ρ0 H0 ρ H) (h : seSs X st (Dn K fa ρ H r M') σ H) : seSs X st (Dn K fa ρ0 H0 r M') σ H :=
  h.thn (fun _ _ _ ⟨s, e, p⟩ => ⟨s, e, p.back g⟩) (fun _ _ _ ⟨s, e, p⟩ => ⟨s, e, p.back g⟩) (fun _ _ _ ⟨s, e, p⟩ => ⟨s, e, p.back g⟩) (fun _ _ _ ⟨s, e, p⟩ => ⟨s, e, p.back g⟩)
theorem sss_nil : SndSs fa X [] (exSs C .nil) := fun s σ ρ M H r M' hs hm q => by
  cases q
  exact ofSs pss_nil ⟨s, rfl, ρ, .refl, hm, hs⟩
theorem sss_cons {st : Stmt} {sts : List Stmt} {x : St} {xs : Sts} (h1 : SndS fa X st (exS C x)) (h2 : SndSs fa X sts (exSs C xs)) : SndSs fa X (st :: sts) (exSs C (.cons x xs)) := by
  intro s σ ρ M H r M' hs hm q
  obtain ⟨f, m1, q1, q⟩ := R.bind_ok q
  refine ofSs (pss_cons (pS st) (pSs sts)) ?_
  have run := h1 s σ ρ M H f m1 hs hm q1
  cases f with
  | nx s1 =>
    refine run.thn (fun σ1 H1 _ ⟨s2, e, ρ1, g1, hm1, hs1⟩ => ?_) (fun v H1 _ ⟨w, e, _⟩ => by cases e) (fun v H1 _ ⟨w, e, _⟩ => by cases e) (fun v H1 _ ⟨w, e, _⟩ => by cases e)
    cases e
    exact seSs.back g1 (h2 s1 σ1 ρ1 m1 H1 r M' hs1 hm1 q)
  | rt w =>
    cases q
    exact run.thn (fun v H1 _ ⟨w, e, _⟩ => by cases e) (fun v H1 _ z => z) (fun v H1 _ ⟨w, e, _⟩ => by cases e) (fun v H1 _ ⟨w, e, _⟩ => by cases e)
  | bk s1 =>
    cases q
    exact run.thn (fun v H1 _ ⟨w, e, _⟩ => by cases e) (fun v H1 _ ⟨w, e, _⟩ => by cases e) (fun v H1 _ z => z) (fun v H1 _ ⟨w, e, _⟩ => by cases e)
  | ct s1 =>
    cases q
    exact run.thn (fun v H1 _ ⟨w, e, _⟩ => by cases e) (fun v H1 _ ⟨w, e, _⟩ => by cases e) (fun v H1 _ ⟨w, e, _⟩ => by cases e) (fun v H1 _ z => z)
theorem sss_of {f : Stmt → Option St} (ih : ∀ st x, f st = some x → SndS fa X st (exS C x)) : ∀ {sts : List Stmt} {xs : Sts}, compSs f sts = some xs → SndSs fa X sts (exSs C xs)
  | [], xs, h => by cases h; exact sss_nil
  | st :: r, xs, h => by
    have h' : (match f st, compSs f r with
      | some a, some b => some (Sts.cons a b)
      | _, _ => none) = some xs := h
    split at h'
    · rename_i q1 q2
      cases h'
      exact sss_cons (ih _ _ q1) (sss_of ih q2)
    · cases h'
/-! ### which statements swap -/
theorem sw_no {e : Expr} {tg : Option Expr} {line : Nat} {env : Env} (h : okE e = true) (hl : isLC e = false) : swapsWith e tg line env = pure false := by
  cases e <;> first | rfl | (cases hl; done) | (cases h; done)
theorem sw_tup {e : Expr} {ts : List Expr} {j p line} {env : Env} : swapsWithSole [.Tuple ts j p] e line env = pure false := by
  cases e <;> rfl
theorem sw_sub {e o i : Expr} {p line} {env : Env} : swapsWithSole [.Subscript o i p] e line env = pure false := by
  cases e <;> rfl
theorem st_name {e : Expr} {x : Str} {p : Pos} {env : Env} : swappedStores [.Name x p] e env = pure none := by
  cases e <;> rfl
theorem st_sub {e o i : Expr} {p : Pos} {env : Env} : swappedStores [.Subscript o i p] e env = pure none := by
  cases e <;> rfl
theorem st_tup {e : Expr} {ts : List Expr} {j p} {env : Env} (h : isTup e = false) : swappedStores [.Tuple ts j p] e env = pure none := by
  cases e <;> first | rfl | cases h
def swB (env : Env) (x : Str) (l : Nat) (sc : Scope) (p : Pos) : Bool := (env.kindOf x == some .local) && (l == p.line) && !(sc.names.any fun (n, k) => n == x && (k == .local || k == .cell))
theorem sw_lc {elt : Expr} {gens : List Comprehension} {sc : Scope} {p pp : Pos} {x : Str} {line : Nat} {env : Env} (hk : env.scope.kind = .function) : swapsWith (.ListComp elt gens sc p) (some (.Name x pp)) line env = pure (swB env x pp.line sc p) := by
  have hb : env.blockKind = .function := by
    unfold Env.blockKind
    rw [hk]
    rfl
  show (pure (env.blockKind == .function && env.kindOf x == some .local && pp.line == p.line && !(sc.names.any fun (n, k) => n == x && (k == .local || k == .cell))) : Sem Bool) = _
  rw [hb]
  rfl
/-- name = e -/
theorem sns_name {x : Str} {p pos : Pos} {e : Expr} {n : Nat} {i : Nat} {y : Ex} (c : Cok fa X T nm k C) (hx : slotS T nm x = some i) (hk : okE e = true) (he : compE n T nm e = some y) : SndS fa X (.Assign [.Name x p] e pos) (exS C (.asg (.nm i) y)) := by
  intro s σ ρ M H r M' hs hm q
  obtain ⟨v, m1, q1, q⟩ := R.bind_ok q
  obtain ⟨s', m2, q2, q⟩ := R.bind_ok q
  obtain ⟨q3, em⟩ := R.opt_ok q2
  subst em
  cases q
  cases q3
  obtain ⟨a1, a2, a3⟩ := slotS_ok c hx
  have fin : ∀ z H', PoE X.K fa ρ H v M' z H' → (Dn X.K fa ρ H (.nx (s.set i (some v))) M').nx (σ.set i (some z)) H' := fun z H' ⟨ρ1, g1, hm1, r1⟩ => ⟨_, rfl, ρ1, g1, hm1, (hs.go g1).set i r1⟩
  have plain : swapsWith e (some (.Name x p)) pos.line X.env = pure false → seS X (.Assign [.Name x p] e pos) (Dn X.K fa ρ H (.nx (s.set i (some v))) M') σ H := fun sw =>
    ofS (ps_set c.nd a1 a2 (pE e) sw a3) (((snd_exp n c e y he).1 s σ ρ M H v M' hs hm q1).thn fun z H' _ po => fin z H' po)
  cases hl : isLC e with
  | false => exact plain (sw_no hk hl)
  | true =>
    cases e with
    | ListComp elt gens sc cp =>
      refine seS.ok fun ok => ?_
      cases hb : swB X.env x p.line sc cp with
      | false => exact plain (by rw [sw_lc ok.kind, hb])
      | true =>
        obtain ⟨tg, it, ifs, own, t, xi, xc, xe, rfl, rfl, L⟩ := comp_lc c he
        have hl : X.env.scope.names.lookup x = some .local := by
          unfold swB at hb
          simp only [Bool.and_eq_true, beq_iff_eq] at hb
          exact hb.1.1
        refine ofS (ps_setLc c.calm c.nd a1 hl (by rw [sw_lc ok.kind, hb]) (pI tg it) L.ok (fun s0 H0 C0 cl fp => gB_ok s0 H0 C0 cl fp) (fun s0 H0 C0 cl fp => tB_ok s0 H0 C0 cl fp) (fun s0 H0 C0 cl fp => eB_ok s0 H0 C0 cl fp) (ok_fold L.hk X.env)) ?_
        exact lc_core L.hi L.hg L.hc L.he hs hm q1 fun z H' po => fin z H' po
    | _ => cases hl
/-- (a, b) = e -/
theorem sns_tup {ts : List Expr} {j : Nat} {p pos : Pos} {e : Expr} {t : Tg} {y : Ex} (c : Cok fa X T nm k C) (ht : cTg T nm (.Tuple ts j p) = some t) (hn : isTup e = false) (he : SndE fa X e (evE C y)) : SndS fa X (.Assign [.Tuple ts j p] e pos) (exS C (.asg t y)) := by
  intro s σ ρ M H r M' hs hm q
  obtain ⟨v, m1, q1, q⟩ := R.bind_ok q
  obtain ⟨s', m2, q2, q⟩ := R.bind_ok q
  obtain ⟨q3, em⟩ := R.opt_ok q2
  subst em
  cases q
  refine ofS (ps_asg (pE e) (pG _) sw_tup (st_tup hn)) ((he s σ ρ M H v M' hs hm q1).thn fun z H' _ ⟨ρ1, g1, hm1, r1⟩ => ?_)
  exact (snd_tg c ht (hs.go g1) hm1 (w := .v v) r1 q3).thn fun σ' H2 ⟨e1, e2, _⟩ => ⟨s', rfl, ρ1, by rw [e1]; exact g1, by rw [e1]; exact hm1, by rw [e1]; exact e2⟩
/-- o[i] = e -/
theorem sns_set {o i e : Expr} {p pos : Pos} {xo xi xe : Ex} (h1 : SndE fa X o (evE C xo)) (h2 : SndE fa X i (evE C xi)) (h3 : SndE fa X e (evE C xe)) (hi : okE i = true) : SndS fa X (.Assign [.Subscript o i p] e pos) (exS C (.set xo xi xe)) := by
  intro s σ ρ M H r M' hs hm q
  obtain ⟨v, m1, q1, q⟩ := R.bind_ok q
  obtain ⟨x, m2, q2, q⟩ := R.bind_ok q
  obtain ⟨y, m3, q3, q⟩ := R.bind_ok q
  split at q
  · rename_i n
    obtain ⟨_, m4, q4, q⟩ := R.bind_ok q
    cases q
    have q4' : (match x with
      | .r j => match m3[j]? with
        | some (.lst us) => (R.opt (ixOf us.length n) m3).bind fun k m => R.ok () (m.set j (.lst (us.set k v)))
        | _ => .no
      | _ => .no) = .ok () M' := q4
    split at q4'
    · rename_i j _
      split at q4'
      · rename_i us qj
        obtain ⟨kk, m5, q5, q6⟩ := R.bind_ok q4'
        obtain ⟨q7, rfl⟩ := R.opt_ok q5
        cases q6
        have ha : ∀ v, assign (.Subscript o i p) X.env v = (do
            let ov ← holding [v] (eval o X.env)
            let iv ← holding [v, ov] (eval i X.env)
            standAt p
            holding [v, ov, iv] (setItem ov iv v)
            release [v, ov, iv] []) := by
          intro v
          cases i <;> first | rfl | cases hi
        refine ofS (ps_asg (pE e) (pg_sub (pE o) (pE i) set_list ha) sw_sub st_sub) ?_
        refine (h3 s σ ρ M H v m1 hs hm q1).thn fun z H1 _ ⟨ρ1, g1, hm1, r1⟩ => ?_
        refine (h1 s σ ρ1 m1 H1 (.r j) m2 (hs.go g1) hm1 q2).thn fun zo H2 _ ⟨ρ2, g2, hm2, r2⟩ => ?_
        refine (h2 s σ ρ2 m2 H2 _ m3 ((hs.go g1).go g2) hm2 q3).thn fun zi H3 _ ⟨ρ3, g3, hm3, r3⟩ => ?_
        cases r3
        obtain ⟨a, vs, e1, rfl, e2, rs⟩ := hm3.lst qj (r2.go g3)
        have ij : L2.ixN vs.length n = some kk := by rw [← rs.length]; exact q7
        obtain ⟨hm4, g4⟩ := hm3.write (us := us) e1 e2 (rs.set kk ((r1.go g2).go g3))
        exact ⟨a, vs, n, kk, rfl, rfl, e2, ij, s, rfl, ρ3, ((g1.trans g2).trans g3).trans g4, hm4, (((hs.go g1).go g2).go g3).go g4⟩
      · cases q4'
    · cases q4'
  · cases q
/-- an expression as a statement -/
theorem sns_ex {e : Expr} {pos : Pos} {y : Ex} (hk : okE e = true) (hl : isLC e = false) (he : SndE fa X e (evE C y)) : SndS fa X (.Expr e pos) (exS C (.ex y)) := by
  intro s σ ρ M H r M' hs hm q
  obtain ⟨v, m1, q1, q⟩ := R.bind_ok q
  cases q
  exact ofS (ps_expr (pE e) (sw_no hk hl)) ((he s σ ρ M H v _ hs hm q1).thn fun z H' _ ⟨ρ1, g1, hm1, r1⟩ => ⟨s, rfl, ρ1, g1, hm1, hs.go g1⟩)
theorem sns_ret {e : Expr} {pos : Pos} {y : Ex} (he : SndE fa X e (evE C y)) : SndS fa X (.Return (some e) pos) (exS C (.ret y)) := by
  intro s σ ρ M H r M' hs hm q
  obtain ⟨v, m1, q1, q⟩ := R.bind_ok q
  cases q
  exact ofS (ps_ret (pE e)) ((he s σ ρ M H v _ hs hm q1).thn fun z H' _ po => ⟨v, rfl, po⟩)
theorem sns_retN {pos : Pos} : SndS fa X (.Return none pos) (exS C (.ret (.con .non))) := by
  intro s σ ρ M H r M' hs hm q
  have q' : R.ok (Fl.rt (.d .non)) M = R.ok r M' := q
  cases q'
  exact ofS ps_retN ⟨_, rfl, ρ, .refl, hm, .non⟩
theorem sns_iff {e : Expr} {a b : List Stmt} {pos : Pos} {y : Ex} {xa xb : Sts} (he : SndT fa X e (evE C y)) (ha : SndSs fa X a (exSs C xa)) (hb : SndSs fa X b (exSs C xb)) : SndS fa X (.If e a b pos) (exS C (.iff y xa xb)) := by
  intro s σ ρ M H r M' hs hm q
  obtain ⟨v, m1, q1, q⟩ := R.bind_ok q
  split at q
  · rename_i t
    refine ofS (ps_if (pT e) (pSs a) (pSs b)) ((he s σ ρ M H v m1 true hs hm q1 t).thn fun z H1 _ ⟨ρ1, g1, hm1, e1⟩ => ?_)
    subst e1
    rw [if_pos rfl]
    exact seSs.back g1 (ha s σ ρ1 m1 H1 r M' (hs.go g1) hm1 q)
  · rename_i t
    refine ofS (ps_if (pT e) (pSs a) (pSs b)) ((he s σ ρ M H v m1 false hs hm q1 t).thn fun z H1 _ ⟨ρ1, g1, hm1, e1⟩ => ?_)
    subst e1
    rw [if_neg Bool.false_ne_true]
    exact seSs.back g1 (hb s σ ρ1 m1 H1 r M' (hs.go g1) hm1 q)
  · cases q
/-- for -/
theorem forL_cons {f : Wv → Slots → Mem → R Fl} {fin : Mem → Bool} {r : Mem → Option Wv} {rs : List (Mem → Option Wv)} {s : Slots} {m m' : Mem} {e : Fl} (h : forL f fin (r :: rs) s m = .ok e m') :
    ∃ w g m1, r m = some w ∧ f w s m = .ok g m1 ∧ ((∃ s', (g = .nx s' ∨ g = .ct s') ∧ forL f fin rs s' m1 = .ok e m') ∨ (∃ s', g = .bk s' ∧ e = .nx s' ∧ m' = m1) ∨ (∃ v, g = .rt v ∧ e = .rt v ∧ m' = m1)) := by
  unfold forL at h
  split at h
  · cases h
  · rename_i w q
    obtain ⟨g, m1, q1, h⟩ := R.bind_ok h
    refine ⟨w, g, m1, q, q1, ?_⟩
    cases g with
    | nx s' => exact .inl ⟨s', .inl rfl, h⟩
    | ct s' => exact .inl ⟨s', .inr rfl, h⟩
    | bk s' => cases h; exact .inr (.inl ⟨s', rfl, rfl, rfl⟩)
    | rt v => cases h; exact .inr (.inr ⟨v, rfl, rfl, rfl⟩)
theorem forL_nil {f : Wv → Slots → Mem → R Fl} {fin : Mem → Bool} {s : Slots} {m m' : Mem} {e : Fl} (h : forL f fin [] s m = .ok e m') : fin m = true ∧ e = .nx s ∧ m' = m := by
  unfold forL at h
  split at h
  · cases h; exact ⟨by assumption, rfl, rfl⟩
  · cases h
theorem sns_for {tg it : Expr} {body : List Stmt} {pos : Pos} {t : Tg} {xi : It} {xb : Sts} (c : Cok fa X T nm k C) (pw : PassesOwn (model X.prog X.w) X.A X.env X.xe) (ht : cTg T nm tg = some t) (hk : okE it = true) (hi : SndI fa X tg it (evIt C xi)) (hb : SndSs fa X body (exSs C xb)) :
    SndS fa X (.For tg it body [] pos) (exS C (.forr t xi xb)) := by
  intro s σ ρ M H r M' hs hm q
  obtain ⟨wk, m1, q1, q⟩ := R.bind_ok q
  refine ofS (ps_for pw c.calm (pI tg it) (pG tg) (pSs body) (ok_fold hk X.env)) ?_
  refine (hi s σ ρ M H wk m1 hs hm q1).thn fun J H1 _ ⟨ρ1, g1, hm1, wl⟩ => ?_
  refine ⟨fun i n σ' H' => ∃ s' ρ' m', Go ρ1 H1 ρ' H' ∧ HR X.K fa ρ' m' H' ∧ SR X.K fa ρ' H' s' σ' ∧ i ≤ wk.rs.length ∧ n = wk.rs.length - i ∧ forL (fun v s m => (R.opt (asgW m t v s) m).bind fun s' m => exSs C xb s' m) wk.fin (wk.rs.drop i) s' m' = .ok r M', ⟨wk.rs.length, s, ρ1, m1, .refl, hm1, hs.go g1, Nat.zero_le _, rfl, q⟩, ?_⟩
  rintro i n σ2 H2 ⟨s2, ρ2, m2, g2, hm2, hs2, hle, rfl, q2⟩
  have wl2 := wl ρ2 m2 H2 g2.kp g2.pl hm2
  by_cases hlt : i < wk.rs.length
  · obtain ⟨rd, er, ed⟩ := drop_cons hlt
    rw [ed] at q2
    obtain ⟨w, g, m3, q4, q5, q6⟩ := forL_cons q2
    obtain ⟨go, yl⟩ := wl2.1 i rd w er q4
    obtain ⟨s3, m3', q7, q8⟩ := R.bind_ok q5
    obtain ⟨q9, rfl⟩ := R.opt_ok q7
    refine .inr ⟨go, _, fun σ' H' h => h, fun x H3 y3 => ?_⟩
    obtain ⟨g3, hm3, wv3⟩ := yl x H3 y3
    refine (snd_tg c ht (hs2.go g3) hm3 wv3 q9).thn fun σ4 H4 ⟨e4, hs4, _⟩ => ?_
    subst e4
    have run := hb s3 σ4 ρ2 m2 H4 g m3 hs4 hm3 q8
    have G : Go ρ1 H1 ρ2 H4 := g2.trans g3
    have nxt : ∀ s' σ' H', (g = .nx s' ∨ g = .ct s') → PoS X.K fa ρ2 H4 s' m3 σ' H' → forL (fun v s m => (R.opt (asgW m t v s) m).bind fun s' m => exSs C xb s' m) wk.fin (wk.rs.drop (i + 1)) s' m3 = .ok r M' → ∃ m', m' < wk.rs.length - i ∧ ∃ s'' ρ' m'', Go ρ1 H1 ρ' H' ∧ HR X.K fa ρ' m'' H' ∧ SR X.K fa ρ' H' s'' σ' ∧ i + 1 ≤ wk.rs.length ∧ m' = wk.rs.length - (i + 1) ∧ forL (fun v s m => (R.opt (asgW m t v s) m).bind fun s' m => exSs C xb s' m) wk.fin (wk.rs.drop (i + 1)) s'' m'' = .ok r M' :=
      fun s' σ' H' _ ⟨ρ', gg, hh, ss⟩ e => ⟨wk.rs.length - (i + 1), by omega, s', ρ', m3, G.trans gg, hh, ss, hlt, rfl, e⟩
    rcases q6 with ⟨s', hg, q10⟩ | ⟨s', rfl, rfl, rfl⟩ | ⟨v, rfl, rfl, rfl⟩
    · refine run.thn (fun σ' H' _ ⟨sx, e, po⟩ => ?_) (fun _ H' _ ⟨sx, e, po⟩ => ?_) (fun _ H' _ ⟨sx, e, po⟩ => ?_) (fun σ' H' _ ⟨sx, e, po⟩ => ?_)
      · rcases hg with hg | hg
        · rw [hg] at e; cases e; exact nxt s' σ' H' (.inl hg) po q10
        · rw [hg] at e; cases e
      · rcases hg with hg | hg <;> (rw [hg] at e; cases e)
      · rcases hg with hg | hg <;> (rw [hg] at e; cases e)
      · rcases hg with hg | hg
        · rw [hg] at e; cases e
        · rw [hg] at e; cases e; exact nxt s' σ' H' (.inr hg) po q10
    · refine run.thn (fun σ' H' _ ⟨sx, e, po⟩ => by cases e) (fun _ H' _ ⟨sx, e, po⟩ => by cases e) (fun _ H' _ ⟨sx, e, po⟩ => ?_) (fun σ' H' _ ⟨sx, e, po⟩ => by cases e)
      cases e
      exact ⟨s', rfl, po.back (g1.trans G)⟩
    · refine run.thn (fun σ' H' _ ⟨sx, e, po⟩ => by cases e) (fun _ H' _ ⟨sx, e, po⟩ => ?_) (fun _ H' _ ⟨sx, e, po⟩ => by cases e) (fun σ' H' _ ⟨sx, e, po⟩ => by cases e)
      cases e
      exact ⟨v, rfl, po.back (g1.trans G)⟩
  · rw [drop_end hlt] at q2
    obtain ⟨hf, rfl, rfl⟩ := forL_nil q2
    have hie : i = wk.rs.length := by omega
    subst hie
    exact .inl ⟨wl2.2 hf, s2, rfl, ρ2, g1.trans g2, hm2, hs2⟩
/-- while -/
theorem whiL_ok {c : Slots → Mem → R Bool} {f : Slots → Mem → R Fl} {n : Nat} {s : Slots} {m m' : Mem} {e : Fl} (h : whiL c f (n + 1) s m = .ok e m') :
    ∃ b m1, c s m = .ok b m1 ∧ ((b = false ∧ e = .nx s ∧ m' = m1) ∨ (b = true ∧ ∃ g m2, f s m1 = .ok g m2 ∧ ((∃ s', (g = .nx s' ∨ g = .ct s') ∧ whiL c f n s' m2 = .ok e m') ∨ (∃ s', g = .bk s' ∧ e = .nx s' ∧ m' = m2) ∨ (∃ v, g = .rt v ∧ e = .rt v ∧ m' = m2)))) := by
  unfold whiL at h
  obtain ⟨b, m1, q1, h⟩ := R.bind_ok h
  refine ⟨b, m1, q1, ?_⟩
  cases b with
  | false => cases h; exact .inl ⟨rfl, rfl, rfl⟩
  | true =>
    obtain ⟨g, m2, q2, h⟩ := R.bind_ok h
    refine .inr ⟨rfl, g, m2, q2, ?_⟩
    cases g with
    | nx s' => exact .inl ⟨s', .inl rfl, h⟩
    | ct s' => exact .inl ⟨s', .inr rfl, h⟩
    | bk s' => cases h; exact .inr (.inl ⟨s', rfl, rfl, rfl⟩)
    | rt v => cases h; exact .inr (.inr ⟨v, rfl, rfl, rfl⟩)
theorem sns_whil {e : Expr} {body : List Stmt} {pos : Pos} {y : Ex} {xb : Sts} (pw : PassesOwn (model X.prog X.w) X.A X.env X.xe) (he : SndT fa X e (evE C y)) (hb : SndSs fa X body (exSs C xb)) :
    SndS fa X (.While e body [] pos) (exS C (.whil y xb)) := by
  intro s σ ρ M H r M' hs hm q
  refine ofS (ps_while pw (pT e) (pSs body)) ?_
  have q : whiL (fun s m => (evE C y s m).bind fun x m => R.opt (truth m x) m) (fun s m => exSs C xb s m) C.wf s M = .ok r M' := q
  refine ⟨fun n σ' H' => ∃ s' ρ' m', Go ρ H ρ' H' ∧ HR X.K fa ρ' m' H' ∧ SR X.K fa ρ' H' s' σ' ∧ whiL (fun s m => (evE C y s m).bind fun x m => R.opt (truth m x) m) (fun s m => exSs C xb s m) n s' m' = .ok r M', ⟨C.wf, s, ρ, M, .refl, hm, hs, q⟩, ?_⟩
  rintro n σ2 H2 ⟨s2, ρ2, m2, g2, hm2, hs2, q2⟩
  cases n with
  | zero => cases q2
  | succ n =>
    obtain ⟨b, m3, q3, q4⟩ := whiL_ok q2
    obtain ⟨tv, m3', q5, q6⟩ := R.bind_ok q3
    obtain ⟨q7, rfl⟩ := R.opt_ok q6
    refine (he s2 σ2 ρ2 m2 H2 tv m3' b hs2 hm2 q5 q7).thn fun b' H3 _ ⟨ρ3, g3, hm3, eb⟩ => ?_
    subst eb
    rcases q4 with ⟨rfl, rfl, rfl⟩ | ⟨rfl, g, m4, q8, q9⟩
    · rw [if_neg Bool.false_ne_true]
      exact ⟨s2, rfl, ρ3, g2.trans g3, hm3, hs2.go g3⟩
    · rw [if_pos rfl]
      refine ⟨_, fun σ' H' h => h, ?_⟩
      have run := hb s2 σ2 ρ3 m3' H3 g m4 (hs2.go g3) hm3 q8
      have G : Go ρ H ρ3 H3 := g2.trans g3
      rcases q9 with ⟨s', hg, q10⟩ | ⟨s', rfl, rfl, rfl⟩ | ⟨v, rfl, rfl, rfl⟩
      · refine run.thn (fun σ' H' _ ⟨sx, e, ρ4, g4, hm4, hs4⟩ => ?_) (fun _ H' _ ⟨sx, e, po⟩ => ?_) (fun _ H' _ ⟨sx, e, po⟩ => ?_) (fun σ' H' _ ⟨sx, e, ρ4, g4, hm4, hs4⟩ => ?_)
        · rcases hg with hg | hg
          · rw [hg] at e; cases e; exact ⟨n, Nat.lt_succ_self n, s', ρ4, m4, G.trans g4, hm4, hs4, q10⟩
          · rw [hg] at e; cases e
        · rcases hg with hg | hg <;> (rw [hg] at e; cases e)
        · rcases hg with hg | hg <;> (rw [hg] at e; cases e)
        · rcases hg with hg | hg
          · rw [hg] at e; cases e
          · rw [hg] at e; cases e; exact ⟨n, Nat.lt_succ_self n, s', ρ4, m4, G.trans g4, hm4, hs4, q10⟩
      · refine run.thn (fun σ' H' _ ⟨sx, e, po⟩ => by cases e) (fun _ H' _ ⟨sx, e, po⟩ => by cases e) (fun _ H' _ ⟨sx, e, po⟩ => ?_) (fun σ' H' _ ⟨sx, e, po⟩ => by cases e)
        cases e
        exact ⟨s', rfl, po.back G⟩
      · refine run.thn (fun σ' H' _ ⟨sx, e, po⟩ => by cases e) (fun _ H' _ ⟨sx, e, po⟩ => ?_) (fun _ H' _ ⟨sx, e, po⟩ => by cases e) (fun σ' H' _ ⟨sx, e, po⟩ => by cases e)
        cases e
        exact ⟨v, rfl, po.back G⟩
end
end Rf

namespace Rf
open PySem PySem.Spec PyProof.Rows L2
section
variable {fa : Nat → Addr} {T : Tab} {k : Nat} {C : Cal} {X : Cx} {nm : Nms}
/-! ### name op= e -/
theorem ipI_ok {op : Operator} {o : Bop} {i j : Int} {d : D} (ho : ipOf op = some o) (h : binI o i j = some d) : ∃ n, d = .int n ∧ ∃ ti, PIp X op ti ∧ ∀ H (Q : VK), Q (.int n) H → ti (.int i) (.int j) H Q := by
  cases op <;> simp only [ipOf, Option.some.injEq, reduceCtorEq] at ho <;> subst ho
  · cases h
    exact ⟨_, rfl, _, iop_add, fun H Q q => ⟨i, j, rfl, rfl, q⟩⟩
  · cases h
    exact ⟨_, rfl, _, iop_sub, fun H Q q => ⟨i, j, rfl, rfl, q⟩⟩
  · simp only [binI] at h
    split at h
    · rename_i c
      cases h
      exact ⟨_, rfl, _, iop_mul, fun H Q q => ⟨i, j, rfl, rfl, c, q⟩⟩
    · cases h
  · simp only [binI] at h
    split at h
    · rename_i c
      cases h
      exact ⟨_, rfl, _, iop_mod, fun H Q q => ⟨i, j, rfl, rfl, c, q⟩⟩
    · cases h
  · simp only [binI] at h
    split at h
    · rename_i c
      cases h
      exact ⟨_, rfl, _, iop_fdivW, fun H Q q => ⟨i, j, rfl, rfl, wide_div (b := 64) c.1 (by omega) (by decide) (by decide), q⟩⟩
    · cases h
theorem sns_aug {x : Str} {p pos : Pos} {op : Operator} {o : Bop} {e : Expr} {i : Nat} {y : Ex} (c : Cok fa X T nm k C) (hx : slotS T nm x = some i) (ho : ipOf op = some o) (he : SndE fa X e (evE C y)) : SndS fa X (.AugAssign (.Name x p) op e pos) (exS C (.aug i o y)) := by
  intro s σ ρ M H r M' hs hm q
  obtain ⟨a1, a2, a3⟩ := slotS_ok c hx
  have q' : (match s[i]? with
    | some (some x) => (evE C y s M).bind fun y m => match x, y with
      | .d (.int _), .d (.int _) => (binV true o x y m).bind fun v m => R.ok (Fl.nx (s.set i (some v))) m
      | .d (.str _), .d (.str _) => (binV true o x y m).bind fun v m => .ok (.nx (s.set i (some v))) m
      | _, _ => .no
    | _ => .no) = .ok r M' := q
  split at q'
  · rename_i xv ex
    obtain ⟨yv, m1, q1, q2⟩ := R.bind_ok q'
    obtain ⟨z0, e0, r0⟩ := hs.at_ i _ ex
    have run := he s σ ρ M H yv m1 hs hm q1
    split at q2
    · rename_i n1 n2
      obtain ⟨v, m2, q3, q4⟩ := R.bind_ok q2
      cases q4
      obtain ⟨d, m3, q5, q6⟩ := R.bind_ok (show (R.opt (binI o n1 n2) m1).bind (fun x m => R.ok (Val.d x) m) = .ok v M' from q3)
      obtain ⟨q7, em⟩ := R.opt_ok q5
      subst em
      cases q6
      obtain ⟨n, rfl, ti, hti, fin⟩ := ipI_ok (X := X) ho q7
      cases r0
      refine ofS (ps_aug c.nd a1 a2 (pE e) hti a3) ⟨_, e0, run.thn fun z H1 _ ⟨ρ1, g1, hm1, r1⟩ => ?_⟩
      cases r1
      exact fin H1 _ ⟨_, rfl, ρ1, g1, hm1, (hs.go g1).set i .int⟩
    · rename_i n1 n2
      obtain ⟨v, m2, q3, q4⟩ := R.bind_ok q2
      cases q4
      have q3' : (match o with
        | .add => if n1.length + n2.length ≤ LINE then R.ok (Val.d (.str (n1 ++ n2))) m1 else .no
        | _ => .no) = .ok v M' := q3
      split at q3'
      · split at q3'
        · rename_i hl
          cases q3'
          cases op <;> simp [ipOf] at ho
          cases r0 with
          | str _ c1 =>
            refine ofS (ps_aug c.nd a1 a2 (pE e) iop_add_str a3) ⟨_, e0, run.thn fun z H1 _ ⟨ρ1, g1, hm1, r1⟩ => ?_⟩
            cases r1 with
            | str _ c2 =>
              refine ⟨_, _, rfl, rfl, ?_, ?_⟩
              · rw [s0_len, s0_len, ← line_eq]; exact hl
              · rw [s0_app]
                exact ⟨_, rfl, ρ1, g1, hm1, (hs.go g1).set i (.str (by rw [List.length_append]; exact hl) fun c hc => (List.mem_append.mp hc).elim (c1 c) (c2 c))⟩
        · cases q3'
      · cases q3'
    · cases q2
  · cases q'
/-! ### a, b = x, y -/
theorem blk_fn {env : Env} (hk : env.scope.kind = .function) : env.blockKind = .function := by
  unfold Env.blockKind
  rw [hk]
  rfl
theorem dup2 {x y : Str} (h : y ≠ x) : ([x, y] : List Str).eraseDups = [x, y] := by
  simp [List.eraseDups_cons, h]
theorem dup3 {x y z : Str} (h : y ≠ x) (h2 : z ≠ x) (h3 : z ≠ y) : ([x, y, z] : List Str).eraseDups = [x, y, z] := by
  simp [List.eraseDups_cons, h, h2, h3]
theorem ss_2 {x y : Str} {px py kt pt k2 pt2} {a b : Expr} {env : Env} (hk : env.scope.kind = .function) (hx : env.kindOf x = some .local) (hy : env.kindOf y = some .local) (ly : py.line = px.line) (n1 : y ≠ x) (ho : parOk [a, b] = true) :
    swappedStores [.Tuple [.Name x px, .Name y py] kt pt] (.Tuple [a, b] k2 pt2) env = pure (some [x, y]) := by
  unfold parOk at ho
  simp only [Bool.and_eq_true, Bool.not_eq_true'] at ho
  obtain ⟨⟨h1, h2⟩, h3⟩ := ho
  have hb := blk_fn hk
  have nms : ([Expr.Name x px, .Name y py].filterMap fun
    | .Name id pos => if env.kindOf id == some .local && pos.line == px.line then some id else none
    | _ => none) = [x, y] := by
    simp [hx, hy, ly]
  unfold swappedStores
  simp only [pure_bind]
  generalize hn : (List.filterMap _ [Expr.Name x px, .Name y py]) = ns
  have e : ns = [x, y] := hn.symm.trans nms
  subst e
  refine (if_neg (fun e => ?_)).trans ?_
  · rw [hb] at e
    exact Bool.false_ne_true e
  refine (if_neg (fun e => Bool.false_ne_true (h3.symm.trans e))).trans ?_
  refine (if_neg (fun e => ?_)).trans ?_
  · rw [dup2 n1] at e
    exact Bool.false_ne_true e
  refine (if_neg (fun e => Bool.false_ne_true (h1.symm.trans e))).trans ?_
  exact if_neg (fun e => Bool.false_ne_true (h2.symm.trans e))
theorem ss_3 {x y z : Str} {px py pz kt pt k2 pt2} {a b c : Expr} {env : Env} (hk : env.scope.kind = .function) (hx : env.kindOf x = some .local) (hy : env.kindOf y = some .local) (hz : env.kindOf z = some .local) (ly : py.line = px.line) (lz : pz.line = px.line) (n1 : y ≠ x) (n2 : z ≠ x) (n3 : z ≠ y) (ho : parOk [a, b, c] = true) :
    swappedStores [.Tuple [.Name x px, .Name y py, .Name z pz] kt pt] (.Tuple [a, b, c] k2 pt2) env = pure (some [x, y, z]) := by
  unfold parOk at ho
  simp only [Bool.and_eq_true, Bool.not_eq_true'] at ho
  obtain ⟨⟨h1, h2⟩, h3⟩ := ho
  have hb := blk_fn hk
  have nms : ([Expr.Name x px, .Name y py, .Name z pz].filterMap fun
    | .Name id pos => if env.kindOf id == some .local && pos.line == px.line then some id else none
    | _ => none) = [x, y, z] := by
    simp [hx, hy, hz, ly, lz]
  unfold swappedStores
  simp only [pure_bind]
  generalize hn : (List.filterMap _ [Expr.Name x px, .Name y py, .Name z pz]) = ns
  have e : ns = [x, y, z] := hn.symm.trans nms
  subst e
  refine (if_neg (fun e => ?_)).trans ?_
  · rw [hb] at e
    exact Bool.false_ne_true e
  refine (if_neg (fun e => Bool.false_ne_true (h3.symm.trans e))).trans ?_
  refine (if_neg (fun e => ?_)).trans ?_
  · rw [dup3 n1 n2 n3] at e
    exact Bool.false_ne_true e
  refine (if_neg (fun e => Bool.false_ne_true (h1.symm.trans e))).trans ?_
  exact if_neg (fun e => Bool.false_ne_true (h2.symm.trans e))
def parV : List Nat → List V → L2.St → L2.St
  | i :: is, v :: vs, σ => parV is vs (σ.set i (some v))
  | _, _, σ => σ
theorem parS_ok {ρ : Wd} {H : Hp} : ∀ {vs : List Val} {xs : List V}, RVs X.K fa ρ H vs xs → ∀ {is : List Nat} {s : Slots} {σ : L2.St} {s' : Slots}, SR X.K fa ρ H s σ → parS is vs s = some s' → SR X.K fa ρ H s' (parV is xs σ) ∧ is.length = xs.length
  | _, _, .nil, is, s, σ, s', hs, q => by
    cases is with
    | nil => cases q; exact ⟨hs, rfl⟩
    | cons _ _ => cases q
  | _, _, .cons r1 rr, is, s, σ, s', hs, q => by
    cases is with
    | nil => cases q
    | cons i is =>
      obtain ⟨a, b⟩ := parS_ok rr (is := is) (hs.set i r1) q
      exact ⟨a, by simp [b]⟩
theorem parN_cons {e : Expr} {r : List Expr} {l : List (Str × Nat × Nat)} (h : parN T nm (e :: r) = some l) : ∃ x p i l', e = .Name x p ∧ nm.lookup x = some .local ∧ ixIn x T.N = some i ∧ parN T nm r = some l' ∧ l = (x, i, p.line) :: l' ∧ ∀ q ∈ l', q.1 ≠ x ∧ q.2.1 ≠ i ∧ q.2.2 = p.line := by
  cases e with
  | Name x p =>
    have h' : (match decide (nm.lookup x = some .local), ixIn x T.N, parN T nm r with
      | true, some i, some l => if l.all (fun q => !decide (q.1 = x) && !decide (q.2.1 = i) && decide (q.2.2 = p.line)) then some ((x, i, p.line) :: l) else none
      | _, _, _ => none) = some l := h
    split at h'
    · rename_i i l' h1 h2 h3
      split at h'
      · rename_i h4
        cases h'
        refine ⟨x, p, i, l', rfl, of_decide_eq_true h1, h2, h3, rfl, fun q hq => ?_⟩
        have := List.all_eq_true.mp h4 q hq
        simp only [Bool.and_eq_true, Bool.not_eq_true', decide_eq_false_iff_not, decide_eq_true_eq] at this
        exact ⟨this.1.1, this.1.2, this.2⟩
      · cases h'
    · cases h'
  | _ => exact nomatch (show (none : Option (List (Str × Nat × Nat))) = some l from h)
theorem sns_par {ts vs : List Expr} {j j2 : Nat} {p p2 pos : Pos} {l : List (Str × Nat × Nat)} {es : Exs} {f : Expr → Option Ex} (c : Cok fa X T nm k C) (ho : parOk vs = true) (hl : vs.length = ts.length) (h23 : ts.length = 2 ∨ ts.length = 3) (hp : parN T nm ts = some l) (hc : cL f vs = some es) (he : SndA fa X vs (evEs C es)) :
    SndS fa X (.Assign [.Tuple ts j p] (.Tuple vs j2 p2) pos) (exS C (.par (l.map (·.2.1)) es)) := by
  intro s σ ρ M H r M' hs hm q
  obtain ⟨us, m1, q1, q⟩ := R.bind_ok q
  obtain ⟨s', m2, q2, q⟩ := R.bind_ok q
  obtain ⟨q3, em⟩ := R.opt_ok q2
  subst em
  cases q
  have run := he s σ ρ M H us M' hs hm q1
  refine seS.ok fun ok => ?_
  have at_ : ∀ {x : Str} {i : Nat}, ixIn x T.N = some i → X.N[i]? = some x := fun h => by rw [c.N]; exact ixIn_at h
  have lo : ∀ {x : Str}, nm.lookup x = some .local → X.env.scope.names.lookup x = some .local := fun h => c.na _ _ h (by decide)
  match ts, vs, hl, h23, hp with
  | [t1, t2], [a, b], _, _, hp =>
    obtain ⟨x, px, i, l1, rfl, lx, ix, hp1, rfl, al⟩ := parN_cons hp
    obtain ⟨y, py, i2, l2, rfl, ly, iy, hp2, rfl, al2⟩ := parN_cons hp1
    cases hp2
    have n1 := al (y, i2, py.line) (by simp)
    refine ofS (ps_par c.calm c.nd (at_ ix) (at_ iy) (Ne.symm n1.2.1) (lo lx) (lo ly) (pA [a, b]) (ss_2 ok.kind (lo lx) (lo ly) n1.2.2 n1.1 ho)) (run.thn fun xs H1 _ ⟨ρ1, g1, hm1, r1⟩ => ?_)
    obtain ⟨h1, h2⟩ := parS_ok r1 (hs.go g1) q3
    match xs, h1, h2 with
    | [v, w], h1, _ => exact ⟨v, w, rfl, s', rfl, ρ1, g1, hm1, h1⟩
  | [t1, t2, t3], [a, b, d], _, _, hp =>
    obtain ⟨x, px, i, l1, rfl, lx, ix, hp1, rfl, al⟩ := parN_cons hp
    obtain ⟨y, py, i2, l2, rfl, ly, iy, hp2, rfl, al2⟩ := parN_cons hp1
    obtain ⟨z, pz, i3, l3, rfl, lz, iz, hp3, rfl, al3⟩ := parN_cons hp2
    cases hp3
    have n1 := al (y, i2, py.line) (by simp)
    have n2 := al (z, i3, pz.line) (by simp)
    have n3 := al2 (z, i3, pz.line) (by simp)
    refine ofS (ps_par3 c.calm c.nd (at_ ix) (at_ iy) (at_ iz) (Ne.symm n1.2.1) (Ne.symm n2.2.1) (Ne.symm n3.2.1) (lo lx) (lo ly) (lo lz) (pA [a, b, d]) (ss_3 ok.kind (lo lx) (lo ly) (lo lz) n1.2.2 n2.2.2 n1.1 n2.1 n3.1 ho)) (run.thn fun xs H1 _ ⟨ρ1, g1, hm1, r1⟩ => ?_)
    obtain ⟨h1, h2⟩ := parS_ok r1 (hs.go g1) q3
    match xs, h1, h2 with
    | [v, w, u], h1, _ => exact ⟨v, w, u, rfl, s', rfl, ρ1, g1, hm1, h1⟩
  | [], _, _, h23, _ => simp at h23
  | [_], _, _, h23, _ => simp at h23
  | _ :: _ :: _ :: _ :: _, _, _, h23, _ => simp at h23
  | [_, _], [], hl, _, _ => simp at hl
  | [_, _], [_], hl, _, _ => simp at hl
  | [_, _], _ :: _ :: _ :: _, hl, _, _ => simp at hl
  | [_, _, _], [], hl, _, _ => simp at hl
  | [_, _, _], [_], hl, _, _ => simp at hl
  | [_, _, _], [_, _], hl, _, _ => simp at hl
  | [_, _, _], _ :: _ :: _ :: _ :: _, hl, _, _ => simp at hl
/-- a statement that is compiled does what is evaluated -/
theorem snd_st : ∀ (n : Nat) {X : Cx} {nm : Nms}, Cok fa X T nm k C → PassesOwn (model X.prog X.w) X.A X.env X.xe → ∀ (st : Stmt) (x : St), compS n T nm st = some x → SndS fa X st (exS C x)
  | 0, _, _, _, _, _, _, h => by cases h
  | n + 1, X, nm, c, pw, st, x, h => by
    have ih : ∀ st x, compS n T nm st = some x → SndS fa X st (exS C x) := fun st x h => snd_st n c pw st x h
    have ih1 : ∀ e x, compE n T nm e = some x → okE e = true → SndE fa X e (evE C x) := fun e x h _ => (snd_exp n c e x h).1
    have sub : ∀ {e x}, cE (compE n T nm) e = some x → okE e = true ∧ Snd fa C X e x := fun {e x} q => ⟨(cE_ok q).1, snd_exp n c e x (cE_ok q).2⟩
    have sts : ∀ {ss xs}, compSs (compS n T nm) ss = some xs → SndSs fa X ss (exSs C xs) := fun {ss xs} q => sss_of ih q
    unfold compS at h
    split at h
    · cases h
      exact fun s σ ρ M H r M' hs hm q => by
        cases q
        exact ofS ps_doc ⟨s, rfl, ρ, .refl, hm, hs⟩
    · split at h
      · cases h
      · rename_i hl
        obtain ⟨y, q, rfl⟩ := Option.map_eq_some_iff.mp h
        exact sns_ex (sub q).1 (by simpa using hl) (sub q).2.1
    · cases h; exact sns_retN
    · obtain ⟨y, q, rfl⟩ := Option.map_eq_some_iff.mp h
      exact sns_ret (sub q).2.1
    · cases h
      exact fun s σ ρ M H r M' hs hm q => by
        cases q
        exact ofS ps_pass ⟨s, rfl, ρ, .refl, hm, hs⟩
    · cases h
      exact fun s σ ρ M H r M' hs hm q => by
        cases q
        exact ofS ps_break ⟨s, rfl, ρ, .refl, hm, hs⟩
    · cases h
      exact fun s σ ρ M H r M' hs hm q => by
        cases q
        exact ofS ps_continue ⟨s, rfl, ρ, .refl, hm, hs⟩
    · split at h
      · rename_i q1 q2 q3
        cases h; exact sns_iff (sub q1).2.2 (sts q2) (sts q3)
      · cases h
    · split at h
      · rename_i q1 q2
        cases h; exact sns_whil pw (sub q1).2.2 (sts q2)
      · cases h
    · split at h
      · rename_i q1 q2 q3
        cases h
        obtain ⟨a, b⟩ := snd_cIt c ih1 q2
        exact sns_for c pw q1 b a (sts q3)
      · cases h
    · split at h
      · rename_i q1 q2
        cases h
        obtain ⟨i, q, rfl⟩ := Option.map_eq_some_iff.mp (show (slotS T nm _).map Tg.nm = some _ from q1)
        exact sns_name c q (cE_ok q2).1 (cE_ok q2).2
      · cases h
    · split at h
      · split at h
        · rename_i hh
          split at h
          · rename_i q1 q2
            cases h
            exact sns_par c hh.1 hh.2.1 hh.2.2 q1 q2 (snd_cL ih1 q2)
          · cases h
        · cases h
      · rename_i hn
        split at h
        · rename_i q1 q2
          cases h
          refine sns_tup c q1 ?_ (sub q2).2.1
          unfold isTup
          split
          · exact (hn _ _ _ rfl).elim
          · rfl
        · cases h
    · split at h
      · rename_i q1 q2 q3
        cases h; exact sns_set (sub q1).2.1 (sub q2).2.1 (sub q3).2.1 (sub q2).1
      · cases h
    · split at h
      · rename_i q1 q2 q3
        cases h; exact sns_aug c q1 q2 (sub q3).2.1
      · cases h
    · cases h
end
end Rf

namespace Rf
open PySem PySem.Spec PyProof.Rows L2
/-! ### calls -/
def cxN (P : Program) (w : World) (K : PySem.W.Frag) (mg : Str → Option Value) (base : Heap) (N : List Str) (qual : Str) (scope : Scope) (f : Addr) (cd : Value) (A : Around) (outer : List Env) (s : Shared) (H : Hp) : Cx :=
  { cxOf CX0 P w K mg base N qual scope f cd A outer s H (fun _ _ _ => False) with xe := fun _ _ => False }
theorem Rm.deeper {k : Nat} {A : Around} (h : Rm (k + 1) A) (env : Env) : Rm k (A.deeper env) := ⟨h.r.deeper env, h.g⟩
theorem Rm.mono {j k : Nat} {A : Around} (r : Rm k A) (h : j ≤ k) : Rm j A := ⟨r.r.mono h, r.g⟩
theorem datas_eq : ∀ {vs : List Val} {ds : List D}, datas vs = some ds → vs = ds.map .d
  | [], ds, h => by cases h; rfl
  | .d x :: vs, ds, h => by
    unfold datas at h
    split at h
    · rename_i xs q
      cases h
      rw [datas_eq q]
      rfl
    · cases h
  | .r _ :: _, _, h => by cases h
section
variable {P : Program} {w : World} {K : PySem.W.Frag} {mg : Str → Option Value} {base : Heap} {fa : Nat → Addr}
theorem slots0 {ρ : Wd} {H : Hp} {N : List Str} {np : Nat} {as : List Val} {vs : List V} (r : RVs K fa ρ H as vs) (h : as.length = np) (hN : np ≤ N.length) : SR K fa ρ H (as.map some ++ List.replicate (N.length - np) none) (L2.start N vs) := by
  have hl : vs.length = np := by rw [← r.length]; exact h
  refine ⟨by simp [L2.start, h, hl], fun i x e => ?_⟩
  unfold L2.start
  by_cases hi : i < as.length
  · rw [List.getElem?_append_left (by simpa using hi), List.getElem?_map] at e
    cases q : as[i]? with
    | none => rw [q] at e; cases e
    | some y =>
      rw [q] at e
      cases e
      obtain ⟨v, e1, e2⟩ := r.get q
      refine ⟨v, ?_, e2⟩
      rw [List.getElem?_append_left (by rw [List.length_map, ← r.length]; exact hi), List.getElem?_map, e1]
      rfl
  · rw [List.getElem?_append_right (by simpa using hi), List.getElem?_replicate] at e
    split at e <;> cases e
/-- a def of the text, as it is compiled -/
structure DefOk (K : PySem.W.Frag) (T : Tab) (fr : Fn) (f : Addr) : Prop where
  ex : ∃ (x qual : Str) (params : Arguments) (body : List Stmt) (scope : Scope) (fd : FuncData) (ps N : List Str) (n : Nat),
    FunD K x qual params body scope [] [] f fd ∧ FnScope N ps scope ∧ ps.length = fr.np ∧ N.length = fr.n ∧
    (∀ (kV doc pm : Value) (an : Option Addr) (cdv ct : Value) (us : List Value), us.length = ps.length → bindArgs (PySem.W.fnOf x qual params body scope .none kV doc pm an cdv ct) ⟨us, []⟩ = pure (ps.zip us)) ∧
    compSs (compS n { T with N := N } scope.names) body = some fr.body
/-- the program's facts -/
structure Facts (K : PySem.W.Frag) (mg : Str → Option Value) (fa : Nat → Addr) (T : Tab) (pr : Prog) : Prop where
  fn : ∀ x f np, T.fid.lookup x = some (f, np) → mg x = some (.ref (fa f)) ∧ PySem.W.keepIn K (.ref (fa f)) = true ∧ ∃ fr, pr.fn f = some fr ∧ fr.np = np
  df : ∀ f fr, pr.fn f = some fr → DefOk K T fr (fa f)
  gl : ∀ x g d, T.gid.lookup x = some g → pr.glo g = some d → ∃ v u, mg x = some u ∧ RelV v u ∧ ∀ ρ H, RD K fa ρ H d v
  fr : ∀ x ∈ T.free, mg x = none
theorem body_run {T : Tab} {pr : Prog} {k : Nat} (F : Facts K mg fa T pr) (ih : ∀ f fr, pr.fn f = some fr → FnG P w K mg base fa k f fr.np (callN pr k f)) {f : Nat} {fr : Fn} (hf : pr.fn f = some fr)
    {A : Around} {outer : List Env} {s : Shared} {H : Hp} {us : List Value} {vs : List V} {as : List Val} {ρ : Wd} {M : Mem} {v : Val} {M' : Mem} (hr : Rm (k + 1) A) (e0 : Env0 P w K mg base A outer s H) (rv : Vals vs us) (r : RVs K fa ρ H as vs) (hm : HR K fa ρ M H)
    (hl : as.length = fr.np) (hq : runB ⟨callN pr k, pr.glo, WF⟩ fr as M = .ok v M') :
    codeAny (model P w) A (.call (.ref (fa f)) ⟨us, []⟩) (fun r s' => match r with
      | .ok (.ret u) => CE outer P w H s (PoE K fa ρ H v M') u s'
      | _ => False) s := by
  obtain ⟨x, qual, params, body, scope, fd, ps, N, n, FD, S, hps, hN, hbind, hc⟩ := (F.df f fr hf).ex
  obtain ⟨oc, od, dV, kV, doc, pm, an, cdv, ct, osl, rfl, lk, hcd, hD, _⟩ := FD.ex
  have hdV : dV = .none := by
    rcases hD with ⟨_, h⟩ | ⟨h, _⟩
    · exact h
    · exact absurd rfl h
  subst hdV
  have hlv : vs.length = ps.length := by rw [← r.length, hl, hps]
  have hlu : us.length = ps.length := by rw [← rv.length, hlv]
  have KX : K.In s.heap := e0.mod.kin.keeps fun b o e => (e0.bs b o e).1
  have lim : s.heap.NoLimit := e0.mod.nolimit.keeps fun b o e => (e0.bs b o e).1
  have hkind : ∀ y ∈ ps.zip us, scope.names.lookup y.1 = some .local ∨ (scope.names.lookup y.1 = some .cell ∧ ((cellsFrom (s.heap.objs.size + 1) scope.names []).lookup y.1).isSome = true) := fun ⟨n, v⟩ hy => by
    rcases S.par n (List.of_mem_zip hy).1 with q | q
    · exact .inl q
    · exact .inr ⟨q, PySem.W.cellsFrom_some _ _ _ (.inl q)⟩
  refine codeAny_call_function hr.r.depth (KX _ _ lk) rfl S.co S.gen rfl (PySem.W.codeRec_of KX hcd) ((BindsTo.of_eq (hbind kV doc pm an cdv ct us hlu)) _ _ _ _ ?_)
  refine wpAny_newFunctionEnv_cells S.kind hkind fun env he s1 xx => ?_
  subst he
  refine ⟨lim.keeps xx.toInCall.keep, codeAny_func ?_⟩
  have I0 : Inv (cxOf CX0 P w K mg base N qual scope (fa f) cdv A outer s H (fun _ _ _ => False)) [] (L2.start N vs) H s1 := inv_start S hr.r.hd e0 hlv rv xx
  have I : Inv (cxN P w K mg base N qual scope (fa f) cdv A outer s H) [] (L2.start N vs) H s1 :=
    ⟨⟨I0.ok.mod, I0.ok.kind, I0.ok.glob, I0.ok.blt, I0.ok.above, I0.ok.inj, I0.ok.has, I0.ok.cab, I0.ok.hd, I0.ok.frames, I0.ok.stk, I0.ok.exf, I0.ok.bs, I0.ok.bsz, I0.ok.noex, I0.ok.exfs, I0.ok.funs, I0.ok.frf⟩,
      I0.os, I0.bare, I0.base, I0.loc, I0.cell, I0.free, I0.freeC, I0.pin, I0.hok, I0.len⟩
  have ck : Cok fa (cxN P w K mg base N qual scope (fa f) cdv A outer s H) { T with N := N } scope.names k ⟨callN pr k, pr.glo, WF⟩ := by
    refine ⟨rfl, S.nd, rfl, hr.deeper _, Nat.zero_le _, fun x kd h _ => h, fun x h => .inl h, fun x g np h => ?_, fun x g d h1 h2 => F.gl x g d h1 h2, F.fr, fun _ _ => rfl⟩
    obtain ⟨h1, h2, fr2, h3, h4⟩ := F.fn x g np h
    exact ⟨h1, h2, by rw [← h4]; exact ih g fr2 h3⟩
  unfold runB at hq
  rw [decide_eq_true hl] at hq
  obtain ⟨fl, m1, q1, q2⟩ := R.bind_ok hq
  have pN : fr.np ≤ N.length := by
    have := congrArg List.length S.pre
    rw [List.length_take] at this
    omega
  rw [← hN] at q1
  have run := sss_of (fun st x h => snd_st n ck PassesOwn.never st x h) hc _ _ ρ M H fl m1 (slots0 r hl pN) hm q1
  refine wpAny_mono (run [] s1 I) (fun f2 s' hs => ?_) fun e s' hs => hs.elim
  have fin : ∀ {σ' : L2.St} {H' : Hp} {z : V} {u : Value}, Inv (cxN P w K mg base N qual scope (fa f) cdv A outer s H) [] σ' H' s' → RelV z u → PoE K fa ρ H v M' z H' → CE outer P w H s (PoE K fa ρ H v M') u s' :=
    fun {σ' H' z u} J rz q => ⟨z, H', J.os, J.bare, J.base, J.hok, rz, q⟩
  cases f2 with
  | ret u =>
    obtain ⟨z, σ', H', J, rz, wv, e, po⟩ := hs
    subst e
    cases q2
    exact fin J rz po
  | next =>
    obtain ⟨σ', H', J, sv, e, ρ', g, hm', _⟩ := hs
    subst e
    cases q2
    exact fin (z := V.non) (u := Value.none) J rfl ⟨ρ', g, hm', .non⟩
  | brk =>
    obtain ⟨_, _, _, sv, e, _⟩ := hs
    subst e
    cases q2
  | cont =>
    obtain ⟨_, _, _, sv, e, _⟩ := hs
    subst e
    cases q2
theorem froz_ok {ρ1 : Wd} {H : Hp} {m : Mem} {v : Val} {x : D} {z : V} (hm : HR K fa ρ1 m H) (r : RV K fa ρ1 H v z) (h : froz m v = some x) {ρ : Wd} (k : Kp ρ1 H ρ H) (o : ∀ a ∈ ρ1.l, ρ.out a) : RD K fa ρ H x z := by
  cases v with
  | d y =>
    have e : y = x := Option.some.inj h
    subst e
    exact RD.kp k r
  | r i =>
    have h' : (match m[i]? with
      | some (.lst vs) => (datas vs).map D.lst
      | _ => none) = some x := h
    split at h'
    · rename_i us qi
      obtain ⟨ds, qd, rfl⟩ := Option.map_eq_some_iff.mp h'
      obtain ⟨a, vs, e1, rfl, h1, r1⟩ := hm.lst qi r
      exact .lst h1 (o a (List.mem_of_getElem? e1)) ((RVs.ds r1 qd).kp k)
    · cases h'
theorem all_fns {T : Tab} {pr : Prog} (F : Facts K mg fa T pr) : ∀ (k : Nat) (f : Nat) (fr : Fn), pr.fn f = some fr → FnG P w K mg base fa k f fr.np (callN pr k f)
  | 0, f, fr, hf => fun A outer s H us vs as ρ M v M' hr e0 rv r hm hl hq => by cases hq
  | k + 1, f, fr, hf => fun A outer s H us vs as ρ M v M' hr e0 rv r hm hl hq => by
    have ih := all_fns F k
    have hq' : (match fr.pure with
      | false => runB ⟨callN pr k, pr.glo, WF⟩ fr as M
      | true => match datas as with
        | none => .no
        | some _ => match runB ⟨callN pr k, pr.glo, WF⟩ fr as [] with
          | .ok v m' => (R.opt (froz m' v) M).bind fun x m => .ok (.d x) m
          | .ex e _ => .ex e M
          | .no => .no) = .ok v M' := by
      have : callN pr (k + 1) f as M = .ok v M' := hq
      unfold callN at this
      rw [hf] at this
      exact this
    cases hp : fr.pure with
    | false =>
      rw [hp] at hq'
      exact body_run F ih hf hr e0 rv r hm hl hq'
    | true =>
      rw [hp] at hq'
      cases hd : datas as with
      | none => rw [hd] at hq'; cases hq'
      | some ds =>
        rw [hd] at hq'
        have hq2 : (match runB ⟨callN pr k, pr.glo, WF⟩ fr as [] with
          | .ok v m' => (R.opt (froz m' v) M).bind fun x m => R.ok (Val.d x) m
          | .ex e _ => .ex e M
          | .no => .no) = .ok v M' := hq'
        cases hrun : runB ⟨callN pr k, pr.glo, WF⟩ fr as [] with
        | no => rw [hrun] at hq2; cases hq2
        | ex e m' => rw [hrun] at hq2; cases hq2
        | ok v1 m1 =>
          rw [hrun] at hq2
          obtain ⟨x, m2, q1, q2⟩ := R.bind_ok hq2
          obtain ⟨q3, em⟩ := R.opt_ok q1
          subst em
          cases q2
          have k0 : Kp ρ H ⟨[], ρ.l ++ ρ.z⟩ H := ⟨fun p o e n => ⟨e, by simp, fun m => (List.mem_append.mp m).elim n.1 n.2⟩⟩
          have hm0 : HR K fa ⟨[], ρ.l ++ ρ.z⟩ [] H := ⟨rfl, List.nodup_nil, fun i a o e => by simp at e, fun a m => by
            rcases List.mem_append.mp m with m | m
            · obtain ⟨vs, e⟩ := hm.trk m
              rw [e]; simp
            · exact hm.zr a m⟩
          have r0 : RVs K fa ⟨[], ρ.l ++ ρ.z⟩ H as vs := by
            have := ((RVs.ds r hd).kp k0).vs
            rw [← datas_eq hd] at this
            exact this
          refine codeAny_mono (body_run F ih hf hr e0 rv r0 hm0 hl hrun) fun r2 s' h2 => ?_
          cases r2 with
          | error e => exact h2
          | ok fl =>
            cases fl with
            | ret u =>
              obtain ⟨z, H', h3, h4, h5, h6, h7, ρ1, g, hm1, rz⟩ := h2
              refine ⟨z, H', h3, h4, h5, h6, h7, ρ, ⟨⟨[], by simp, by simp⟩, rfl, fun b o e _ => g.fr b o e (by simp), g.dm⟩, ?_, ?_⟩
              · exact hm.kp ⟨fun p o e n => ⟨g.fr p o e (by simp), n⟩⟩ rfl (fun a m => by
                  obtain ⟨vs, e⟩ := hm.trk m
                  rw [e]
                  exact g.fr a _ e (by simp)) (fun a m => g.dm a (hm.zr a m))
              · have zz : ρ1.z = ρ.l ++ ρ.z := g.zz
                refine froz_ok hm1 rz q3 ⟨fun p o e n => ⟨e, fun m => n.2 (by rw [zz]; exact List.mem_append_left _ m), fun m => n.2 (by rw [zz]; exact List.mem_append_right _ m)⟩⟩ fun a ha => ?_
                obtain ⟨n, e1, e2⟩ := g.gr
                have e1' : ρ1.l = n := by rw [e1]; rfl
                rw [e1'] at ha
                have hn := e2 a ha
                exact hm.out hn
            | next => exact h2
            | brk => exact h2
            | cont => exact h2
end
end Rf

namespace Rf
open PySem PySem.Spec PyProof.Rows L2
/-! ### the law's own call -/
/-- the heap that tracks the script alone (unless it is the module's own) -/
def scrH (K : PySem.W.Frag) (a : Addr) (o : Obj) (ns : List Int) : Hp := fun b => if K.lookup a = none ∧ b = a then some (.frz o (.lst (ns.map V.int))) else none
theorem scrH_some {K : PySem.W.Frag} {a b : Addr} {o : Obj} {ns : List Int} {u : HO} (h : scrH K a o ns b = some u) : K.lookup a = none ∧ b = a ∧ u = .frz o (.lst (ns.map V.int)) := by
  unfold scrH at h
  split at h
  · rename_i c
    cases h
    exact ⟨c.1, c.2, rfl⟩
  · cases h
section
variable {P : Program} {w : World} {K : PySem.W.Frag} {mg mb : Str → Option Value} {fa : Nat → Addr} {s1 : Shared} {a : Addr} {vs : List Value} {ns : List Int}
theorem law_run {k f : Nat} {g : List Val → Mem → R Val} {M' : Mem} (hK : K.In s1.heap) (hN : s1.heap.Ns mainGlobals mg) (hB : s1.heap.Ns builtinsNs mb) (hBB : ∀ x : Str, x ≠ "__name__" → mb x = bootBuiltins x) (hL : s1.heap.NoLimit) (hG : s1.gens = #[])
    (hA : s1.heap.get? a = some { cls := .type "list", data := .seq vs.toArray }) (hI : IntsAre vs ns) (hl : ns.length ≤ sizeLine) (hr : Room k callerA)
    (F : ∀ base : Heap, FnG P w K mg base fa k f 1 g) (hg : g [.d (.scr ns)] [] = .ok (.d (.bl true)) M') :
    codeAny (model P w) callerA (.call (.ref (fa f)) ⟨[.ref a], []⟩) (fun r s' => r = .ok (.ret (.bool true)) ∧ OldK s1.heap s'.heap ∧ s'.os = s1.os ∧ AllBare s'.gens) s1 := by
  have vi := vals_ints hI
  have sz : vs.toArray.size ≤ sizeLine := by rw [List.size_toArray, hI.length]; exact hl
  let H : Hp := scrH K a { cls := .type "list", data := .seq vs.toArray } ns
  have only : ∀ {b o}, s1.heap.get? b = some o → (b = a → K.lookup a ≠ none) → H b = none := by
    intro b o e n
    cases q : H b with
    | none => rfl
    | some u =>
      obtain ⟨h1, h2, _⟩ := scrH_some q
      exact absurd h1 (n h2)
  have onlyD : ∀ {b : Addr} {o : Obj} {es : Array DictEntry} {ep : Nat}, s1.heap.get? b = some o → o.data = .dict es ep → H b = none := by
    intro b o es ep e d
    cases q : H b with
    | none => rfl
    | some u =>
      obtain ⟨_, h2, _⟩ := scrH_some q
      subst h2
      rw [hA] at e
      cases e
      exact nomatch (show Data.seq vs.toArray _ = Data.dict es ep from d)
  have kIn : K.In (hidT s1.heap H) := fun b o e => hidT_get (hK b o e) (only (hK b o e) fun z n => by rw [z, n] at e; cases e)
  have space : ∀ {b : Addr} {m : Str → Option Value}, s1.heap.Ns b m → (hidT s1.heap H).Ns b m := by
    rintro b m ⟨o, es, ep, e, d, q⟩
    exact ⟨o, es, ep, hidT_get e (onlyD e d), d, q⟩
  have md : Mod K mg (hidT s1.heap H) := by
    obtain ⟨mc, n1, n2⟩ := hL
    exact ⟨kIn, space hN, ⟨mb, space hB, hBB⟩, ⟨mc, space n1, n2⟩⟩
  have hok : HOk P w H s1.heap := by
    intro b u e
    obtain ⟨_, h2, h3⟩ := scrH_some e
    subst h2 h3
    exact ⟨hA, by rw [List.length_map]; exact hl, vs, _, vi, hA⟩
  have ev : Env0 P w K mg (hidT s1.heap H) callerA [] s1 H :=
    ⟨rfl, md, fun b o e => of_hidT e, Nat.le_of_eq (hidT_size _ _), trivial, (fun b m => by cases m), hok, .of_eq hG⟩
  have lo : LstO K ⟨[], []⟩ H a (ns.map V.int) := by
    cases hk : K.lookup a with
    | none => exact .inl ⟨.inr ⟨_, if_pos ⟨hk, rfl⟩⟩, by simp [Wd.out]⟩
    | some o =>
      have e := hK a o hk
      rw [hA] at e
      cases e
      exact .inr ⟨_, vs.toArray, _, hk, rfl, rfl, rfl, sz, by simpa using vi⟩
  have rd : RVs K fa ⟨[], []⟩ H [.d (.scr ns)] [.ref a] := .cons (.scr lo.sq lo) .nil
  have hm : HR K fa ⟨[], []⟩ [] H := ⟨rfl, List.nodup_nil, fun i a o e => by simp at e, fun a m => by cases m⟩
  refine codeAny_mono (F _ callerA [] s1 H [.ref a] [.ref a] [.d (.scr ns)] ⟨[], []⟩ [] (.d (.bl true)) M' ⟨hr, rfl⟩ ev (.cons rfl .nil) rd hm rfl hg) fun r s' h => ?_
  cases r with
  | error e => exact h.elim
  | ok fl =>
    cases fl with
    | next => exact h.elim
    | brk => exact h.elim
    | cont => exact h.elim
    | ret u =>
      obtain ⟨z, H', os, br, un, hok', rz, ρ', gg, hm', rz2⟩ := h
      cases rz2
      obtain rfl : u = Value.bool true := rz
      refine ⟨rfl, OldK.of_keep fun b o e => ?_, os, br⟩
      cases q : H b with
      | none => exact un.keep b o e q (by intro m; cases m) (by simp)
      | some u =>
        obtain ⟨_, _, h3⟩ := scrH_some q
        subst h3
        obtain ⟨e2, _⟩ := hok' b _ (un.frzs b _ _ q)
        obtain ⟨e1, _⟩ := hok b _ q
        rw [e] at e1
        cases e1
        exact e2
end
theorem walk_rf {l : PySem.W.OpenLaw} {n k : Nat} {q : Program} {loose : List Str} {XP : (Str → Option Value) → Heap → Prop} {YP : World → Heap → Prop} {d : DefRec} (hn : l.most = some n) (hz : n ≤ sizeLine) (hd : d.params.defaults = []) (hr : Room k callerA)
    (F : ∀ (w : World) (mg : Str → Option Value) (a : Addr) (h : Heap), YP w h → h.Ns mainGlobals mg → mg d.name = some (.ref a) →
      ∃ (K : PySem.W.Frag) (fa : Nat → Addr) (T : Tab) (pr : Prog) (f : Nat) (fr : Fn), K.In h ∧ fa f = a ∧ Facts K mg fa T pr ∧ pr.fn f = some fr ∧ fr.np = 1 ∧ ∀ ns : List Int, ns.length ≤ n → ∃ M', callN pr k f [.d (.scr ns)] [] = .ok (.d (.bl true)) M') :
    PySem.W.WalkO q loose XP YP l.row.toRowW d [] (fun f vs => PySem.call f vs) := by
  refine Att.attach_call hn hd fun w s0 s1 mg mb a o pm cd doc p vs ns G Y ho hf hc hm hobj hints hlen hg => ?_
  obtain ⟨K, fa, T, pr, f, fr, hK, ha, Fc, hfr, h1, hlaw⟩ := F w mg a _ Y G.T.g hm
  obtain ⟨M', hcall⟩ := hlaw ns hlen
  rw [← ha]
  refine law_run hK G.T.g G.T.b G.T.builtins G.T.nolimit hg hobj hints (Nat.le_trans hlen hz) hr (fun base => ?_) hcall
  have := all_fns (P := l.prog) (w := w) (base := base) Fc k f fr hfr
  rw [h1] at this
  exact this

/-! ### what the head looks at -/
def cpB (s : List Nat) : Bool := s.all fun c => decide (c < 0x110000)
mutual
/-- a datum of the written part -/
def dOk (K : PySem.W.Frag) : D → Value → Bool
  | .non, .none => true
  | .bl b, .bool c => b == c
  | .int i, .int j _ => decide (i = j)
  | .str s, .str y _ => decide (y = S0 s) && decide (s.length ≤ LINE) && cpB s
  | .tup ds, .ref p => match K.lookup p with
    | some ⟨.type c, _, .seq its _, _⟩ => decide (c = "tuple") && decide (its.size ≤ sizeLine) && dsOk K ds its.toList
    | _ => false
  | .scr ns, .ref p => match K.lookup p with
    | some ⟨.type c, none, .seq its _, _⟩ => decide (c = "list") && decide (its.size ≤ sizeLine) && iOk ns its.toList
    | _ => false
  | _, _ => false
def dsOk (K : PySem.W.Frag) : List D → List Value → Bool
  | [], [] => true
  | d :: ds, v :: vs => dOk K d v && dsOk K ds vs
  | _, _ => false
def iOk : List Int → List Value → Bool
  | [], [] => true
  | i :: is, .int j _ :: vs => decide (i = j) && iOk is vs
  | _, _ => false
end
theorem iOk_ok : ∀ {ns : List Int} {vs : List Value}, iOk ns vs = true → Vals (ns.map V.int) vs
  | [], [], _ => .nil
  | [], _ :: _, h => by simp [iOk] at h
  | _ :: _, [], h => by simp [iOk] at h
  | i :: is, v :: vs, h => by
    cases v with
    | int j t =>
      simp only [iOk, Bool.and_eq_true, decide_eq_true_eq] at h
      obtain ⟨rfl, h⟩ := h
      exact .cons ⟨t, rfl⟩ (iOk_ok h)
    | _ => simp [iOk] at h
mutual
theorem dOk_ok {K : PySem.W.Frag} {fa : Nat → Addr} : ∀ {d : D} {v : Value}, dOk K d v = true → ∃ x : V, RelV x v ∧ ∀ ρ H, RD K fa ρ H d x
  | .non, v, h => by
    cases v <;> first | (simp [dOk] at h; done) | exact ⟨.non, rfl, fun _ _ => .non⟩
  | .bl b, v, h => by
    cases v <;> first | (simp [dOk] at h; done) | skip
    simp only [dOk, beq_iff_eq] at h
    subst h
    exact ⟨.bl b, rfl, fun _ _ => .bl⟩
  | .int i, v, h => by
    cases v <;> first | (simp [dOk] at h; done) | skip
    simp only [dOk, decide_eq_true_eq] at h
    subst h
    exact ⟨.int i, ⟨_, rfl⟩, fun _ _ => .int⟩
  | .str s, v, h => by
    cases v <;> first | (simp [dOk] at h; done) | skip
    simp only [dOk, Bool.and_eq_true, decide_eq_true_eq] at h
    obtain ⟨⟨rfl, h2⟩, h3⟩ := h
    exact ⟨.str (S0 s), ⟨_, rfl⟩, fun _ _ => .str h2 fun c hc => of_decide_eq_true (List.all_eq_true.mp h3 c hc)⟩
  | .tup ds, v, h => by
    cases v <;> first | (simp [dOk] at h; done) | skip
    rename_i p
    simp only [dOk] at h
    split at h
    · rename_i c od its n sl q
      simp only [Bool.and_eq_true, decide_eq_true_eq] at h
      obtain ⟨⟨rfl, h2⟩, h3⟩ := h
      obtain ⟨xs, h4, h5⟩ := dsOk_ok (fa := fa) h3
      have t : ∀ ρ H, TupO K ρ H p xs := fun ρ H => .inr ⟨_, its, n, q, rfl, rfl, h2, h4⟩
      exact ⟨.ref p, rfl, fun ρ H => .tup (t ρ H).sq (t ρ H) (h5 ρ H)⟩
    · cases h
  | .scr ns, v, h => by
    cases v <;> first | (simp [dOk] at h; done) | skip
    rename_i p
    simp only [dOk] at h
    split at h
    · rename_i c its n sl q
      simp only [Bool.and_eq_true, decide_eq_true_eq] at h
      obtain ⟨⟨rfl, h2⟩, h3⟩ := h
      have t : ∀ ρ H, LstO K ρ H p (ns.map V.int) := fun ρ H => .inr ⟨_, its, n, q, rfl, rfl, rfl, h2, iOk_ok h3⟩
      exact ⟨.ref p, rfl, fun ρ H => .scr (t ρ H).sq (t ρ H)⟩
    · cases h
  | .lst _, v, h => by cases v <;> simp [dOk] at h
  | .dct _, v, h => by cases v <;> simp [dOk] at h
  | .set _, v, h => by cases v <;> simp [dOk] at h
  | .fn _, v, h => by cases v <;> simp [dOk] at h
  | .obj _ _, v, h => by cases v <;> simp [dOk] at h
theorem dsOk_ok {K : PySem.W.Frag} {fa : Nat → Addr} : ∀ {ds : List D} {vs : List Value}, dsOk K ds vs = true → ∃ xs : List V, Vals xs vs ∧ ∀ ρ H, RDs K fa ρ H ds xs
  | [], [], _ => ⟨[], .nil, fun _ _ => .nil⟩
  | [], _ :: _, h => by simp [dsOk] at h
  | _ :: _, [], h => by simp [dsOk] at h
  | d :: ds, v :: vs, h => by
    simp only [dsOk, Bool.and_eq_true] at h
    obtain ⟨x, a1, a2⟩ := dOk_ok (fa := fa) h.1
    obtain ⟨xs, b1, b2⟩ := dsOk_ok (fa := fa) h.2
    exact ⟨x :: xs, .cons a1 b1, fun ρ H => .cons (a2 ρ H) (b2 ρ H)⟩
end
/-- what a law's text is: its defs (with their names as globals), its constants, the built-in names that it uses -/
structure Txt where
  defs : List He.DefD
  cons : List (Str × D)
  free : List Str
def cOk (K : PySem.W.Frag) (q : Str × D) : Bool := match PySem.W.nsIn K mainGlobals q.1 with
  | some (some v) => dOk K q.2 v
  | _ => false
def Txt.obs (t : Txt) (K : PySem.W.Frag) : Bool × List He.FnW :=
  ((t.defs.all fun d => He.Fa.ok K (.glo d.at_.1)) && (t.free.all fun x => He.Fa.ok K (.free x)) && (t.cons.all fun q => cOk K q) && t.defs.all fun d => d.ok K, t.defs.map fun d => He.fnW K d.at_)
def Txt.val (t : Txt) : Bool × List He.FnW := (true, t.defs.map He.DefD.val)
def Txt.obsG (t : Txt) (n : Nat) (g : Addr → Option Obj) : Bool × List He.FnW := t.obs (He.frG g (He.asG g n))
def Txt.hook (t : Txt) (n : Nat) : PySem.W.Hook where
  α := Bool × List He.FnW
  obs := fun s => t.obsG n s.heap.get?
  val := fun _ => t.val
  says := fun _ h => ∃ K : PySem.W.Frag, K.In h ∧ t.obs K = t.val
  of := fun _ _ e => ⟨_, He.frG_in, e⟩
  keeps := fun _ _ _ ⟨K, hK, c⟩ k => ⟨K, PySem.W.Frag.In.keeps hK k, c⟩
theorem Txt.obsG_eq (t : Txt) {n : Nat} {g : Addr → Option Obj} {s : Shared} (h : ∀ a, g a = s.heap.get? a) : t.obsG n g = (t.hook n).obs s := by
  have e : g = s.heap.get? := funext h
  rw [e] <;> rfl
def Txt.fa (t : Txt) (K : PySem.W.Frag) (i : Nat) : Addr := match t.defs[i]? with
  | some d => He.fAd K d.at_
  | none => 0
/-- the program of the text: how each def is compiled -/
structure DefC where
  ps : List Str
  N : List Str
  pure : Bool
  body : Sts
def cOf (d : DefC) : Fn := ⟨d.ps.length, d.N.length, d.pure, d.body⟩
def nodupB : List Str → Bool
  | [] => true
  | x :: r => !(r.contains x) && nodupB r
theorem nodupB_ok : ∀ {l : List Str}, nodupB l = true → l.Nodup
  | [], _ => List.nodup_nil
  | x :: r, h => by
    simp only [nodupB, Bool.and_eq_true, Bool.not_eq_true', List.contains_eq_mem, decide_eq_false_iff_not] at h
    exact List.nodup_cons.mpr ⟨h.1, nodupB_ok h.2⟩
/-- the names of a def's block, looked at -/
def scB (sc : Scope) (ps N : List Str) : Bool :=
  decide (sc.kind = .function) && !sc.isCoroutine && !sc.isGenerator && nodupB N && decide (N.take ps.length = ps) && (ps.all fun x => decide (sc.names.lookup x = some .local) || decide (sc.names.lookup x = some .cell)) && (sc.names.all fun y => !decide (y.2 = .free))
theorem scB_ok {sc : Scope} {ps N : List Str} (h : scB sc ps N = true) : FnScope N ps sc := by
  unfold scB at h
  simp only [Bool.and_eq_true, decide_eq_true_eq, Bool.not_eq_true', List.all_eq_true, Bool.or_eq_true, decide_eq_false_iff_not] at h
  obtain ⟨⟨⟨⟨⟨⟨h1, h2⟩, h3⟩, h4⟩, h5⟩, h6⟩, h7⟩ := h
  exact ⟨h1, h2, h3, nodupB_ok h4, h5, h6, fun y hy => h7 y hy⟩
end Rf
namespace Rf
open PySem PySem.Spec PyProof.Rows L2
/-! ### from the text's parts to the program's facts -/
def fidOf : Nat → List He.DefD → List DefC → List (Str × Nat × Nat)
  | i, d :: ds, c :: cs => (d.at_.1, i, c.ps.length) :: fidOf (i + 1) ds cs
  | _, _, _ => []
def gidOf : Nat → List (Str × D) → List (Str × Nat)
  | _, [] => []
  | i, q :: qs => (q.1, i) :: gidOf (i + 1) qs
def tabOf (t : Txt) (cs : List DefC) (mu : List (Nat × Nat)) : Tab := ⟨[], fidOf 0 t.defs cs, gidOf 0 t.cons, t.free, mu⟩
def progOf (t : Txt) (cs : List DefC) : Prog := ⟨fun i => (cs[i]?).map cOf, fun g => (t.cons[g]?).map (·.2)⟩
structure Good (T : Tab) (d : He.DefD) (c : DefC) : Prop where
  at_ : d.at_.2 = none
  sc : scB d.scope c.ps c.N = true
  df : d.dfl = []
  kw : d.kwd = []
  bd : ∀ (kV doc pm : Value) (an : Option Addr) (cdv ct : Value) (us : List Value), us.length = c.ps.length → bindArgs (PySem.W.fnOf d.name d.qual d.params d.body d.scope .none kV doc pm an cdv ct) ⟨us, []⟩ = pure (c.ps.zip us)
  cp : compSs (compS 60 { T with N := c.N } d.scope.names) d.body = some c.body
inductive Goods (T : Tab) : List He.DefD → List DefC → Prop where
  | nil : Goods T [] []
  | cons {d c ds cs} : Good T d c → Goods T ds cs → Goods T (d :: ds) (c :: cs)
theorem Goods.at {T : Tab} : ∀ {ds : List He.DefD} {cs : List DefC}, Goods T ds cs → ∀ {i : Nat} {c : DefC}, cs[i]? = some c → ∃ d, ds[i]? = some d ∧ Good T d c
  | _, _, .nil, i, c, h => by simp at h
  | _, _, .cons a b, 0, c, h => by cases h; exact ⟨_, rfl, a⟩
  | _, _, .cons a b, i + 1, c, h => Goods.at b (i := i) h
theorem fid_ok {x : Str} {f np : Nat} : ∀ {ds : List He.DefD} {cs : List DefC} {i : Nat}, (fidOf i ds cs).lookup x = some (f, np) → ∃ j d c, f = i + j ∧ ds[j]? = some d ∧ cs[j]? = some c ∧ d.at_.1 = x ∧ np = c.ps.length
  | [], _, _, h => by simp [fidOf] at h
  | _ :: _, [], _, h => by simp [fidOf] at h
  | d :: ds, c :: cs, i, h => by
    unfold fidOf at h
    rw [List.lookup_cons] at h
    split at h
    · rename_i e
      cases h
      exact ⟨0, d, c, rfl, rfl, rfl, (eq_of_beq e).symm, rfl⟩
    · obtain ⟨j, d', c', h1, h2, h3, h4, h5⟩ := fid_ok h
      exact ⟨j + 1, d', c', by omega, h2, h3, h4, h5⟩
theorem gid_ok {x : Str} {g : Nat} : ∀ {cs : List (Str × D)} {i : Nat}, (gidOf i cs).lookup x = some g → ∃ j d, g = i + j ∧ cs[j]? = some (x, d)
  | [], _, h => by simp [gidOf] at h
  | (y, d) :: cs, i, h => by
    unfold gidOf at h
    rw [List.lookup_cons] at h
    split at h
    · rename_i e
      cases h
      exact ⟨0, d, rfl, by rw [eq_of_beq e]; rfl⟩
    · obtain ⟨j, d', h1, h2⟩ := gid_ok h
      exact ⟨j + 1, d', by omega, h2⟩
theorem facts_of {t : Txt} {cs : List DefC} {mu : List (Nat × Nat)} {K : PySem.W.Frag} {h : Heap} {mg : Str → Option Value} (hK : K.In h) (G : h.Ns mainGlobals mg) (c : t.obs K = t.val) (gs : Goods (tabOf t cs mu) t.defs cs) :
    Facts K mg (t.fa K) (tabOf t cs mu) (progOf t cs) := by
  have c1 : ((t.defs.all fun d => He.Fa.ok K (.glo d.at_.1)) && (t.free.all fun x => He.Fa.ok K (.free x)) && (t.cons.all fun q => cOk K q) && t.defs.all fun d => d.ok K) = true := congrArg (·.1) c
  have c2 : t.defs.map (fun d => He.fnW K d.at_) = t.defs.map He.DefD.val := congrArg (·.2) c
  simp only [Bool.and_eq_true, List.all_eq_true] at c1
  obtain ⟨⟨⟨e1, e2⟩, e3⟩, e4⟩ := c1
  have fd : ∀ {i : Nat} {d : He.DefD}, t.defs[i]? = some d → ∃ fd, FunD K d.name d.qual d.params d.body d.scope (d.dvs K) (d.kws K) (t.fa K i) fd := by
    intro i d hd
    have e5 : (t.defs.map fun d => He.fnW K d.at_)[i]? = (t.defs.map He.DefD.val)[i]? := by rw [c2]
    rw [List.getElem?_map, List.getElem?_map, hd] at e5
    have := He.DefD.funD (Option.some.inj e5) (e4 d (List.mem_of_getElem? hd))
    unfold Txt.fa
    rw [hd]
    exact this
  refine ⟨fun x f np hl => ?_, fun f fr hf => ?_, fun x g d hl hg => ?_, fun x hx => He.free_ok hK G (e2 x hx)⟩
  · obtain ⟨j, d, c, h1, h2, h3, h4, h5⟩ := fid_ok hl
    have hj : f = j := by omega
    subst hj
    obtain ⟨d', h6, gd⟩ := gs.at h3
    rw [h2] at h6
    cases h6
    obtain ⟨fd', F⟩ := fd h2
    have ea : t.fa K f = He.ga K x := by
      unfold Txt.fa
      rw [h2]
      show He.fAd K d.at_ = _
      unfold He.fAd
      rw [gd.at_, h4]
    refine ⟨?_, F.kp, cOf c, ?_, h5.symm⟩
    · rw [ea, ← h4]
      exact He.glo_ok hK G (e1 d (List.mem_of_getElem? h2))
    · show (cs[f]?).map cOf = _
      rw [h3]; rfl
  · have hf' : (cs[f]?).map cOf = some fr := hf
    obtain ⟨c, h3, rfl⟩ := Option.map_eq_some_iff.mp hf'
    obtain ⟨d, h2, gd⟩ := gs.at h3
    obtain ⟨fd', F⟩ := fd h2
    have e1 : d.dvs K = [] := by unfold He.DefD.dvs; rw [gd.df]; rfl
    have e2 : d.kws K = [] := by unfold He.DefD.kws; rw [gd.kw]; rfl
    rw [e1, e2] at F
    exact ⟨⟨_, _, _, _, _, fd', c.ps, c.N, 60, F, scB_ok gd.sc, rfl, rfl, gd.bd, gd.cp⟩⟩
  · obtain ⟨j, d', h1, h2⟩ := gid_ok hl
    have hj : g = j := by omega
    subst hj
    have hg' : (t.cons[g]?).map (·.2) = some d := hg
    rw [h2] at hg'
    cases hg'
    have h3 := e3 _ (List.mem_of_getElem? h2)
    unfold cOk at h3
    split at h3
    · rename_i v q
      obtain ⟨x', h4, h5⟩ := dOk_ok (fa := t.fa K) h3
      exact ⟨x', v, PySem.W.mg_of hK G q, h4, h5⟩
    · cases h3
/-- the walk of a text's law -/
theorem walk_txt {l : PySem.W.OpenLaw} {t : Txt} {cs : List DefC} {mu : List (Nat × Nat)} {n k m f : Nat} {q : Program} {loose : List Str} {XP : (Str → Option Value) → Heap → Prop} {d : DefRec} {dd : He.DefD} {c : DefC} (hn : l.most = some n) (hz : n ≤ sizeLine) (hd : d.params.defaults = []) (hr : Room k callerA)
    (gs : Goods (tabOf t cs mu) t.defs cs) (h1 : t.defs[f]? = some dd) (h2 : cs[f]? = some c) (h3 : c.ps.length = 1) (h4 : dd.at_.1 = d.name)
    (hlaw : ∀ ns : List Int, ns.length ≤ n → ∃ M', callN (progOf t cs) k f [.d (.scr ns)] [] = .ok (.d (.bl true)) M') :
    PySem.W.WalkO q loose XP (t.hook m).says l.row.toRowW d [] (fun f vs => PySem.call f vs) := by
  refine walk_rf hn hz hd hr fun w mg a h Y G hm => ?_
  obtain ⟨K, hK, c0⟩ := Y
  have F := facts_of (mu := mu) hK G c0 gs
  refine ⟨K, t.fa K, _, _, f, cOf c, hK, ?_, F, ?_, h3, hlaw⟩
  · obtain ⟨d', h5, gd⟩ := gs.at h2
    rw [h1] at h5
    cases h5
    have c1 : ((t.defs.all fun d => He.Fa.ok K (.glo d.at_.1)) && (t.free.all fun x => He.Fa.ok K (.free x)) && (t.cons.all fun q => cOk K q) && t.defs.all fun d => d.ok K) = true := congrArg (·.1) c0
    simp only [Bool.and_eq_true, List.all_eq_true] at c1
    have e := He.glo_ok hK G (c1.1.1.1 dd (List.mem_of_getElem? h1))
    rw [h4, hm] at e
    unfold Txt.fa
    rw [h1]
    show He.fAd K dd.at_ = a
    unfold He.fAd
    rw [gd.at_]
    show He.ga K dd.at_.1 = a
    cases e
    rw [h4]
  · show (cs[f]?).map cOf = _
    rw [h2]; rfl
end Rf

namespace Rf
open PySem PySem.Spec PyProof.Rows L2
/-! ### plain laws: rules of evaluation -/
theorem call_imp {P : Prog} {k f : Nat} {fn : Fn} {vs : List Val} {m : Mem} (h : P.fn f = some fn) (hp : fn.pure = false) : callN P (k + 1) f vs m = runB ⟨callN P k, P.glo, WF⟩ fn vs m := by
  unfold callN
  rw [h]
  simp only [hp]
theorem call_pure {P : Prog} {k f : Nat} {fn : Fn} {vs : List Val} {m m' : Mem} {ds : List D} {v : Val} {x : D} (h : P.fn f = some fn) (hp : fn.pure = true) (hd : datas vs = some ds) (hr : runB ⟨callN P k, P.glo, WF⟩ fn vs [] = .ok v m') (hx : froz m' v = some x) :
    callN P (k + 1) f vs m = .ok (.d x) m := by
  unfold callN
  rw [h]
  simp only [hp, hd, hr, R.opt, hx, R.bind]
theorem runB_eq {C : Cal} {f : Fn} {vs : List Val} {m : Mem} (h : vs.length = f.np) : runB C f vs m = (exSs C f.body (vs.map some ++ List.replicate (f.n - f.np) none) m).bind fun r m => match r with
    | .nx _ => .ok (.d .non) m
    | .rt v => .ok v m
    | _ => .no := by
  unfold runB
  rw [decide_eq_true h]
  all_goals rfl
/-! walks of values -/
def forD (f : Val → Slots → Mem → R Fl) : List Val → Slots → Mem → R Fl
  | [], s, m => .ok (.nx s) m
  | v :: vs, s, m => (f v s m).bind fun r m => match r with
    | .nx s' => forD f vs s' m
    | .ct s' => forD f vs s' m
    | .bk s' => .ok (.nx s') m
    | .rt v => .ok (.rt v) m
theorem forL_wkL (f : Wv → Slots → Mem → R Fl) : ∀ (vs : List Val) (s : Slots) (m : Mem), forL f (wkL vs).fin (wkL vs).rs s m = forD (fun v => f (.v v)) vs s m
  | [], s, m => rfl
  | v :: vs, s, m => by
    show (f (.v v) s m).bind _ = (f (.v v) s m).bind _
    congr 1
    funext r m'
    cases r <;> first | rfl | exact forL_wkL f vs _ m'
/-- a loop that goes through -/
theorem forD_inv {f : Val → Slots → Mem → R Fl} (I : Nat → Slots → Mem → Prop) : ∀ (vs : List Val) (j : Nat) (s : Slots) (m : Mem), (∀ i v s m, vs[i]? = some v → I (j + i) s m → ∃ s' m', f v s m = .ok (.nx s') m' ∧ I (j + i + 1) s' m') → I j s m →
    ∃ s' m', forD f vs s m = .ok (.nx s') m' ∧ I (j + vs.length) s' m'
  | [], j, s, m, _, h => ⟨s, m, rfl, h⟩
  | v :: vs, j, s, m, step, h => by
    obtain ⟨s1, m1, e1, h1⟩ := step 0 v s m rfl h
    obtain ⟨s2, m2, e2, h2⟩ := forD_inv I vs (j + 1) s1 m1 (fun i w s m hw hI => by
      have e : j + 1 + i = j + (i + 1) := by omega
      rw [e] at hI ⊢
      exact step (i + 1) w s m hw hI) h1
    refine ⟨s2, m2, ?_, ?_⟩
    · show (f v s m).bind _ = _
      rw [e1]
      exact e2
    · have e : j + (v :: vs).length = j + 1 + vs.length := by rw [List.length_cons]; omega
      rw [e]
      exact h2
/-- a loop whose state is a fold -/
theorem forD_fold {α : Type} {f : Val → Slots → Mem → R Fl} (S : α → Slots) (m : Mem) (g : α → Val → α) : ∀ (vs : List Val) (a : α), (∀ v ∈ vs, ∀ a, f v (S a) m = .ok (.nx (S (g a v))) m) → forD f vs (S a) m = .ok (.nx (S (vs.foldl g a))) m
  | [], a, _ => rfl
  | v :: vs, a, h => by
    show (f v (S a) m).bind _ = _
    rw [h v List.mem_cons_self a]
    exact forD_fold S m g vs (g a v) fun w hw => h w (List.mem_cons_of_mem _ hw)
def cmpD' (f : Val → Mem → R (Option Val)) : List Val → List Val → Mem → R (List Val)
  | [], acc, m => .ok acc m
  | v :: vs, acc, m => (f v m).bind fun o m => match o with
    | some y => if acc.length < LINE then cmpD' f vs (acc ++ [y]) m else .no
    | none => cmpD' f vs acc m
theorem compL_wkL (f : Wv → Mem → R (Option Val)) : ∀ (vs acc : List Val) (m : Mem), compL f (wkL vs).fin (wkL vs).rs acc m = cmpD' (fun v => f (.v v)) vs acc m
  | [], acc, m => rfl
  | v :: vs, acc, m => by
    show (f (.v v) m).bind _ = (f (.v v) m).bind _
    congr 1
    funext o m'
    cases o with
    | none => exact compL_wkL f vs acc m'
    | some y =>
      show (if acc.length < LINE then compL f (wkL vs).fin (wkL vs).rs (acc ++ [y]) m' else .no) = if acc.length < LINE then cmpD' _ vs (acc ++ [y]) m' else .no
      rw [compL_wkL f vs (acc ++ [y]) m']
/-- a comprehension that maps, nothing changed -/
theorem comp_map {f : Val → Mem → R (Option Val)} {m : Mem} (g : Val → Val) : ∀ (vs acc : List Val), (∀ v ∈ vs, f v m = .ok (some (g v)) m) → acc.length + vs.length ≤ LINE → cmpD' f vs acc m = .ok (acc ++ vs.map g) m
  | [], acc, _, _ => by simp [cmpD']
  | v :: vs, acc, h, hl => by
    show (f v m).bind _ = _
    rw [h v List.mem_cons_self]
    show (if acc.length < LINE then cmpD' f vs (acc ++ [g v]) m else .no) = _
    rw [if_pos (by rw [List.length_cons] at hl; omega), comp_map g vs (acc ++ [g v]) (fun w hw => h w (List.mem_cons_of_mem _ hw)) (by simp at hl ⊢; omega)]
    simp
/-- one that sieves and maps -/
theorem comp_sieve {f : Val → Mem → R (Option Val)} {m : Mem} (g : Val → Option Val) : ∀ (vs acc : List Val), (∀ v ∈ vs, f v m = .ok (g v) m) → acc.length + vs.length ≤ LINE → cmpD' f vs acc m = .ok (acc ++ vs.filterMap g) m
  | [], acc, _, _ => by simp [cmpD']
  | v :: vs, acc, h, hl => by
    show (f v m).bind _ = _
    rw [h v List.mem_cons_self]
    cases e : g v with
    | none =>
      show cmpD' f vs acc m = _
      rw [comp_sieve g vs acc (fun w hw => h w (List.mem_cons_of_mem _ hw)) (by simp at hl ⊢; omega)]
      simp [e]
    | some y =>
      show (if acc.length < LINE then cmpD' f vs (acc ++ [y]) m else .no) = _
      rw [if_pos (by rw [List.length_cons] at hl; omega), comp_sieve g vs (acc ++ [y]) (fun w hw => h w (List.mem_cons_of_mem _ hw)) (by simp at hl ⊢; omega)]
      simp [e]
/-- a comprehension with an invariant -/
theorem comp_inv {f : Val → Mem → R (Option Val)} (I : Nat → List Val → Mem → Prop) : ∀ (vs : List Val) (j : Nat) (acc : List Val) (m : Mem), (∀ i v acc m, vs[i]? = some v → I (j + i) acc m → ∃ y m', f v m = .ok (some y) m' ∧ acc.length < LINE ∧ I (j + i + 1) (acc ++ [y]) m') → I j acc m →
    ∃ acc' m', cmpD' f vs acc m = .ok acc' m' ∧ I (j + vs.length) acc' m'
  | [], j, acc, m, _, h => ⟨acc, m, rfl, h⟩
  | v :: vs, j, acc, m, step, h => by
    obtain ⟨y, m1, e1, hl, h1⟩ := step 0 v acc m rfl h
    obtain ⟨s2, m2, e2, h2⟩ := comp_inv I vs (j + 1) (acc ++ [y]) m1 (fun i w s m hw hI => by
      have e : j + 1 + i = j + (i + 1) := by omega
      rw [e] at hI ⊢
      exact step (i + 1) w s m hw hI) h1
    refine ⟨s2, m2, ?_, ?_⟩
    · show (f v m).bind _ = _
      rw [e1]
      show (if acc.length < LINE then cmpD' f vs (acc ++ [y]) m1 else .no) = _
      rw [if_pos hl]
      exact e2
    · have e : j + (v :: vs).length = j + 1 + vs.length := by rw [List.length_cons]; omega
      rw [e]
      exact h2
theorem datas_map (ds : List D) : datas (ds.map .d) = some ds := by
  induction ds with
  | nil => rfl
  | cons d ds ih => simp only [List.map_cons, datas, ih]
theorem datas_ints (ns : List Int) : datas (ns.map fun n => Val.d (.int n)) = some (ns.map .int) := by
  have := datas_map (ns.map .int)
  rw [List.map_map] at this
  exact this
theorem at_pos {α : Type} {xs : List α} {i : Int} (h0 : 0 ≤ i) (h1 : i < xs.length) : atL xs i = xs[i.toNat]? := by
  unfold atL ixOf
  rw [if_pos h0, if_pos h1]
  rfl
theorem at_ex {α : Type} {xs : List α} {i : Int} (h0 : 0 ≤ i) (h1 : i < xs.length) : ∃ x, atL xs i = some x ∧ x ∈ xs := by
  rw [at_pos h0 h1]
  have hi : i.toNat < xs.length := by omega
  exact ⟨xs[i.toNat], List.getElem?_eq_getElem hi, List.getElem_mem hi⟩

/-! the evaluator's own rules (so made that they are rewritten, not computed) -/
theorem nr {α : Type} {a b : α} (h : a = b) : a = b := h
section
variable {C : Cal} {s : Slots} {m : Mem} {z : Bool}
def getV (o : Option (Option Val)) (m : Mem) : R Val := match o with
  | some (some v) => .ok v m
  | _ => .no
theorem q_var {i : Nat} : evE C (.var i) s m = getV s[i]? m := nr rfl
theorem gv {v : Val} : getV (some (some v)) m = .ok v m := nr rfl
theorem q_con {d : D} : evE C (.con d) s m = .ok (.d d) m := nr rfl
theorem q_glo {g : Nat} : evE C (.glo g) s m = (R.opt (C.glo g) m).bind fun d m => .ok (.d d) m := nr rfl
theorem q_tup {es : Exs} : evE C (.tup es) s m = (evEs C es s m).bind fun vs m => (R.opt (datas vs) m).bind fun ds m => .ok (.d (.tup ds)) m := by
  show ((evEs C es s m).bind fun vs m => match datas vs with
    | some ds => R.ok (Val.d (.tup ds)) m
    | none => .no) = _
  congr 1
  funext vs m
  cases datas vs <;> rfl
theorem q_lst {es : Exs} : evE C (.lst z es) s m = (evEs C es s m).bind fun vs m => mkL z vs m := nr rfl
theorem q_bin {o : Bop} {a b : Ex} : evE C (.bin z o a b) s m = (evE C a s m).bind fun x m => (evE C b s m).bind fun y m => binV z o x y m := nr rfl
theorem neg_i {i : Int} : evE C (.neg (.con (.int i))) s m = .ok (.d (.int (-i))) m := nr rfl
theorem q_cmp {o : Cop} {a b : Ex} : evE C (.cmp o a b) s m = (evE C a s m).bind fun x m => (evE C b s m).bind fun y m => bV (cmpV o x y m) := nr rfl
theorem q_and {a b : Ex} : evE C (.and a b) s m = (evE C a s m).bind fun x m => match truth m x with
    | some true => evE C b s m
    | some false => .ok x m
    | none => .no := nr rfl
theorem q_or {a b : Ex} : evE C (.or a b) s m = (evE C a s m).bind fun x m => match truth m x with
    | some true => .ok x m
    | some false => evE C b s m
    | none => .no := nr rfl
theorem q_not {a : Ex} : evE C (.not a) s m = (evE C a s m).bind fun x m => match truth m x with
    | some k => .ok (.d (.bl (!k))) m
    | none => .no := nr rfl
theorem q_ite {c a b : Ex} : evE C (.ite c a b) s m = (evE C c s m).bind fun x m => match truth m x with
    | some true => evE C a s m
    | some false => evE C b s m
    | none => .no := nr rfl
theorem q_idx {a i : Ex} : evE C (.idx a i) s m = (evE C a s m).bind fun x m => (evE C i s m).bind fun y m => R.opt (idxK m x y) m := nr rfl
theorem q_dct {ps : Exs} : evE C (.dct ps) s m = (evEs C ps s m).bind fun vs m => (R.opt (mkDct vs) m).bind fun d m => .ok (.d (.dct d)) m := nr rfl
theorem ik_r {k : Nat} {i : Int} : idxK m (.r k) (.d (.int i)) = idxV m (.r k) i := nr rfl
theorem ik_s {x : List Nat} {i : Int} : idxK m (.d (.str x)) (.d (.int i)) = idxV m (.d (.str x)) i := nr rfl
theorem ik_l {x : List D} {i : Int} : idxK m (.d (.lst x)) (.d (.int i)) = idxV m (.d (.lst x)) i := nr rfl
theorem ik_t {x : List D} {i : Int} : idxK m (.d (.tup x)) (.d (.int i)) = idxV m (.d (.tup x)) i := nr rfl
theorem ik_ds {kvs : List (D × D)} {x : List Nat} : idxK m (.d (.dct kvs)) (.d (.str x)) = (getK kvs (.str x)).map .d := nr rfl
theorem c_ind {kvs : List (D × D)} {x : List Nat} : cmpV .isIn (.d (.str x)) (.d (.dct kvs)) m = .ok (kvs.any fun q => keq q.1 (.str x)) m := nr rfl
theorem q_slc {l h : Bool} {a lo hi : Ex} : evE C (.slc z l h a lo hi) s m = (evE C a s m).bind fun x m => (evE C lo s m).bind fun u m => (evE C hi s m).bind fun w m =>
    match partV l u, partV h w with
    | some l, some h => slcV z x l h m
    | _, _ => .no := nr rfl
theorem pv_t {i : Int} : partV true (.d (.int i)) = some (some i) := nr rfl
theorem pv_f {v : Val} : partV false v = some none := nr rfl
theorem q_rev {a : Ex} : evE C (.rev z a) s m = (evE C a s m).bind fun x m => revV z x m := nr rfl
theorem q_call {f : Nat} {es : Exs} : evE C (.call f es) s m = (evEs C es s m).bind fun vs m => C.call f vs m := nr rfl
theorem q_bi {b : Bi} {es : Exs} : evE C (.bi z b es) s m = (evEs C es s m).bind fun vs m => biV z b vs m := nr rfl
theorem q_mth {t : Mt} {o : Ex} {es : Exs} : evE C (.mth t o es) s m = (evE C o s m).bind fun x m => (evEs C es s m).bind fun vs m => mtV t x vs m := nr rfl
theorem q_isi {a : Ex} {ts : List Ty} : evE C (.isi a ts) s m = (evE C a s m).bind fun x m => (R.opt (kdOf m x) m).bind fun k m => .ok (.d (.bl (ts.any fun t => tyB t k))) m := nr rfl
/-- a turn of a comprehension -/
def turn (C : Cal) (own : List Nat) (tg : Tg) (c e : Ex) (s : Slots) (v : Wv) (m : Mem) : R (Option Val) := match asgW m tg v (wipeS s own) with
  | some s' => (evE C c s' m).bind fun k m => match truth m k with
    | some true => (evE C e s' m).bind fun y m => .ok (some y) m
    | some false => .ok none m
    | none => .no
  | none => .no
theorem q_cmpr {own : List Nat} {tg : Tg} {it : It} {c e : Ex} : evE C (.cmpr z own tg it c e) s m = (evIt C it s m).bind fun wk m => (compL (turn C own tg c e s) wk.fin wk.rs [] m).bind fun acc m => mkL z acc m := nr rfl
theorem turn_nm {own : List Nat} {i : Nat} {c e : Ex} {x : Val} : turn C own (.nm i) c e s (.v x) m = (evE C c ((wipeS s own).set i (some x)) m).bind fun k m => match truth m k with
    | some true => (evE C e ((wipeS s own).set i (some x)) m).bind fun y m => .ok (some y) m
    | some false => .ok none m
    | none => .no := nr rfl
theorem q_nil : evEs C .nil s m = .ok [] m := nr rfl
theorem q_cons {e : Ex} {es : Exs} : evEs C (.cons e es) s m = (evE C e s m).bind fun v m => (evEs C es s m).bind fun vs m => .ok (v :: vs) m := nr rfl
theorem y_ex {e : Ex} : evIt C (.ex e) s m = (evE C e s m).bind fun v m => exW v m := nr rfl
theorem y_rng {a b : Ex} : evIt C (.rng a b) s m = (evE C a s m).bind fun x m => (evE C b s m).bind fun y m => rngW x y m := nr rfl
theorem y_rng3 {a b c : Ex} : evIt C (.rng3 a b c) s m = (evE C a s m).bind fun x m => (evE C b s m).bind fun y m => (evE C c s m).bind fun z m => rng3W x y z m := nr rfl
theorem x_asg {t : Tg} {e : Ex} : exS C (.asg t e) s m = (evE C e s m).bind fun v m => (R.opt (asgT m t v s) m).bind fun s' m => .ok (.nx s') m := nr rfl
theorem x_set {o i e : Ex} : exS C (.set o i e) s m = (evE C e s m).bind fun v m => (evE C o s m).bind fun x m => (evE C i s m).bind fun y m => match y with
    | .d (.int k) => (setV x k v m).bind fun _ m => .ok (.nx s) m
    | _ => .no := nr rfl
theorem x_augS {i : Nat} {e : Ex} {x y : List Nat} (h : s[i]? = some (some (.d (.str x)))) (h2 : evE C e s m = .ok (.d (.str y)) m) (hl : x.length + y.length ≤ 16777216) : exS C (.aug i .add e) s m = .ok (.nx (s.set i (some (.d (.str (x ++ y)))))) m := by
  show (match s[i]? with
    | some (some x) => (evE C e s m).bind fun y m => match x, y with
      | .d (.int _), .d (.int _) => (binV true .add x y m).bind fun v m => R.ok (Fl.nx (s.set i (some v))) m
      | .d (.str _), .d (.str _) => (binV true .add x y m).bind fun v m => .ok (.nx (s.set i (some v))) m
      | _, _ => .no
    | _ => .no) = _
  rw [h]
  show (evE C e s m).bind _ = _
  rw [h2]
  show (if x.length + y.length ≤ LINE then R.ok (Val.d (.str (x ++ y))) m else .no).bind _ = _
  rw [show (if x.length + y.length ≤ LINE then R.ok (Val.d (.str (x ++ y))) m else .no) = R.ok (Val.d (.str (x ++ y))) m from if_pos hl]
  rfl
def augV (o : Bop) (i : Nat) (s : Slots) (x y : Val) (m : Mem) : R Fl := match x, y with
  | .d (.int _), .d (.int _) => (binV true o x y m).bind fun v m => .ok (.nx (s.set i (some v))) m
  | .d (.str _), .d (.str _) => (binV true o x y m).bind fun v m => .ok (.nx (s.set i (some v))) m
  | _, _ => .no
theorem x_aug {i : Nat} {o : Bop} {e : Ex} : exS C (.aug i o e) s m = (getV s[i]? m).bind fun x m => (evE C e s m).bind fun y m => augV o i s x y m := by
  show (match s[i]? with
    | some (some x) => (evE C e s m).bind fun y m => augV o i s x y m
    | _ => .no) = _
  cases s[i]? with
  | none => rfl
  | some v => cases v <;> rfl
theorem au_i {i : Nat} {o : Bop} {a b : Int} : augV o i s (.d (.int a)) (.d (.int b)) m = (binV true o (.d (.int a)) (.d (.int b)) m).bind fun v m => .ok (.nx (s.set i (some v))) m := nr rfl
theorem au_s {i : Nat} {o : Bop} {a b : List Nat} : augV o i s (.d (.str a)) (.d (.str b)) m = (binV true o (.d (.str a)) (.d (.str b)) m).bind fun v m => .ok (.nx (s.set i (some v))) m := nr rfl
theorem x_ex {e : Ex} : exS C (.ex e) s m = (evE C e s m).bind fun _ m => .ok (.nx s) m := nr rfl
theorem x_ret {e : Ex} : exS C (.ret e) s m = (evE C e s m).bind fun v m => .ok (.rt v) m := nr rfl
theorem x_iff {c : Ex} {a b : Sts} : exS C (.iff c a b) s m = (evE C c s m).bind fun x m => match truth m x with
    | some true => exSs C a s m
    | some false => exSs C b s m
    | none => .no := nr rfl
/-- a turn of a loop -/
def lturn (C : Cal) (t : Tg) (b : Sts) (v : Wv) (s : Slots) (m : Mem) : R Fl := (R.opt (asgW m t v s) m).bind fun s' m => exSs C b s' m
theorem lturn_nm {i : Nat} {b : Sts} {x : Val} : lturn C (.nm i) b (.v x) s m = exSs C b (s.set i (some x)) m := nr rfl
theorem lturn_tup {ts : Tgs} {b : Sts} {x : Val} : lturn C (.tup ts) b (.v x) s m = (R.opt (asgT m (.tup ts) x s) m).bind fun s' m => exSs C b s' m := nr rfl
theorem x_forr {t : Tg} {it : It} {b : Sts} : exS C (.forr t it b) s m = (evIt C it s m).bind fun wk m => forL (lturn C t b) wk.fin wk.rs s m := nr rfl
/-- a while loop's test and body -/
def wC (C : Cal) (c : Ex) (s : Slots) (m : Mem) : R Bool := (evE C c s m).bind fun x m => R.opt (truth m x) m
def wB (C : Cal) (b : Sts) (s : Slots) (m : Mem) : R Fl := exSs C b s m
theorem x_whil {c : Ex} {b : Sts} : exS C (.whil c b) s m = whiL (wC C c) (wB C b) C.wf s m := nr rfl
theorem x_par {is : List Nat} {es : Exs} : exS C (.par is es) s m = (evEs C es s m).bind fun vs m => (R.opt (parS is vs s) m).bind fun s' m => .ok (.nx s') m := nr rfl
theorem x_pass : exS C .pass s m = .ok (.nx s) m := nr rfl
theorem x_brk : exS C .brk s m = .ok (.bk s) m := nr rfl
theorem x_cnt : exS C .cnt s m = .ok (.ct s) m := nr rfl
theorem xs_nil : exSs C .nil s m = .ok (.nx s) m := nr rfl
/-- on with the statements -/
def nxt (C : Cal) (xs : Sts) (r : Fl) (m : Mem) : R Fl := match r with
  | .nx s' => exSs C xs s' m
  | r => .ok r m
theorem xs_cons {x : St} {xs : Sts} : exSs C (.cons x xs) s m = (exS C x s m).bind (nxt C xs) := nr rfl
theorem nxt_nx {xs : Sts} : nxt C xs (.nx s) m = exSs C xs s m := nr rfl
theorem nxt_rt {xs : Sts} {v : Val} : nxt C xs (.rt v) m = .ok (.rt v) m := nr rfl
theorem nxt_bk {xs : Sts} : nxt C xs (.bk s) m = .ok (.bk s) m := nr rfl
theorem nxt_ct {xs : Sts} : nxt C xs (.ct s) m = .ok (.ct s) m := nr rfl
theorem as_nm {i : Nat} {v : Val} : asgT m (.nm i) v s = some (s.set i (some v)) := nr rfl
theorem as_tup {ts : Tgs} {ds : List D} : asgT m (.tup ts) (.d (.tup ds)) s = asgTs m ts (ds.map .d) s := nr rfl
theorem as_tupl {ts : Tgs} {ds : List D} : asgT m (.tup ts) (.d (.lst ds)) s = asgTs m ts (ds.map .d) s := nr rfl
theorem as_nil : asgTs m .nil [] s = some s := nr rfl
theorem as_cons {t : Tg} {ts : Tgs} {v : Val} {vs : List Val} : asgTs m (.cons t ts) (v :: vs) s = (asgT m t v s).bind fun s' => asgTs m ts vs s' := by
  show (match asgT m t v s with
    | some s' => asgTs m ts vs s'
    | none => none) = _
  cases asgT m t v s <;> rfl
theorem wp_nil : wipeS s [] = s := nr rfl
theorem wp_cons {v : Nat} {vs : List Nat} : wipeS s (v :: vs) = (wipeS s vs).set v none := nr rfl
theorem pa_nil' : parS [] [] s = some s := nr rfl
theorem pa_cons' {i : Nat} {is : List Nat} {v : Val} {vs : List Val} : parS (i :: is) (v :: vs) s = parS is vs (s.set i (some v)) := nr rfl
end
/-- on with the walk -/
def fnx (f : Val → Slots → Mem → R Fl) (vs : List Val) (r : Fl) (m : Mem) : R Fl := match r with
  | .nx s' => forD f vs s' m
  | .ct s' => forD f vs s' m
  | .bk s' => .ok (.nx s') m
  | .rt v => .ok (.rt v) m
section
variable {f : Val → Slots → Mem → R Fl} {v : Val} {vs : List Val} {s : Slots} {m : Mem}
theorem fd_nil : forD f [] s m = .ok (.nx s) m := nr rfl
theorem fd_cons : forD f (v :: vs) s m = (f v s m).bind (fnx f vs) := nr rfl
theorem fx_nx : fnx f vs (.nx s) m = forD f vs s m := nr rfl
theorem fx_ct : fnx f vs (.ct s) m = forD f vs s m := nr rfl
theorem fx_bk : fnx f vs (.bk s) m = .ok (.nx s) m := nr rfl
theorem fx_rt : fnx f vs (.rt v) m = .ok (.rt v) m := nr rfl
theorem wh_t {c : Slots → Mem → R Bool} {f : Slots → Mem → R Fl} {n : Nat} {s' : Slots} {m' : Mem} (hc : c s m = .ok true m) (hf : f s m = .ok (.nx s') m') : whiL c f (n + 1) s m = whiL c f n s' m' := by
  show (c s m).bind _ = _
  rw [hc]
  show (f s m).bind _ = _
  rw [hf]
  rfl
theorem wh_f {c : Slots → Mem → R Bool} {f : Slots → Mem → R Fl} {n : Nat} (hc : c s m = .ok false m) : whiL c f (n + 1) s m = .ok (.nx s) m := by
  show (c s m).bind _ = _
  rw [hc]
  rfl
end
/-! rules with their conditions -/
section
variable {α β : Type} {a : α} {m : Mem} {f : α → Mem → R β} {i j : Int} {z : Bool} {x y t : List Nat} {C : Cal}
theorem r_ok : (R.ok a m).bind f = f a m := nr rfl
theorem r_opt : R.opt (some a) m = .ok a m := nr rfl
theorem b_add : binV z .add (.d (.int i)) (.d (.int j)) m = .ok (.d (.int (i + j))) m := nr rfl
theorem b_sub : binV z .sub (.d (.int i)) (.d (.int j)) m = .ok (.d (.int (i - j))) m := nr rfl
theorem b_mul (h : (-18446744073709551616 < i ∧ i < 18446744073709551616) ∨ (-18446744073709551616 < j ∧ j < 18446744073709551616)) : binV z .mul (.d (.int i)) (.d (.int j)) m = .ok (.d (.int (i * j))) m := by
  show (R.opt (binI .mul i j) m).bind _ = _
  rw [show binI .mul i j = some (.int (i * j)) from if_pos (by omega)]
  rfl
theorem b_div (h : 0 < j) (h2 : j < 18446744073709551616) : binV z .div (.d (.int i)) (.d (.int j)) m = .ok (.d (.int (i / j))) m := by
  show (R.opt (binI .div i j) m).bind _ = _
  rw [show binI .div i j = some (.int (i / j)) from if_pos (by omega)]
  rfl
theorem b_mod (h : 0 < j) : binV z .mod (.d (.int i)) (.d (.int j)) m = .ok (.d (.int (i % j))) m := by
  show (R.opt (binI .mod i j) m).bind _ = _
  rw [show binI .mod i j = some (.int (i % j)) from if_pos (by omega)]
  rfl
theorem b_pow (h : 0 ≤ j) (h2 : j ≤ 1000000) (h3 : -18446744073709551616 < i ∧ i < 18446744073709551616) : binV z .pow (.d (.int i)) (.d (.int j)) m = .ok (.d (.int (i ^ j.toNat))) m := by
  show (R.opt (binI .pow i j) m).bind _ = _
  rw [show binI .pow i j = some (.int (i ^ j.toNat)) from if_pos (by omega)]
  rfl
theorem b_adds (h : x.length + y.length ≤ 16777216) : binV z .add (.d (.str x)) (.d (.str y)) m = .ok (.d (.str (x ++ y))) m := by
  exact if_pos h
theorem b_addt {x y : List D} (h : x.length + y.length ≤ 16777216) : binV z .add (.d (.tup x)) (.d (.tup y)) m = .ok (.d (.tup (x ++ y))) m := by
  exact if_pos h
theorem b_addl {x y : List D} (h : x.length + y.length ≤ 16777216) : binV true .add (.d (.lst x)) (.d (.lst y)) m = .ok (.d (.lst (x ++ y))) m := by
  have h2 : (x.map Val.d).length + (y.map Val.d).length ≤ LINE := by rw [List.length_map, List.length_map]; exact h
  show (if (x.map Val.d).length + (y.map Val.d).length ≤ LINE then mkL true (x.map Val.d ++ y.map Val.d) m else .no) = _
  rw [if_pos h2, ← List.map_append]
  show (match datas ((x ++ y).map Val.d) with
    | some ds => R.ok (Val.d (.lst ds)) m
    | none => .no) = _
  rw [datas_map]
theorem c_lt : cmpV .lt (.d (.int i)) (.d (.int j)) m = .ok (decide (i < j)) m := nr rfl
theorem c_le : cmpV .le (.d (.int i)) (.d (.int j)) m = .ok (decide (i ≤ j)) m := nr rfl
theorem c_gt : cmpV .gt (.d (.int i)) (.d (.int j)) m = .ok (decide (j < i)) m := nr rfl
theorem c_ge : cmpV .ge (.d (.int i)) (.d (.int j)) m = .ok (decide (j ≤ i)) m := nr rfl
theorem c_eq : cmpV .eq (.d (.int i)) (.d (.int j)) m = .ok (decide (i = j)) m := nr rfl
theorem c_ne : cmpV .ne (.d (.int i)) (.d (.int j)) m = .ok (!decide (i = j)) m := nr rfl
theorem c_eqs : cmpV .eq (.d (.str x)) (.d (.str y)) m = .ok (x == y) m := nr rfl
theorem c_nes : cmpV .ne (.d (.str x)) (.d (.str y)) m = .ok (!(x == y)) m := nr rfl
theorem c_ins : cmpV .isIn (.d (.str x)) (.d (.str y)) m = .ok (findSub x y).isSome m := nr rfl
theorem c_nis : cmpV .notIn (.d (.str x)) (.d (.str y)) m = .ok (!(findSub x y).isSome) m := nr rfl
theorem v_b {b : Bool} : bV (.ok b m) = .ok (.d (.bl b)) m := nr rfl
theorem t_b {b : Bool} : truth m (.d (.bl b)) = some b := nr rfl
theorem t_i : truth m (.d (.int i)) = some (i != 0) := nr rfl
theorem l_s : biV z .len [.d (.str x)] m = .ok (.d (.int (x.length : Nat))) m := nr rfl
theorem l_l {x : List D} : biV z .len [.d (.lst x)] m = .ok (.d (.int (x.length : Nat))) m := nr rfl
theorem l_t {x : List D} : biV z .len [.d (.tup x)] m = .ok (.d (.int (x.length : Nat))) m := nr rfl
theorem l_r {k : Nat} {us : List Val} (h : m[k]? = some (.lst us)) : biV z .len [.r k] m = .ok (.d (.int (us.length : Nat))) m := by
  show (R.opt (match m[k]? with
    | some (.lst vs) => some vs.length
    | _ => none) m).bind _ = _
  rw [h]
  rfl
theorem i_r {k : Nat} {us : List Val} (h : m[k]? = some (.lst us)) : idxV m (.r k) i = atL us i := by
  unfold idxV
  simp only [h]
theorem i_s : idxV m (.d (.str x)) i = (atL x i).map fun c => .d (.str [c]) := nr rfl
theorem i_l {x : List D} : idxV m (.d (.lst x)) i = (atL x i).map .d := nr rfl
theorem i_t {x : List D} : idxV m (.d (.tup x)) i = (atL x i).map .d := nr rfl
theorem s_r {k : Nat} {us : List Val} {v : Val} (h : m[k]? = some (.lst us)) : setV (.r k) i v m = (R.opt (ixOf us.length i) m).bind fun q m => .ok () (m.set k (.lst (us.set q v))) := by
  unfold setV
  simp only [h]
theorem at_0 {xs : List α} : atL (a :: xs) 0 = some a := by
  unfold atL ixOf
  simp
theorem at_lit {xs : List α} {k : Nat} (h : k < xs.length) : atL xs (k : Int) = xs[k]? := by
  rw [at_pos (by omega) (by omega)]
  simp
theorem m_l {vs : List Val} {ds : List D} (h : datas vs = some ds) : mkL true vs m = .ok (.d (.lst ds)) m := by
  unfold mkL
  simp only [h]
theorem w_rng (h1 : -1099511627776 ≤ i) (h2 : i < 1099511627776) (h3 : -1099511627776 ≤ j) (h4 : j < 1099511627776) (h5 : j - i ≤ 16777216) : rngW (.d (.int i)) (.d (.int j)) m = .ok (wkL ((List.range (j - i).toNat).map fun (k : Nat) => .d (.int (i + (k : Int))))) m := if_pos ⟨h1, h2, h3, h4, h5⟩
theorem w_rng3 {c : Int} (h1 : -1099511627776 ≤ i) (h2 : i < 1099511627776) (h3 : -1099511627776 ≤ j) (h4 : j < 1099511627776) (h5 : c ≠ 0) (h6 : -1000000 < c) (h7 : c < 1000000) : rng3W (.d (.int i)) (.d (.int j)) (.d (.int c)) m = .ok (wkL ((List.range (rgN i j c)).map fun (k : Nat) => .d (.int (i + (k : Int) * c)))) m := if_pos ⟨h1, h2, h3, h4, by omega, by omega⟩
theorem w_str : exW (.d (.str x)) m = .ok (wkL (x.map fun c => .d (.str [c]))) m := nr rfl
theorem w_tup {x : List D} : exW (.d (.tup x)) m = .ok (wkL (x.map .d)) m := nr rfl
theorem w_lst {x : List D} : exW (.d (.lst x)) m = .ok (wkL (x.map .d)) m := nr rfl
theorem sl_s {lo hi : Option Int} : slcV z (.d (.str x)) lo hi m = .ok (.d (.str (cut x lo hi))) m := nr rfl
theorem sl_t {x : List D} {lo hi : Option Int} : slcV z (.d (.tup x)) lo hi m = .ok (.d (.tup (cut x lo hi))) m := nr rfl
theorem cut_map {f : α → β} {xs : List α} {lo hi : Option Int} : cut (xs.map f) lo hi = (cut xs lo hi).map f := by
  simp [cut, List.map_take, List.map_drop]
theorem sl_l {x : List D} {lo hi : Option Int} : slcV true (.d (.lst x)) lo hi m = .ok (.d (.lst (cut x lo hi))) m := by
  show mkL true (cut (x.map .d) lo hi) m = _
  rw [cut_map]
  show (match datas ((cut x lo hi).map Val.d) with
    | some ds => R.ok (Val.d (.lst ds)) m
    | none => .no) = _
  rw [datas_map]
theorem strs_map (ss : List (List Nat)) : strsD (ss.map fun s => Val.d (.str s)) = some ss := by
  induction ss with
  | nil => rfl
  | cons d ds ih =>
    show (strsD (ds.map fun s => Val.d (.str s))).map (d :: ·) = _
    rw [ih]
    rfl
theorem j_l {sep : List Nat} {ss : List (List Nat)} (h : (ss.map List.length).sum + ss.length * sep.length ≤ 16777216) : mtV .join (.d (.str sep)) [.d (.lst (ss.map .str))] m = .ok (.d (.str (joinL sep ss))) m := by
  show (R.opt (strsD ((ss.map D.str).map .d)) m).bind (fun ss m => if (ss.map List.length).sum + ss.length * sep.length ≤ LINE then R.ok (Val.d (.str (joinL sep ss))) m else .no) = _
  have e : (ss.map D.str).map Val.d = ss.map fun s => Val.d (.str s) := by rw [List.map_map]; rfl
  rw [e, strs_map]
  exact if_pos h
theorem z_f {s : List Nat} (h : 0 ≤ i) (h2 : i ≤ 1000) (h3 : s.length ≤ 1000) (h4 : ∀ c ∈ s, 48 ≤ c ∧ c ≤ 57) : mtV .zfill (.d (.str s)) [.d (.int i)] m = .ok (.d (.str (padZ s i.toNat))) m := if_pos ⟨⟨h, h2⟩, h3, h4⟩
theorem s_i (h : i.natAbs.log2 < 1920) : biV z .str [.d (.int i)] m = .ok (.d (.str (numText i))) m := if_pos h
theorem n_s (h : x ≠ []) (h2 : x.length ≤ 640) (h3 : ∀ c ∈ x, 48 ≤ c ∧ c ≤ 57) : biV z .int [.d (.str x)] m = .ok (.d (.int (digV x : Nat))) m := if_pos ⟨h, h2, h3⟩
theorem n_b {b : Bool} : biV z .int [.d (.bl b)] m = .ok (.d (.int (if b then 1 else 0))) m := nr rfl
theorem n_i : biV z .int [.d (.int i)] m = .ok (.d (.int i)) m := nr rfl
theorem tu_l {x : List D} : biV z .tuple [.d (.lst x)] m = .ok (.d (.tup x)) m := by
  show (match datas (x.map Val.d) with
    | some ds => R.ok (Val.d (.tup ds)) m
    | none => .no) = _
  rw [datas_map]
theorem k_s : kdOf m (.d (.str x)) = some .str := nr rfl
theorem k_i : kdOf m (.d (.int i)) = some .int := nr rfl
theorem k_b {b : Bool} : kdOf m (.d (.bl b)) = some .bool := nr rfl
theorem k_t {x : List D} : kdOf m (.d (.tup x)) = some .tuple := nr rfl
theorem log_ok {i : Int} (h : i.natAbs < 2 ^ 200) : i.natAbs.log2 < 1920 := by
  by_cases h0 : i.natAbs = 0
  · rw [h0]; decide
  · exact (Nat.log2_lt h0).mpr (Nat.lt_of_lt_of_le h (Nat.pow_le_pow_right (by decide) (by decide)))
theorem m_t {vs : List Val} : mkL true vs m = (R.opt (datas vs) m).bind fun ds m => .ok (.d (.lst ds)) m := by
  show (match datas vs with
    | some ds => R.ok (Val.d (.lst ds)) m
    | none => .no) = _
  cases datas vs <;> rfl
theorem m_r {vs : List Val} : mkL false vs m = .ok (.r m.length) (m ++ [.lst vs]) := nr rfl
theorem ints_map (ns : List Int) : intsD (ns.map fun n => Val.d (.int n)) = some ns := by
  induction ns with
  | nil => rfl
  | cons d ds ih =>
    show (intsD (ds.map fun n => Val.d (.int n))).map (d :: ·) = _
    rw [ih]
    rfl
theorem sm_l {ns : List Int} : biV z .sum [.d (.lst (ns.map .int))] m = .ok (.d (.int ns.sum)) m := by
  show (R.opt (intsD ((ns.map D.int).map .d)) m).bind (fun ns m => R.ok (Val.d (.int ns.sum)) m) = _
  have e : (ns.map D.int).map Val.d = ns.map fun n => Val.d (.int n) := by rw [List.map_map]; rfl
  rw [e, ints_map]
  rfl
theorem ap_r {k : Nat} {us : List Val} {x : Val} (h : m[k]? = some (.lst us)) (hl : us.length < 16777216) : mtV .append (.r k) [x] m = .ok (.d .non) (m.set k (.lst (us ++ [x]))) := by
  show (match m[k]? with
    | some (.lst us) => if us.length < LINE then R.ok (Val.d .non) (m.set k (.lst (us ++ [x]))) else .no
    | _ => .no) = _
  rw [h]
  exact if_pos hl
theorem pp_r {k j : Nat} {us : List Val} {x : Val} (h : m[k]? = some (.lst us)) (hj : us[j]? = some x) (hl : us.length < 16777216) : mtV .popAt (.r k) [.d (.int (j : Nat))] m = .ok x (m.set k (.lst (us.eraseIdx j))) := by
  have hlt : j < us.length := (List.getElem?_eq_some_iff.mp hj).1
  show (match m[k]? with
    | some (.lst us) => if ((j : Nat) : Int) < 2 ^ 62 ∧ -(2 ^ 62) < ((j : Nat) : Int) then (R.opt ((ixOf us.length ((j : Nat) : Int)).bind fun j => (us[j]?).map fun v => (j, v)) m).bind fun p m => R.ok p.2 (m.set k (.lst (us.eraseIdx p.1))) else .no
    | _ => .no) = _
  rw [h]
  have ix : ixOf us.length ((j : Nat) : Int) = some j := by
    unfold ixOf
    rw [if_pos (by omega), if_pos (by omega)]
    rfl
  show (if ((j : Nat) : Int) < 2 ^ 62 ∧ -(2 ^ 62) < ((j : Nat) : Int) then _ else R.no) = _
  rw [if_pos (by omega), ix]
  show (R.opt ((us[j]?).map fun v => (j, v)) m).bind _ = _
  rw [hj]
  rfl
theorem tu_r {k : Nat} {us : List Val} {ds : List D} (h : m[k]? = some (.lst us)) (hd : datas us = some ds) : biV z .tuple [.r k] m = .ok (.d (.tup ds)) m := by
  show (match lstOf m (.r k) with
    | some us => match datas us with
      | some ds => R.ok (Val.d (.tup ds)) m
      | none => .no
    | none => .no) = _
  have e : lstOf m (.r k) = some us := by
    show (match m[k]? with
      | some (.lst vs) => some vs
      | _ => none) = _
    rw [h]
  rw [e]
  show (match datas us with
      | some ds => R.ok (Val.d (.tup ds)) m
      | none => .no) = _
  rw [hd]
theorem mn_i : biV z .min2 [.d (.int i), .d (.int j)] m = .ok (.d (.int (if j < i then j else i))) m := nr rfl
theorem dt_n : datas [] = some [] := nr rfl
theorem dt_c {d : D} {vs : List Val} : datas (.d d :: vs) = (datas vs).map (d :: ·) := by
  show (match datas vs with
    | some xs => some (d :: xs)
    | none => none) = _
  cases datas vs <;> rfl
theorem o_some {f : α → β} : (some a).map f = some (f a) := nr rfl
theorem ob_some {f : α → Option β} : (some a).bind f = f a := nr rfl
end
/-! ### the deck: cells and a count -/
def dkr (c : List Int) (n : Int) (r : Mem) : Mem := .lst (c.map fun i => .d (.int i)) :: .lst [.r 0, .d (.int n)] :: r
/-- the deck alone -/
def dk (c : List Int) (n : Int) : Mem := dkr c n []
def deckB : Sts := (.cons (.ret (.lst false (.cons (.cmpr false [1] (.nm 1) (.ex (.slc true false true (.var 0) (.con .non) (.con (.int 63)))) (.con (.bl true)) (.bi true .abs (.cons (.var 1) .nil))) (.cons (.con (.int 0)) .nil)))) .nil)
def drawB : Sts := (.cons (.set (.var 0) (.con (.int 1)) (.bin true .add (.idx (.var 0) (.con (.int 1))) (.con (.int 1)))) (.cons (.asg (.nm 2) (.con (.int 0))) (.cons (.asg (.nm 3) (.neg (.con (.int 1)))) (.cons (.iff (.cmp .gt (.bi true .len (.cons (.idx (.var 0) (.con (.int 0))) .nil)) (.con (.int 0))) (.cons (.asg (.nm 3) (.bin true .mod (.idx (.var 0) (.con (.int 1))) (.bi true .len (.cons (.idx (.var 0) (.con (.int 0))) .nil)))) (.cons (.asg (.nm 2) (.idx (.idx (.var 0) (.con (.int 0))) (.var 3))) .nil)) .nil) (.cons (.iff (.cmp .ge (.var 2) (.bin true .pow (.con (.int 10)) (.con (.int 18)))) (.cons (.set (.idx (.var 0) (.con (.int 0))) (.var 3) (.bin true .div (.var 2) (.var 1))) (.cons (.ret (.bin true .mod (.var 2) (.var 1))) .nil)) .nil) (.cons (.ret (.bin true .mod (.bin true .mod (.bin true .pow (.bin true .add (.bin true .add (.bin true .mod (.var 2) (.con (.int 2147483587))) (.bin true .mul (.con (.int 7919)) (.idx (.var 0) (.con (.int 1))))) (.con (.int 1))) (.con (.int 5))) (.con (.int 2147483647))) (.var 1))) .nil))))))
theorem abs_ok (c : Int) : (if c < 0 then -c else c) = (c.natAbs : Int) := by split <;> omega
theorem sl_c {z : Bool} {ns : List Int} {lo hi : Option Int} {m : Mem} : slcV true (.d (.scr ns)) lo hi m = .ok (.d (.lst ((cut ns lo hi).map .int))) m := by
  show mkL true (cut (ns.map fun n => .d (.int n)) lo hi) m = _
  rw [cut_map]
  show (match datas ((cut ns lo hi).map fun n => Val.d (.int n)) with
    | some ds => R.ok (Val.d (.lst ds)) m
    | none => .no) = _
  rw [datas_ints]
theorem a_i {z : Bool} {i : Int} {m : Mem} : biV z .abs [.d (.int i)] m = .ok (.d (.int (if i < 0 then -i else i))) m := rfl
theorem deck_ok (C : Cal) (ns : List Int) : ∃ c, runB C ⟨1, 2, false, deckB⟩ [.d (.scr ns)] [] = .ok (.r 1) (dk c 0) := by
  refine ⟨(cut ns none (some 63)).map fun i => if i < 0 then -i else i, ?_⟩
  rw [runB_eq rfl]
  have hl : (cut ns none (some 63)).length ≤ 63 := by
    simp only [cut, cutAt, List.length_take]
    have : (if (63 : Int) < 0 then ((63 : Int) + (ns.length : Int)).toNat else min (63 : Int).toNat ns.length) - 0 ≤ 63 := by
      rw [if_neg (by decide)]
      have := Nat.min_le_left (63 : Int).toNat ns.length
      omega
    omega
  have hb : ((63 : Nat) ≤ LINE) := by decide
  simp only [deckB, xs_cons, xs_nil, nxt_nx, nxt_rt, nxt_bk, nxt_ct, x_asg, x_set, x_aug, au_i, au_s, x_ex, x_ret, x_iff, x_forr, x_whil, x_par, x_pass, x_brk, x_cnt, q_var, gv, q_con, q_glo, q_tup, q_lst, q_bin, neg_i, q_cmp, q_and, q_or, q_not, q_ite, q_idx, ik_r, ik_s, ik_l, ik_t, ik_ds, c_ind, q_dct, q_slc, pv_t, pv_f, q_rev, q_call, q_bi, q_mth, q_isi, q_cmpr, q_nil, q_cons, y_ex, y_rng, y_rng3, turn_nm, lturn_nm, lturn_tup, forL_wkL, fd_nil, fd_cons, fx_nx, fx_ct, fx_bk, fx_rt, as_nm, as_tup, as_tupl, as_nil, as_cons, wp_nil, wp_cons, pa_nil', pa_cons', List.map_cons, List.map_nil, List.replicate, List.cons_append, List.nil_append, Nat.reduceSub, Nat.reduceAdd, List.getElem?_cons_zero, List.getElem?_cons_succ, List.set_cons_zero, List.set_cons_succ, r_ok, r_opt, b_add, b_sub, b_mul, b_div, b_mod, b_adds, c_lt, c_le, c_gt, c_ge, c_eq, c_ne, c_eqs, c_nes, c_ins, c_nis, v_b, t_b, l_s, l_l, l_t, i_s, i_l, i_t, m_t, m_r, dt_n, dt_c, datas_map, o_some, ob_some, w_rng, w_rng3, w_str, w_tup, w_lst, sl_s, sl_t, sl_l, n_b, n_i, tu_l, mn_i, k_s, k_i, k_b, k_t, decide_true, decide_false, Bool.not_true, Bool.not_false, sl_c (z := true), a_i]
  rw [compL_wkL, comp_map (g := fun v => match v with
    | .d (.int i) => .d (.int (if i < 0 then -i else i))
    | v => v)]
  · simp only [xs_cons, xs_nil, nxt_nx, nxt_rt, nxt_bk, nxt_ct, x_asg, x_set, x_aug, au_i, au_s, x_ex, x_ret, x_iff, x_forr, x_whil, x_par, x_pass, x_brk, x_cnt, q_var, gv, q_con, q_glo, q_tup, q_lst, q_bin, neg_i, q_cmp, q_and, q_or, q_not, q_ite, q_idx, ik_r, ik_s, ik_l, ik_t, ik_ds, c_ind, q_dct, q_slc, pv_t, pv_f, q_rev, q_call, q_bi, q_mth, q_isi, q_cmpr, q_nil, q_cons, y_ex, y_rng, y_rng3, turn_nm, lturn_nm, lturn_tup, forL_wkL, fd_nil, fd_cons, fx_nx, fx_ct, fx_bk, fx_rt, as_nm, as_tup, as_tupl, as_nil, as_cons, wp_nil, wp_cons, pa_nil', pa_cons', List.map_cons, List.map_nil, List.replicate, List.cons_append, List.nil_append, Nat.reduceSub, Nat.reduceAdd, List.getElem?_cons_zero, List.getElem?_cons_succ, List.set_cons_zero, List.set_cons_succ, r_ok, r_opt, b_add, b_sub, b_mul, b_div, b_mod, b_adds, c_lt, c_le, c_gt, c_ge, c_eq, c_ne, c_eqs, c_nes, c_ins, c_nis, v_b, t_b, l_s, l_l, l_t, i_s, i_l, i_t, m_t, m_r, dt_n, dt_c, datas_map, o_some, ob_some, w_rng, w_rng3, w_str, w_tup, w_lst, sl_s, sl_t, sl_l, n_b, n_i, tu_l, mn_i, k_s, k_i, k_b, k_t, decide_true, decide_false, Bool.not_true, Bool.not_false, List.map_map, dk, dkr, List.length_nil, List.length_cons]
    rfl
  · intro v hv
    obtain ⟨d, hd, rfl⟩ := List.mem_map.mp hv
    obtain ⟨i, hi, rfl⟩ := List.mem_map.mp hd
    simp only [xs_cons, xs_nil, nxt_nx, nxt_rt, nxt_bk, nxt_ct, x_asg, x_set, x_aug, au_i, au_s, x_ex, x_ret, x_iff, x_forr, x_whil, x_par, x_pass, x_brk, x_cnt, q_var, gv, q_con, q_glo, q_tup, q_lst, q_bin, neg_i, q_cmp, q_and, q_or, q_not, q_ite, q_idx, ik_r, ik_s, ik_l, ik_t, ik_ds, c_ind, q_dct, q_slc, pv_t, pv_f, q_rev, q_call, q_bi, q_mth, q_isi, q_cmpr, q_nil, q_cons, y_ex, y_rng, y_rng3, turn_nm, lturn_nm, lturn_tup, forL_wkL, fd_nil, fd_cons, fx_nx, fx_ct, fx_bk, fx_rt, as_nm, as_tup, as_tupl, as_nil, as_cons, wp_nil, wp_cons, pa_nil', pa_cons', List.map_cons, List.map_nil, List.replicate, List.cons_append, List.nil_append, Nat.reduceSub, Nat.reduceAdd, List.getElem?_cons_zero, List.getElem?_cons_succ, List.set_cons_zero, List.set_cons_succ, r_ok, r_opt, b_add, b_sub, b_mul, b_div, b_mod, b_adds, c_lt, c_le, c_gt, c_ge, c_eq, c_ne, c_eqs, c_nes, c_ins, c_nis, v_b, t_b, l_s, l_l, l_t, i_s, i_l, i_t, m_t, m_r, dt_n, dt_c, datas_map, o_some, ob_some, w_rng, w_rng3, w_str, w_tup, w_lst, sl_s, sl_t, sl_l, n_b, n_i, tu_l, mn_i, k_s, k_i, k_b, k_t, decide_true, decide_false, Bool.not_true, Bool.not_false, a_i]
  · simp; omega
/-- what a draw of m comes to -/
def mixv (c n m : Int) : Int := (c % 2147483587 + 7919 * n + 1) ^ 5 % 2147483647 % m
def drawV (c : List Int) (n m : Int) : Int :=
  match c[(((n + 1) % (c.length : Int))).toNat]? with
  | some x => if x ≥ 10 ^ 18 then x % m else mixv x (n + 1) m
  | none => mixv 0 (n + 1) m
def drawC (c : List Int) (n m : Int) : List Int :=
  match c[(((n + 1) % (c.length : Int))).toNat]? with
  | some x => if x ≥ 10 ^ 18 then c.set ((n + 1) % (c.length : Int)).toNat (x / m) else c
  | none => c
theorem drawV_lt (c : List Int) (n : Int) {m : Int} (h : 0 < m) : 0 ≤ drawV c n m ∧ drawV c n m < m := by
  unfold drawV mixv
  split
  · split
    · exact ⟨Int.emod_nonneg _ (by omega), Int.emod_lt_of_pos _ h⟩
    · exact ⟨Int.emod_nonneg _ (by omega), Int.emod_lt_of_pos _ h⟩
  · exact ⟨Int.emod_nonneg _ (by omega), Int.emod_lt_of_pos _ h⟩
theorem pow_ok {x n : Int} (hn : 0 ≤ n ∧ n < 2 ^ 40) : (0 : Int) ≤ 5 ∧ (5 : Int) ≤ 1000000 ∧ (x % 2147483587 + 7919 * (n + 1) + 1).natAbs < 2 ^ 64 := by
  have h1 := Int.emod_nonneg x (show (2147483587 : Int) ≠ 0 by decide)
  have h2 := Int.emod_lt_of_pos x (show (0 : Int) < 2147483587 by decide)
  refine ⟨by decide, by decide, ?_⟩
  omega
section
variable {r : Mem}
theorem dk0 {c : List Int} {n : Int} : (dkr c n r)[0]? = some (.lst (c.map fun i => .d (.int i))) := rfl
theorem dk1 {c : List Int} {n : Int} : (dkr c n r)[1]? = some (.lst [.r 0, .d (.int n)]) := rfl
theorem dk_n {c : List Int} {n k : Int} : (dkr c n r).set 1 (.lst [.r 0, .d (.int k)]) = dkr c k r := rfl
theorem dk_c {c : List Int} {n k : Int} {q : Nat} : (dkr c n r).set 0 (.lst ((c.map fun i => Val.d (.int i)).set q (.d (.int k)))) = dkr (c.set q k) n r := by
  rw [show ((c.map fun i => Val.d (.int i)).set q (.d (.int k))) = (c.set q k).map fun i => Val.d (.int i) from List.map_set.symm]
  rfl
end
theorem draw_okR (C : Cal) (r : Mem) (c : List Int) {n m : Int} (hn : 0 ≤ n ∧ n < 2 ^ 40) (hm : 0 < m ∧ m < 4611686018427387904) : runB C ⟨2, 4, false, drawB⟩ [.r 1, .d (.int m)] (dkr c n r) = .ok (.d (.int (drawV c n m))) (dkr (drawC c n m) (n + 1) r) := by
  rw [runB_eq rfl]
  obtain ⟨m0, m1⟩ := hm
  have b1 := fun x : Int => Int.emod_nonneg x (show (2147483587 : Int) ≠ 0 by decide)
  have b2 := fun x : Int => Int.emod_lt_of_pos x (show (0 : Int) < 2147483587 by decide)
  have sl : ixOf [Val.r 0, Val.d (.int n)].length 1 = some 1 := rfl
  have a0 : ∀ {k : Int}, atL [Val.r 0, Val.d (.int k)] 0 = some (.r 0) := rfl
  have a1 : ∀ {k : Int}, atL [Val.r 0, Val.d (.int k)] 1 = some (.d (.int k)) := rfl
  have st : ∀ {k : Int}, [Val.r 0, Val.d (.int n)].set 1 (.d (.int k)) = [.r 0, .d (.int k)] := rfl
  have e18 : ((10 : Int) ^ (18 : Int).toNat) = 1000000000000000000 := rfl
  have e5 : (5 : Int).toNat = 5 := rfl
  have p18 : ∀ M, binV true .pow (.d (.int 10)) (.d (.int 18)) M = .ok (.d (.int 1000000000000000000)) M := fun M => b_pow (by decide) (by decide) (by decide)
  have p5 : ∀ x : Int, binV true .pow (.d (.int (x % 2147483587 + 7919 * (n + 1) + 1))) (.d (.int 5)) (dkr c (n + 1) r) = .ok (.d (.int ((x % 2147483587 + 7919 * (n + 1) + 1) ^ 5))) (dkr c (n + 1) r) := fun x => by
    have h1 := b1 x
    have h2 := b2 x
    exact b_pow (by decide) (by decide) (by omega)
  simp (disch := omega) only [drawB, xs_cons, xs_nil, nxt_nx, nxt_rt, nxt_bk, nxt_ct, x_asg, x_set, x_aug, au_i, au_s, x_ex, x_ret, x_iff, x_forr, x_whil, x_par, x_pass, x_brk, x_cnt, q_var, gv, q_con, q_glo, q_tup, q_lst, q_bin, neg_i, q_cmp, q_and, q_or, q_not, q_ite, q_idx, ik_r, ik_s, ik_l, ik_t, ik_ds, c_ind, q_dct, q_slc, pv_t, pv_f, q_rev, q_call, q_bi, q_mth, q_isi, q_cmpr, q_nil, q_cons, y_ex, y_rng, y_rng3, turn_nm, lturn_nm, lturn_tup, forL_wkL, fd_nil, fd_cons, fx_nx, fx_ct, fx_bk, fx_rt, as_nm, as_tup, as_tupl, as_nil, as_cons, wp_nil, wp_cons, pa_nil', pa_cons', List.map_cons, List.map_nil, List.replicate, List.cons_append, List.nil_append, Nat.reduceSub, Nat.reduceAdd, List.getElem?_cons_zero, List.getElem?_cons_succ, List.set_cons_zero, List.set_cons_succ, r_ok, r_opt, b_add, b_sub, b_mul, b_div, b_mod, b_adds, c_lt, c_le, c_gt, c_ge, c_eq, c_ne, c_eqs, c_nes, c_ins, c_nis, v_b, t_b, l_s, l_l, l_t, i_s, i_l, i_t, m_t, m_r, dt_n, dt_c, datas_map, o_some, ob_some, w_rng, w_rng3, w_str, w_tup, w_lst, sl_s, sl_t, sl_l, n_b, n_i, tu_l, mn_i, k_s, k_i, k_b, k_t, decide_true, decide_false, Bool.not_true, Bool.not_false, i_r dk1, a0, a1, s_r dk1, sl, st, dk_n, l_r dk0, List.length_map, p18]
  by_cases hz : c.length = 0
  · have hc : c[((n + 1) % (c.length : Int)).toNat]? = none := List.getElem?_eq_none (by omega)
    have z : decide ((0 : Int) < (c.length : Nat)) = false := decide_eq_false (by omega)
    have z2 : decide ((1000000000000000000 : Int) ≤ 0) = false := by decide
    simp (disch := omega) only [z, z2, xs_cons, xs_nil, nxt_nx, nxt_rt, nxt_bk, nxt_ct, x_asg, x_set, x_aug, au_i, au_s, x_ex, x_ret, x_iff, x_forr, x_whil, x_par, x_pass, x_brk, x_cnt, q_var, gv, q_con, q_glo, q_tup, q_lst, q_bin, neg_i, q_cmp, q_and, q_or, q_not, q_ite, q_idx, ik_r, ik_s, ik_l, ik_t, ik_ds, c_ind, q_dct, q_slc, pv_t, pv_f, q_rev, q_call, q_bi, q_mth, q_isi, q_cmpr, q_nil, q_cons, y_ex, y_rng, y_rng3, turn_nm, lturn_nm, lturn_tup, forL_wkL, fd_nil, fd_cons, fx_nx, fx_ct, fx_bk, fx_rt, as_nm, as_tup, as_tupl, as_nil, as_cons, wp_nil, wp_cons, pa_nil', pa_cons', List.map_cons, List.map_nil, List.replicate, List.cons_append, List.nil_append, Nat.reduceSub, Nat.reduceAdd, List.getElem?_cons_zero, List.getElem?_cons_succ, List.set_cons_zero, List.set_cons_succ, r_ok, r_opt, b_add, b_sub, b_mul, b_div, b_mod, b_adds, c_lt, c_le, c_gt, c_ge, c_eq, c_ne, c_eqs, c_nes, c_ins, c_nis, v_b, t_b, l_s, l_l, l_t, i_s, i_l, i_t, m_t, m_r, dt_n, dt_c, datas_map, o_some, ob_some, w_rng, w_rng3, w_str, w_tup, w_lst, sl_s, sl_t, sl_l, n_b, n_i, tu_l, mn_i, k_s, k_i, k_b, k_t, decide_true, decide_false, Bool.not_true, Bool.not_false, p5, e5, p18, i_r dk1, a1, drawV, drawC, hc, mixv]
  · have hl : 0 < (c.length : Int) := by omega
    have h1 := Int.emod_nonneg (n + 1) (show (c.length : Int) ≠ 0 by omega)
    have h2 := Int.emod_lt_of_pos (n + 1) hl
    have hi : ((n + 1) % (c.length : Int)).toNat < c.length := by omega
    obtain ⟨x, hx⟩ : ∃ x, c[((n + 1) % (c.length : Int)).toNat]? = some x := ⟨_, List.getElem?_eq_getElem hi⟩
    have z : decide ((0 : Int) < (c.length : Nat)) = true := decide_eq_true hl
    have ix : ixOf c.length ((n + 1) % (c.length : Int)) = some ((n + 1) % (c.length : Int)).toNat := by
      unfold ixOf
      rw [if_pos h1, if_pos h2]
    have ax : atL (c.map fun i => Val.d (.int i)) ((n + 1) % (c.length : Int)) = some (.d (.int x)) := by
      unfold atL
      rw [List.length_map, ix]
      simp [hx]
    by_cases hb : (1000000000000000000 : Int) ≤ x
    · have z2 : decide ((1000000000000000000 : Int) ≤ x) = true := decide_eq_true hb
      have hb' : x ≥ (10 : Int) ^ 18 := hb
      simp (disch := omega) only [z, z2, xs_cons, xs_nil, nxt_nx, nxt_rt, nxt_bk, nxt_ct, x_asg, x_set, x_aug, au_i, au_s, x_ex, x_ret, x_iff, x_forr, x_whil, x_par, x_pass, x_brk, x_cnt, q_var, gv, q_con, q_glo, q_tup, q_lst, q_bin, neg_i, q_cmp, q_and, q_or, q_not, q_ite, q_idx, ik_r, ik_s, ik_l, ik_t, ik_ds, c_ind, q_dct, q_slc, pv_t, pv_f, q_rev, q_call, q_bi, q_mth, q_isi, q_cmpr, q_nil, q_cons, y_ex, y_rng, y_rng3, turn_nm, lturn_nm, lturn_tup, forL_wkL, fd_nil, fd_cons, fx_nx, fx_ct, fx_bk, fx_rt, as_nm, as_tup, as_tupl, as_nil, as_cons, wp_nil, wp_cons, pa_nil', pa_cons', List.map_cons, List.map_nil, List.replicate, List.cons_append, List.nil_append, Nat.reduceSub, Nat.reduceAdd, List.getElem?_cons_zero, List.getElem?_cons_succ, List.set_cons_zero, List.set_cons_succ, r_ok, r_opt, b_add, b_sub, b_mul, b_div, b_mod, b_adds, c_lt, c_le, c_gt, c_ge, c_eq, c_ne, c_eqs, c_nes, c_ins, c_nis, v_b, t_b, l_s, l_l, l_t, i_s, i_l, i_t, m_t, m_r, dt_n, dt_c, datas_map, o_some, ob_some, w_rng, w_rng3, w_str, w_tup, w_lst, sl_s, sl_t, sl_l, n_b, n_i, tu_l, mn_i, k_s, k_i, k_b, k_t, decide_true, decide_false, Bool.not_true, Bool.not_false, p18, i_r dk1, i_r dk0, l_r dk0, List.length_map, a0, a1, ax, s_r dk0, ix, dk_c, drawV, drawC, hx, hb', if_true, if_pos]
    · have z2 : decide ((1000000000000000000 : Int) ≤ x) = false := decide_eq_false hb
      have hb' : ¬ x ≥ (10 : Int) ^ 18 := hb
      simp (disch := omega) only [z, z2, xs_cons, xs_nil, nxt_nx, nxt_rt, nxt_bk, nxt_ct, x_asg, x_set, x_aug, au_i, au_s, x_ex, x_ret, x_iff, x_forr, x_whil, x_par, x_pass, x_brk, x_cnt, q_var, gv, q_con, q_glo, q_tup, q_lst, q_bin, neg_i, q_cmp, q_and, q_or, q_not, q_ite, q_idx, ik_r, ik_s, ik_l, ik_t, ik_ds, c_ind, q_dct, q_slc, pv_t, pv_f, q_rev, q_call, q_bi, q_mth, q_isi, q_cmpr, q_nil, q_cons, y_ex, y_rng, y_rng3, turn_nm, lturn_nm, lturn_tup, forL_wkL, fd_nil, fd_cons, fx_nx, fx_ct, fx_bk, fx_rt, as_nm, as_tup, as_tupl, as_nil, as_cons, wp_nil, wp_cons, pa_nil', pa_cons', List.map_cons, List.map_nil, List.replicate, List.cons_append, List.nil_append, Nat.reduceSub, Nat.reduceAdd, List.getElem?_cons_zero, List.getElem?_cons_succ, List.set_cons_zero, List.set_cons_succ, r_ok, r_opt, b_add, b_sub, b_mul, b_div, b_mod, b_adds, c_lt, c_le, c_gt, c_ge, c_eq, c_ne, c_eqs, c_nes, c_ins, c_nis, v_b, t_b, l_s, l_l, l_t, i_s, i_l, i_t, m_t, m_r, dt_n, dt_c, datas_map, o_some, ob_some, w_rng, w_rng3, w_str, w_tup, w_lst, sl_s, sl_t, sl_l, n_b, n_i, tu_l, mn_i, k_s, k_i, k_b, k_t, decide_true, decide_false, Bool.not_true, Bool.not_false, p5, e5, p18, i_r dk1, i_r dk0, l_r dk0, List.length_map, a0, a1, ax, s_r dk0, ix, dk_c, drawV, drawC, hx, hb', if_false, mixv]
theorem draw_ok (C : Cal) (c : List Int) {n m : Int} (hn : 0 ≤ n ∧ n < 2 ^ 40) (hm : 0 < m ∧ m < 4611686018427387904) : runB C ⟨2, 4, false, drawB⟩ [.r 1, .d (.int m)] (dk c n) = .ok (.d (.int (drawV c n m))) (dk (drawC c n m) (n + 1)) := draw_okR C [] c hn hm
end Rf

namespace Rf
open PySem PySem.Spec PyProof.Rows L2
/-! ### figures -/
def nd (n : Nat) : List Nat := if h : n < 10 then [48 + n] else nd (n / 10) ++ [48 + n % 10]
termination_by n
decreasing_by omega
theorem nd_lt {n : Nat} (h : n < 10) : nd n = [48 + n] := by rw [nd, dif_pos h]
theorem nd_ge {n : Nat} (h : ¬ n < 10) : nd n = nd (n / 10) ++ [48 + n % 10] := by rw [nd, dif_neg h]
theorem digitChar_code : ∀ d : Nat, d < 10 → (Nat.digitChar d).toNat = 48 + d := by decide
theorem toDigits_nd (n : Nat) : (Nat.toDigits 10 n).map Char.toNat = nd n := by
  induction n using Nat.strongRecOn with
  | _ n ih =>
    by_cases h : n < 10
    · rw [Nat.toDigits_of_lt_base h, nd_lt h]
      simp [digitChar_code n h]
    · have hm : n % 10 < 10 := Nat.mod_lt n (by decide)
      have t : Nat.toDigits 10 (n / 10) ++ Nat.toDigits 10 (n % 10) = Nat.toDigits 10 (10 * (n / 10) + n % 10) := Nat.toDigits_append_toDigits (by decide) (by omega) hm
      have e : 10 * (n / 10) + n % 10 = n := by omega
      rw [e] at t
      rw [← t, List.map_append, ih (n / 10) (by omega), Nat.toDigits_of_lt_base hm, nd_ge h]
      simp [digitChar_code _ hm]
theorem numText_nd (n : Nat) : numText (n : Int) = nd n := by
  rw [← toDigits_nd]
  unfold numText
  have e : (toString (n : Int)) = toString n := rfl
  rw [e]
  simp [Nat.repr, toString]
theorem nd_ne (n : Nat) : nd n ≠ [] := by
  by_cases h : n < 10
  · rw [nd_lt h]; simp
  · rw [nd_ge h]; simp
theorem nd_dig (n : Nat) : ∀ c ∈ nd n, 48 ≤ c ∧ c ≤ 57 := by
  induction n using Nat.strongRecOn with
  | _ n ih =>
    by_cases h : n < 10
    · rw [nd_lt h]
      intro c hc
      have : c = 48 + n := by simpa using hc
      omega
    · rw [nd_ge h]
      intro c hc
      rcases List.mem_append.mp hc with hc | hc
      · exact ih (n / 10) (by omega) c hc
      · have : c = 48 + n % 10 := by simpa using hc
        omega
theorem nd_len (n k : Nat) (h : n < 10 ^ (k + 1)) : (nd n).length ≤ k + 1 := by
  induction k generalizing n with
  | zero => rw [nd_lt (by simpa using h)]; simp
  | succ k ih =>
    by_cases h2 : n < 10
    · rw [nd_lt h2]; simp
    · rw [nd_ge h2, List.length_append]
      have := ih (n / 10) (by rw [Nat.pow_succ] at h; omega)
      simp; omega
theorem dig_foldl (l : List Nat) (a : Nat) : l.foldl (fun n c => n * 10 + (c - 48)) a = a * 10 ^ l.length + digV l := by
  induction l generalizing a with
  | nil => simp [digV]
  | cons c l ih =>
    unfold digV
    rw [List.foldl_cons, List.foldl_cons, ih, ih (0 * 10 + (c - 48)), List.length_cons, Nat.pow_succ]
    simp only [Nat.zero_mul, Nat.zero_add, Nat.add_mul, Nat.mul_assoc, Nat.mul_comm 10]
    omega
theorem dig_app (x y : List Nat) : digV (x ++ y) = digV x * 10 ^ y.length + digV y := by
  show (x ++ y).foldl _ 0 = _
  rw [List.foldl_append, dig_foldl]
  rfl
theorem dig_nd (n : Nat) : digV (nd n) = n := by
  induction n using Nat.strongRecOn with
  | _ n ih =>
    by_cases h : n < 10
    · rw [nd_lt h]; simp [digV]
    · rw [nd_ge h, dig_app, ih (n / 10) (by omega)]
      simp [digV]
      omega
theorem str_nd {r : Nat} (h : r ≤ 10 ^ 12) (z : Bool) (M : Mem) : biV z .str [.d (.int (r : Nat))] M = .ok (.d (.str (nd r))) M := by
  rw [s_i, numText_nd]
  exact log_ok (by rw [Int.natAbs_natCast]; exact Nat.lt_of_le_of_lt h (by decide))
theorem pad1 {r : Nat} (h : r < 10) : padZ (nd r) 1 = [48 + r] := by
  rw [nd_lt h]; rfl
theorem pad2 {r : Nat} (h : r < 100) : padZ (nd r) 2 = [48 + r / 10, 48 + r % 10] := by
  by_cases h2 : r < 10
  · rw [nd_lt h2]
    have e1 : r / 10 = 0 := by omega
    have e2 : r % 10 = r := by omega
    rw [e1, e2]; rfl
  · rw [nd_ge h2, nd_lt (by omega)]; rfl
theorem find_one (c : Nat) : ∀ l : List Nat, (findSub [c] l).isSome = l.contains c
  | [] => rfl
  | d :: r => by
    have ih := find_one c r
    unfold findSub
    by_cases h : c = d
    · subst h
      simp [List.isPrefixOf]
    · have h2 : (c == d) = false := beq_eq_false_iff_ne.mpr h
      simp [List.isPrefixOf, h2, ih, h]
theorem dig_at {r : Nat} (h : r < 10) : atL [48, 49, 50, 51, 52, 53, 54, 55, 56, 57] ((r : Nat) : Int) = some (48 + r) := by
  have : r = 0 ∨ r = 1 ∨ r = 2 ∨ r = 3 ∨ r = 4 ∨ r = 5 ∨ r = 6 ∨ r = 7 ∨ r = 8 ∨ r = 9 := by omega
  rcases this with rfl | rfl | rfl | rfl | rfl | rfl | rfl | rfl | rfl | rfl <;> rfl
theorem md10 (L : Nat) : (L : Int) % 10 = ((L % 10 : Nat) : Int) := rfl
theorem dv10 (L : Nat) : (L : Int) / 10 = ((L / 10 : Nat) : Int) := rfl
theorem at_nat {α : Type} {xs : List α} {v : Nat} (h : v < xs.length) : ∃ x, atL xs ((v : Nat) : Int) = some x ∧ x ∈ xs := at_ex (by omega) (by omega)
end Rf

namespace Rf.K15
open PySem PySem.Spec PyProof.Rows L2 Rf
/-! ### the text of the law, erased (printed by mk.py) -/
def top (i : Nat) : Stmt := PySem.Challenge.pw_tonguehouse_k15_whole_written_ever_wider.main.body.getD i (.Pass ⟨0, 0, 0, 0⟩)
/-- grouped -/
def b0 : Sts := (.cons (.asg (.nm 2) (.bin true .mod (.bi true .len (.cons (.var 0) .nil)) (.con (.int 3)))) (.cons (.asg (.nm 3) (.cmpr true [4] (.nm 4) (.rng3 (.var 2) (.bi true .len (.cons (.var 0) .nil)) (.con (.int 3))) (.con (.bl true)) (.slc true true true (.var 0) (.var 4) (.bin true .add (.var 4) (.con (.int 3)))))) (.cons (.iff (.cmp .gt (.var 2) (.con (.int 0))) (.cons (.asg (.nm 3) (.bin true .add (.lst true (.cons (.slc true false true (.var 0) (.con .non) (.var 2)) .nil)) (.var 3))) .nil) .nil) (.cons (.ret (.mth .join (.var 1) (.cons (.var 3) .nil))) .nil))))
/-- said_count -/
def b1 : Sts := (.cons (.asg (.tup (.cons (.nm 3) (.cons (.nm 4) .nil))) (.var 1)) (.cons (.asg (.nm 2) (.call 0 (.cons (.bi true .str (.cons (.bin true .div (.var 3) (.idx (.glo 0) (.var 4))) .nil)) (.cons (.idx (.var 0) (.con (.int 0))) .nil)))) (.cons (.iff (.cmp .gt (.var 4) (.con (.int 0))) (.cons (.aug 2 .add (.bin true .add (.idx (.var 0) (.con (.int 1))) (.mth .zfill (.bi true .str (.cons (.bin true .mod (.var 3) (.idx (.glo 0) (.var 4))) .nil)) (.cons (.var 4) .nil)))) .nil) .nil) (.cons (.ret (.var 2)) .nil))))
/-- said_sign -/
def b2 : Sts := (.cons (.asg (.tup (.cons (.nm 2) (.cons (.nm 3) (.cons (.nm 4) .nil)))) (.var 1)) (.cons (.iff (.cmp .eq (.var 0) (.con (.str [89]))) (.cons (.ret (.mth .zfill (.bi true .str (.cons (.var 2) .nil)) (.cons (.con (.int 4)) .nil))) .nil) .nil) (.cons (.iff (.cmp .isIn (.var 0) (.con (.str [77, 68]))) (.cons (.ret (.mth .zfill (.bi true .str (.cons (.ite (.cmp .eq (.var 0) (.con (.str [77]))) (.var 3) (.var 4)) .nil)) (.cons (.con (.int 2)) .nil))) .nil) .nil) (.cons (.iff (.cmp .isIn (.var 0) (.con (.str [121, 109, 100]))) (.cons (.ret (.bi true .str (.cons (.idx (.var 1) (.mth .index (.con (.str [121, 109, 100])) (.cons (.var 0) .nil))) .nil))) .nil) .nil) (.cons (.ret (.var 0)) .nil)))))
/-- said_day -/
def b3 : Sts := (.cons (.ret (.mth .join (.con (.str [])) (.cons (.cmpr true [2] (.nm 2) (.ex (.idx (.var 0) (.con (.int 2)))) (.con (.bl true)) (.call 2 (.cons (.var 2) (.cons (.var 1) .nil)))) .nil))) .nil)
/-- sign_width -/
def b4 : Sts := (.cons (.forr (.tup (.cons (.nm 2) (.cons (.nm 3) .nil))) (.ex (.var 0)) (.cons (.iff (.cmp .isIn (.var 1) (.var 2)) (.cons (.ret (.var 3)) .nil) .nil) .nil)) (.cons (.ret (.con (.int 1))) .nil))
/-- width -/
def b5 : Sts := (.cons (.ret (.bi true .sum (.cons (.cmpr true [2] (.nm 2) (.ex (.var 1)) (.con (.bl true)) (.call 4 (.cons (.var 0) (.cons (.var 2) .nil)))) .nil))) .nil)
/-- _law_deck -/
def b6 : Sts := (.cons (.ret (.lst false (.cons (.cmpr false [1] (.nm 1) (.ex (.slc true false true (.var 0) (.con .non) (.con (.int 63)))) (.con (.bl true)) (.bi true .abs (.cons (.var 1) .nil))) (.cons (.con (.int 0)) .nil)))) .nil)
/-- _law_draw -/
def b7 : Sts := (.cons (.set (.var 0) (.con (.int 1)) (.bin true .add (.idx (.var 0) (.con (.int 1))) (.con (.int 1)))) (.cons (.asg (.nm 2) (.con (.int 0))) (.cons (.asg (.nm 3) (.neg (.con (.int 1)))) (.cons (.iff (.cmp .gt (.bi true .len (.cons (.idx (.var 0) (.con (.int 0))) .nil)) (.con (.int 0))) (.cons (.asg (.nm 3) (.bin true .mod (.idx (.var 0) (.con (.int 1))) (.bi true .len (.cons (.idx (.var 0) (.con (.int 0))) .nil)))) (.cons (.asg (.nm 2) (.idx (.idx (.var 0) (.con (.int 0))) (.var 3))) .nil)) .nil) (.cons (.iff (.cmp .ge (.var 2) (.bin true .pow (.con (.int 10)) (.con (.int 18)))) (.cons (.set (.idx (.var 0) (.con (.int 0))) (.var 3) (.bin true .div (.var 2) (.var 1))) (.cons (.ret (.bin true .mod (.var 2) (.var 1))) .nil)) .nil) (.cons (.ret (.bin true .mod (.bin true .mod (.bin true .pow (.bin true .add (.bin true .add (.bin true .mod (.var 2) (.con (.int 2147483587))) (.bin true .mul (.con (.int 7919)) (.idx (.var 0) (.con (.int 1))))) (.con (.int 1))) (.con (.int 5))) (.con (.int 2147483647))) (.var 1))) .nil))))))
/-- _law_manner -/
def b8 : Sts := (.cons (.asg (.nm 1) (.con (.str [44, 46, 39, 95, 58, 59, 45, 124, 47, 43, 97, 126]))) (.cons (.asg (.nm 2) (.call 7 (.cons (.var 0) (.cons (.con (.int 12)) .nil)))) (.cons (.asg (.nm 3) (.idx (.var 1) (.bin true .mod (.bin true .add (.bin true .add (.var 2) (.con (.int 1))) (.call 7 (.cons (.var 0) (.cons (.con (.int 11)) .nil)))) (.con (.int 12))))) (.cons (.asg (.nm 4) (.con (.str []))) (.cons (.forr (.nm 5) (.rng (.con (.int 0)) (.bin true .add (.con (.int 1)) (.call 7 (.cons (.var 0) (.cons (.idx (.lst true (.cons (.con (.int 5)) (.cons (.con (.int 12)) .nil))) (.call 7 (.cons (.var 0) (.cons (.con (.int 2)) .nil)))) .nil))))) (.cons (.asg (.nm 4) (.bin true .add (.var 4) (.idx (.con (.str [89, 121, 77, 109, 68, 100, 46, 47, 45, 84, 100, 109, 89])) (.call 7 (.cons (.var 0) (.cons (.con (.int 13)) .nil)))))) .nil)) (.cons (.asg (.nm 6) (.bi true .tuple (.cons (.cmpr true [5] (.nm 5) (.ex (.tup (.cons (.con (.int 0)) (.cons (.con (.int 1)) .nil)))) (.con (.bl true)) (.idx (.lst true (.cons (.con (.str [])) (.cons (.con (.str [39])) (.cons (.con (.str [60, 60])) (.cons (.con (.str [34])) (.cons (.con (.str [62, 62])) (.cons (.con (.str [97])) (.cons (.con (.str [45, 45])) .nil)))))))) (.call 7 (.cons (.var 0) (.cons (.con (.int 7)) .nil))))) .nil))) (.cons (.ret (.tup (.cons (.idx (.lst true (.cons (.idx (.var 1) (.var 2)) (.cons (.con (.str [])) .nil))) (.bi true .int (.cons (.cmp .eq (.call 7 (.cons (.var 0) (.cons (.con (.int 4)) .nil))) (.con (.int 0))) .nil))) (.cons (.var 3) (.cons (.var 4) (.cons (.var 6) .nil)))))) .nil)))))))
/-- _law_measure -/
def b9 : Sts := (.cons (.asg (.nm 1) (.lst false .nil)) (.cons (.asg (.nm 2) (.lst false (.cons (.con (.str [48, 49, 50, 51, 52, 53, 54, 55, 56, 57])) (.cons (.con (.str [32])) (.cons (.con (.str [97, 98, 99])) (.cons (.con (.str [109, 119])) (.cons (.con (.str [120, 121, 122])) (.cons (.con (.str [44, 46])) (.cons (.con (.str [45])) (.cons (.con (.str [87])) (.cons (.con (.str [105, 105])) (.cons (.con (.str [39])) .nil)))))))))))) (.cons (.forr (.nm 3) (.rng (.con (.int 0)) (.call 7 (.cons (.var 0) (.cons (.con (.int 7)) .nil)))) (.cons (.iff (.cmp .gt (.bi true .len (.cons (.var 2) .nil)) (.con (.int 1))) (.cons (.asg (.nm 4) (.mth .popAt (.var 2) (.cons (.call 7 (.cons (.var 0) (.cons (.bi true .len (.cons (.var 2) .nil)) .nil))) .nil))) (.cons (.iff (.cmp .eq (.call 7 (.cons (.var 0) (.cons (.con (.int 3)) .nil))) (.con (.int 0))) (.cons (.asg (.nm 4) (.bin true .add (.var 4) (.mth .popAt (.var 2) (.cons (.call 7 (.cons (.var 0) (.cons (.bi true .len (.cons (.var 2) .nil)) .nil))) .nil)))) .nil) .nil) (.cons (.ex (.mth .append (.var 1) (.cons (.tup (.cons (.var 4) (.cons (.call 7 (.cons (.var 0) (.cons (.con (.int 5)) .nil))) .nil))) .nil))) .nil))) .nil) .nil)) (.cons (.ret (.bi true .tuple (.cons (.var 1) .nil))) .nil))))
/-- law -/
def b10 : Sts := (.cons (.asg (.nm 1) (.call 6 (.cons (.var 0) .nil))) (.cons (.asg (.nm 2) (.call 9 (.cons (.var 1) .nil))) (.cons (.asg (.nm 3) (.call 8 (.cons (.var 1) .nil))) (.cons (.forr (.nm 4) (.rng (.con (.int 0)) (.con (.int 8))) (.cons (.asg (.nm 5) (.call 7 (.cons (.var 1) (.cons (.con (.int 3)) .nil)))) (.cons (.asg (.nm 6) (.call 7 (.cons (.var 1) (.cons (.idx (.lst true (.cons (.con (.int 10)) (.cons (.con (.int 100)) (.cons (.con (.int 1000)) (.cons (.bin true .pow (.con (.int 10)) (.con (.int 4))) (.cons (.bin true .pow (.con (.int 10)) (.con (.int 6))) (.cons (.bin true .pow (.con (.int 10)) (.con (.int 9))) (.cons (.bin true .pow (.con (.int 10)) (.con (.int 12))) .nil)))))))) (.call 7 (.cons (.var 1) (.cons (.con (.int 7)) .nil)))) .nil)))) (.cons (.asg (.nm 7) (.bi true .min2 (.cons (.bin true .pow (.con (.int 10)) (.con (.int 12))) (.cons (.bin true .add (.var 6) (.call 7 (.cons (.var 1) (.cons (.idx (.lst true (.cons (.con (.int 2)) (.cons (.con (.int 10)) (.cons (.con (.int 1000)) (.cons (.bin true .pow (.con (.int 10)) (.con (.int 12))) .nil))))) (.call 7 (.cons (.var 1) (.cons (.con (.int 4)) .nil)))) .nil)))) .nil)))) (.cons (.asg (.nm 8) (.call 5 (.cons (.var 2) (.cons (.call 1 (.cons (.var 3) (.cons (.tup (.cons (.var 6) (.cons (.var 5) .nil))) .nil))) .nil)))) (.cons (.asg (.nm 9) (.call 5 (.cons (.var 2) (.cons (.call 1 (.cons (.var 3) (.cons (.tup (.cons (.var 7) (.cons (.var 5) .nil))) .nil))) .nil)))) (.cons (.iff (.cmp .gt (.var 8) (.var 9)) (.cons (.ret (.con (.bl false))) .nil) .nil) (.cons (.asg (.nm 10) (.idx (.lst true (.cons (.con (.int 1)) (.cons (.con (.int 10)) (.cons (.con (.int 100)) .nil)))) (.var 5))) (.cons (.iff (.and (.cmp .eq (.bi true .len (.cons (.bi true .str (.cons (.bin true .div (.var 6) (.var 10)) .nil)) .nil)) (.bi true .len (.cons (.bi true .str (.cons (.bin true .div (.var 7) (.var 10)) .nil)) .nil))) (.cmp .ne (.var 8) (.var 9))) (.cons (.ret (.con (.bl false))) .nil) .nil) (.cons (.asg (.nm 11) (.tup (.cons (.call 7 (.cons (.var 1) (.cons (.con (.int 10000)) .nil))) (.cons (.bin true .add (.con (.int 1)) (.call 7 (.cons (.var 1) (.cons (.con (.int 12)) .nil)))) (.cons (.bin true .add (.con (.int 1)) (.call 7 (.cons (.var 1) (.cons (.con (.int 31)) .nil)))) .nil))))) (.cons (.iff (.cmp .gt (.call 5 (.cons (.var 2) (.cons (.call 3 (.cons (.var 3) (.cons (.var 11) .nil))) .nil))) (.call 5 (.cons (.var 2) (.cons (.call 3 (.cons (.var 3) (.cons (.tup (.cons (.con (.int 9999)) (.cons (.con (.int 12)) (.cons (.con (.int 31)) .nil)))) .nil))) .nil)))) (.cons (.ret (.con (.bl false))) .nil) .nil) .nil))))))))))) (.cons (.ret (.con (.bl true))) .nil)))))
def c0 : DefC := ⟨["figures", "group"], ["figures", "group", "first", "parts", "at"], true, b0⟩
def c1 : DefC := ⟨["manner", "count"], ["manner", "count", "found", "n", "d"], true, b1⟩
def c2 : DefC := ⟨["sign", "day"], ["sign", "day", "y", "m", "d"], true, b2⟩
def c3 : DefC := ⟨["manner", "day"], ["manner", "day", "sign"], true, b3⟩
def c4 : DefC := ⟨["measure", "sign"], ["measure", "sign", "signs", "wide"], true, b4⟩
def c5 : DefC := ⟨["measure", "text"], ["measure", "text", "sign"], true, b5⟩
def c6 : DefC := ⟨["_law_script"], ["_law_script", "_law_cell"], false, b6⟩
def c7 : DefC := ⟨["_law_deck_here", "_law_many"], ["_law_deck_here", "_law_many", "_law_cell", "_law_place"], false, b7⟩
def c8 : DefC := ⟨["_law_deck_here"], ["_law_deck_here", "_law_marks", "_law_first", "_law_point", "_law_day", "_law_k", "_law_quotes"], false, b8⟩
def c9 : DefC := ⟨["_law_deck_here"], ["_law_deck_here", "_law_found", "_law_left", "_law_k", "_law_signs"], false, b9⟩
def c10 : DefC := ⟨["_law_script"], ["_law_script", "_law_deck_here", "_law_measure_here", "_law_manner_here", "_law_time", "_law_d", "_law_n", "_law_more", "_law_one", "_law_other", "_law_ten", "_law_day"], false, b10⟩
def d0 : He.DefD := ⟨("grouped", none), "grouped", "grouped", defArgs (top 2), defBody (top 2), defScope (top 2), [], []⟩
def d1 : He.DefD := ⟨("said_count", none), "said_count", "said_count", defArgs (top 3), defBody (top 3), defScope (top 3), [], []⟩
def d2 : He.DefD := ⟨("said_sign", none), "said_sign", "said_sign", defArgs (top 4), defBody (top 4), defScope (top 4), [], []⟩
def d3 : He.DefD := ⟨("said_day", none), "said_day", "said_day", defArgs (top 5), defBody (top 5), defScope (top 5), [], []⟩
def d4 : He.DefD := ⟨("sign_width", none), "sign_width", "sign_width", defArgs (top 7), defBody (top 7), defScope (top 7), [], []⟩
def d5 : He.DefD := ⟨("width", none), "width", "width", defArgs (top 8), defBody (top 8), defScope (top 8), [], []⟩
def d6 : He.DefD := ⟨("_law_deck", none), "_law_deck", "_law_deck", defArgs (top 10), defBody (top 10), defScope (top 10), [], []⟩
def d7 : He.DefD := ⟨("_law_draw", none), "_law_draw", "_law_draw", defArgs (top 11), defBody (top 11), defScope (top 11), [], []⟩
def d8 : He.DefD := ⟨("_law_manner", none), "_law_manner", "_law_manner", defArgs (top 12), defBody (top 12), defScope (top 12), [], []⟩
def d9 : He.DefD := ⟨("_law_measure", none), "_law_measure", "_law_measure", defArgs (top 13), defBody (top 13), defScope (top 13), [], []⟩
def d10 : He.DefD := ⟨("law", none), "law", "law", defArgs (top 14), defBody (top 14), defScope (top 14), [], []⟩
def cs : List DefC := [c0, c1, c2, c3, c4, c5, c6, c7, c8, c9, c10]
def cons : List (Str × D) := [("TENS", .tup [.int 1, .int 10, .int 100])]
def txt : Txt := ⟨[d0, d1, d2, d3, d4, d5, d6, d7, d8, d9, d10], cons, ["abs", "int", "len", "min", "range", "str", "sum", "tuple"]⟩
def mu : List (Nat × Nat) := [(36, 11), (36, 12), (58, 17), (59, 16)]
abbrev pr : Prog := progOf txt cs
theorem g0 : Good (tabOf txt cs mu) d0 c0 := ⟨rfl, by kernel_rfl, rfl, rfl, fun _ _ _ _ _ _ us hl => match us, hl with | [_, _], _ => rfl, by kernel_rfl⟩
theorem g1 : Good (tabOf txt cs mu) d1 c1 := ⟨rfl, by kernel_rfl, rfl, rfl, fun _ _ _ _ _ _ us hl => match us, hl with | [_, _], _ => rfl, by kernel_rfl⟩
theorem g2 : Good (tabOf txt cs mu) d2 c2 := ⟨rfl, by kernel_rfl, rfl, rfl, fun _ _ _ _ _ _ us hl => match us, hl with | [_, _], _ => rfl, by kernel_rfl⟩
theorem g3 : Good (tabOf txt cs mu) d3 c3 := ⟨rfl, by kernel_rfl, rfl, rfl, fun _ _ _ _ _ _ us hl => match us, hl with | [_, _], _ => rfl, by kernel_rfl⟩
theorem g4 : Good (tabOf txt cs mu) d4 c4 := ⟨rfl, by kernel_rfl, rfl, rfl, fun _ _ _ _ _ _ us hl => match us, hl with | [_, _], _ => rfl, by kernel_rfl⟩
theorem g5 : Good (tabOf txt cs mu) d5 c5 := ⟨rfl, by kernel_rfl, rfl, rfl, fun _ _ _ _ _ _ us hl => match us, hl with | [_, _], _ => rfl, by kernel_rfl⟩
theorem g6 : Good (tabOf txt cs mu) d6 c6 := ⟨rfl, by kernel_rfl, rfl, rfl, fun _ _ _ _ _ _ us hl => match us, hl with | [_], _ => rfl, by kernel_rfl⟩
theorem g7 : Good (tabOf txt cs mu) d7 c7 := ⟨rfl, by kernel_rfl, rfl, rfl, fun _ _ _ _ _ _ us hl => match us, hl with | [_, _], _ => rfl, by kernel_rfl⟩
theorem g8 : Good (tabOf txt cs mu) d8 c8 := ⟨rfl, by kernel_rfl, rfl, rfl, fun _ _ _ _ _ _ us hl => match us, hl with | [_], _ => rfl, by kernel_rfl⟩
theorem g9 : Good (tabOf txt cs mu) d9 c9 := ⟨rfl, by kernel_rfl, rfl, rfl, fun _ _ _ _ _ _ us hl => match us, hl with | [_], _ => rfl, by kernel_rfl⟩
theorem g10 : Good (tabOf txt cs mu) d10 c10 := ⟨rfl, by kernel_rfl, rfl, rfl, fun _ _ _ _ _ _ us hl => match us, hl with | [_], _ => rfl, by kernel_rfl⟩
theorem goods : Goods (tabOf txt cs mu) txt.defs cs := .cons g0 (.cons g1 (.cons g2 (.cons g3 (.cons g4 (.cons g5 (.cons g6 (.cons g7 (.cons g8 (.cons g9 (.cons g10 (.nil)))))))))))
abbrev hk : PySem.W.Hook := txt.hook 5
def ob (s : PySem.W.SharedT) := txt.obsG 5 (HandSHeadRun.getT s)
theorem ob_eq (s : PySem.W.SharedT) : ob s = hk.obs s.abs := Txt.obsG_eq txt (HandSHeadRun.getT_eq s)
def loose : List Str := ["grouped", "said_count", "said_sign", "said_day", "sign_width", "width", "_law_deck", "_law_draw", "_law_manner", "_law_measure", "TENS"]
theorem run (w : World) : HandSHeadRun.RunEq (PySem.W.OpenLaw.row PySem.Challenge.rw_tonguehouse_k15_whole_written_ever_wider) (PySem.W.view ((PySem.W.OpenLaw.row PySem.Challenge.rw_tonguehouse_k15_whole_written_ever_wider)).prog [14]) hk ob 1500 loose w := by
  intro os
  kernel_rfl
/-- from the plain law to the row -/
theorem row_of (hlaw : ∀ ns : List Int, ns.length ≤ 63 → ∃ M, callN pr 40 10 [.d (.scr ns)] [] = .ok (.d (.bl true)) M) : PySem.Challenge.rw_tonguehouse_k15_whole_written_ever_wider.Holds := by
  w_on; o_law
  refine HandSHeadRun.head_any (r := (PySem.W.OpenLaw.row PySem.Challenge.rw_tonguehouse_k15_whole_written_ever_wider)) (q := PySem.W.view ((PySem.W.OpenLaw.row PySem.Challenge.rw_tonguehouse_k15_whole_written_ever_wider)).prog [14]) (H := hk) (ob := ob) (M := 1500) (loose := loose) (d := HandSHeadRun.topDef ((PySem.W.OpenLaw.row PySem.Challenge.rw_tonguehouse_k15_whole_written_ever_wider)).prog 14) (kwd := []) ob_eq
    (by kernel_rfl) (fun s => by kernel_rfl) run (by kernel_rfl) (by kernel_rfl) (by kernel_rfl) (by rfl) (by first | assumption | decide +kernel) (by decide +kernel) ⟨rfl, rfl, rfl, rfl, rfl, by decide +kernel⟩ ?hw ?hc
  case hw => w_witness2
  case hc =>
    exact walk_txt (l := PySem.Challenge.rw_tonguehouse_k15_whole_written_ever_wider) (t := txt) (cs := cs) (mu := mu) (n := 63) (k := 40) (f := 10) (dd := d10) (c := c10) rfl (by decide) (by kernel_rfl) ⟨rfl, by decide, by decide⟩ goods rfl rfl rfl (by kernel_rfl) hlaw
end Rf.K15

namespace Rf.K15
open PySem PySem.Spec PyProof.Rows L2 Rf
def dk (r : Mem) (c : List Int) (n : Int) : Mem := dkr c n r
/-! ### threes -/
section
variable (g : List Nat)
def ins (k : Nat) : List Nat := if k > 0 ∧ k % 3 = 0 then g else []
def hh : List Nat → List Nat
  | [] => []
  | d :: r => d :: (ins g r.length ++ hh r)
def go : List Nat → Nat → List Nat → List Nat
  | [], _, acc => acc
  | d :: ds, k, acc => go ds (k + 1) (d :: (ins g k ++ acc))
theorem go_snoc (d : Nat) : ∀ (xs : List Nat) (k : Nat) (acc : List Nat), go g (xs ++ [d]) k acc = d :: (ins g (k + xs.length) ++ go g xs k acc)
  | [], k, acc => rfl
  | x :: xs, k, acc => by
    show go g (xs ++ [d]) (k + 1) _ = _
    rw [go_snoc d xs (k + 1)]
    have e : k + 1 + xs.length = k + (x :: xs).length := by rw [List.length_cons]; omega
    rw [e]
    rfl
theorem go_rev (acc : List Nat) : ∀ F : List Nat, go g F.reverse 0 acc = hh g F ++ acc
  | [] => rfl
  | d :: r => by
    rw [List.reverse_cons, go_snoc, go_rev acc r, List.length_reverse, Nat.zero_add]
    simp [hh]
def ch3 : List Nat → List (List Nat)
  | a :: b :: c :: r => [a, b, c] :: ch3 r
  | _ => []
theorem ch3_range : ∀ (q : Nat) (G : List Nat), G.length = 3 * q → (List.range q).map (fun k => (G.drop (3 * k)).take 3) = ch3 G
  | 0, G, h => by
    have : G = [] := List.length_eq_zero_iff.mp (by omega)
    subst this
    rfl
  | q + 1, G, h => by
    match G, h with
    | a :: b :: c :: r, h =>
      rw [List.range_succ_eq_map, List.map_cons, List.map_map]
      have ih := ch3_range q r (by simp at h; omega)
      show _ :: _ = [a, b, c] :: ch3 r
      rw [← ih]
      congr 1
    | [], h => simp at h
    | [_], h => simp at h; omega
    | [_, _], h => simp at h; omega
theorem join_cons (x : List Nat) (r : List (List Nat)) : joinL g (x :: r) = x ++ (if r = [] then [] else g ++ joinL g r) := by
  cases r with
  | nil => simp [joinL]
  | cons y r => simp [joinL]
theorem ch3_nil : ∀ (G : List Nat) (q : Nat), G.length = 3 * q → (ch3 G = [] ↔ G = [])
  | [], _, _ => by simp [ch3]
  | [_], q, h => by simp at h; omega
  | [_, _], q, h => by simp at h; omega
  | a :: b :: c :: r, q, h => by simp [ch3]
theorem hh_ch3 : ∀ (q : Nat) (G : List Nat), G.length = 3 * q → joinL g (ch3 G) = hh g G
  | 0, G, h => by
    have : G = [] := List.length_eq_zero_iff.mp (by omega)
    subst this
    rfl
  | q + 1, G, h => by
    match G, h with
    | a :: b :: c :: r, h =>
      have hr : r.length = 3 * q := by simp at h; omega
      have ih := hh_ch3 q r hr
      have i1 : ins g (b :: c :: r).length = [] := if_neg (by simp; omega)
      have i2 : ins g (c :: r).length = [] := if_neg (by simp; omega)
      show joinL g ([a, b, c] :: ch3 r) = a :: (ins g (b :: c :: r).length ++ b :: (ins g (c :: r).length ++ c :: (ins g r.length ++ hh g r)))
      rw [i1, i2, join_cons, ih]
      by_cases hz : r = []
      · subst hz
        simp [ch3, ins, hh]
      · have : ch3 r ≠ [] := fun e => hz ((ch3_nil r q hr).mp e)
        have i3 : ins g r.length = g := if_pos ⟨List.length_pos_iff.mpr hz, by omega⟩
        rw [if_neg this, i3]
        simp
    | [], h => simp at h
    | [_], h => simp at h; omega
    | [_, _], h => simp at h; omega
def parts (F : List Nat) : List (List Nat) := if F.length % 3 > 0 then F.take (F.length % 3) :: ch3 (F.drop (F.length % 3)) else ch3 F
theorem hh_parts (F : List Nat) : joinL g (parts F) = hh g F := by
  unfold parts
  have hd : (F.drop (F.length % 3)).length = 3 * (F.length / 3) := by rw [List.length_drop]; omega
  by_cases h : F.length % 3 > 0
  · rw [if_pos h, join_cons, hh_ch3 g _ _ hd]
    have tail : ∀ G : List Nat, G.length = 3 * (F.length / 3) → (if ch3 G = [] then [] else g ++ hh g G) = ins g G.length ++ hh g G := by
      intro G hG
      by_cases hz : G = []
      · subst hz
        simp [ch3, ins, hh]
      · rw [if_neg fun e => hz ((ch3_nil G _ hG).mp e)]
        have i3 : ins g G.length = g := if_pos ⟨List.length_pos_iff.mpr hz, by omega⟩
        rw [i3]
    rw [tail _ hd]
    rcases (show F.length % 3 = 1 ∨ F.length % 3 = 2 by omega) with e | e
    · rw [e] at hd ⊢
      match F, e, hd with
      | a :: r, e, hd => simp [hh]
    · rw [e] at hd ⊢
      match F, e, hd with
      | a :: b :: r, e, hd =>
        have hr : r.length = 3 * ((a :: b :: r).length / 3) := by simpa using hd
        have i1 : ins g (b :: r).length = [] := if_neg (by simp; omega)
        show [a, b] ++ (ins g r.length ++ hh g r) = a :: (ins g (b :: r).length ++ b :: (ins g r.length ++ hh g r))
        rw [i1]
        simp
      | [a], e, hd => simp at e
  · rw [if_neg h]
    exact hh_ch3 g (F.length / 3) F (by omega)
theorem hh_len : ∀ F : List Nat, (hh g F).length ≤ F.length * (g.length + 1)
  | [] => by simp [hh]
  | d :: r => by
    have ih := hh_len r
    have hi : (ins g r.length).length ≤ g.length := by unfold ins; split <;> simp
    simp only [hh, List.length_cons, List.length_append]
    have e : (r.length + 1) * (g.length + 1) = r.length * (g.length + 1) + (g.length + 1) := Nat.succ_mul _ _
    omega
end
theorem sum3 : ∀ (q : Nat) (G : List Nat), (((List.range q).map (fun k => (G.drop (3 * k)).take 3)).map List.length).sum ≤ 3 * q := by
  intro q G
  induction q with
  | zero => simp
  | succ q ih =>
    rw [List.range_succ, List.map_append, List.map_append, List.sum_append]
    simp only [List.map_cons, List.map_nil, List.sum_cons, List.sum_nil, List.length_take]
    omega
theorem grouped_ok (k : Nat) (F g : List Nat) (M : Mem) (hF : F.length ≤ 1000) (hg : g.length ≤ 10) : callN pr (k + 1) 0 [.d (.str F), .d (.str g)] M = .ok (.d (.str (hh g F))) M := by
  refine call_pure (fn := cOf c0) (ds := [.str F, .str g]) rfl rfl rfl (v := .d (.str (hh g F))) (m' := []) ?_ rfl
  show runB _ ⟨2, 5, true, b0⟩ _ _ = _
  rw [runB_eq rfl]
  have em : ((F.length : Nat) : Int) % 3 = ((F.length % 3 : Nat) : Int) := rfl
  have hlt : F.length % 3 < 3 := Nat.mod_lt _ (by decide)
  have rn : rgN ((F.length % 3 : Nat) : Int) (F.length : Nat) 3 = F.length / 3 := by
    unfold rgN
    rw [if_pos (by decide)]
    by_cases h : ((F.length % 3 : Nat) : Int) < (F.length : Nat)
    · rw [if_pos h]
      omega
    · rw [if_neg h]
      omega
  have mp : ∀ j : Nat, j < F.length / 3 → cut F (some (((F.length % 3 : Nat) : Int) + (j : Int) * 3)) (some (((F.length % 3 : Nat) : Int) + (j : Int) * 3 + 3)) = ((F.drop (F.length % 3)).drop (3 * j)).take 3 := by
    intro j hj
    simp only [cut, cutAt]
    rw [if_neg (by omega), if_neg (by omega), List.drop_drop]
    congr 1
    · omega
    · congr 1
      omega
  simp (disch := omega) only [b0, xs_cons, xs_nil, nxt_nx, nxt_rt, nxt_bk, nxt_ct, x_asg, x_set, x_aug, au_i, au_s, x_ex, x_ret, x_iff, x_forr, x_whil, x_par, x_pass, x_brk, x_cnt, q_var, gv, q_con, q_glo, q_tup, q_lst, q_bin, neg_i, q_cmp, q_and, q_or, q_not, q_ite, q_idx, ik_r, ik_s, ik_l, ik_t, ik_ds, c_ind, q_dct, q_slc, pv_t, pv_f, q_rev, q_call, q_bi, q_mth, q_isi, q_cmpr, q_nil, q_cons, y_ex, y_rng, y_rng3, turn_nm, lturn_nm, lturn_tup, forL_wkL, fd_nil, fd_cons, fx_nx, fx_ct, fx_bk, fx_rt, as_nm, as_tup, as_tupl, as_nil, as_cons, wp_nil, wp_cons, pa_nil', pa_cons', List.map_cons, List.map_nil, List.replicate, List.cons_append, List.nil_append, Nat.reduceSub, Nat.reduceAdd, List.getElem?_cons_zero, List.getElem?_cons_succ, List.set_cons_zero, List.set_cons_succ, r_ok, r_opt, b_add, b_sub, b_mul, b_div, b_mod, b_adds, c_lt, c_le, c_gt, c_ge, c_eq, c_ne, c_eqs, c_nes, c_ins, c_nis, v_b, t_b, l_s, l_l, l_t, i_s, i_l, i_t, m_t, m_r, dt_n, dt_c, datas_map, o_some, ob_some, w_rng, w_rng3, w_str, w_tup, w_lst, sl_s, sl_t, sl_l, n_b, n_i, tu_l, mn_i, k_s, k_i, k_b, k_t, decide_true, decide_false, Bool.not_true, Bool.not_false, em, rn]
  rw [compL_wkL, comp_map (g := fun v => match v with
    | .d (.int i) => .d (.str (cut F (some i) (some (i + 3))))
    | v => v)]
  · have pl : (List.range (F.length / 3)).map (fun (j : Nat) => Val.d (.str (cut F (some (((F.length % 3 : Nat) : Int) + (j : Int) * 3)) (some (((F.length % 3 : Nat) : Int) + (j : Int) * 3 + 3))))) = (((ch3 (F.drop (F.length % 3))).map D.str).map Val.d) := by
      rw [← ch3_range (F.length / 3) (F.drop (F.length % 3)) (by rw [List.length_drop]; omega), List.map_map, List.map_map]
      refine List.map_congr_left fun j hj => ?_
      rw [mp j (List.mem_range.mp hj)]
      rfl
    have ms : ∀ G : List Nat, G.length = 3 * (F.length / 3) → ((ch3 G).map List.length).sum ≤ 3 * (F.length / 3) ∧ (ch3 G).length = F.length / 3 := by
      intro G hG
      rw [← ch3_range (F.length / 3) G hG]
      exact ⟨sum3 _ _, by simp⟩
    obtain ⟨s1, s2⟩ := ms (F.drop (F.length % 3)) (by rw [List.length_drop]; omega)
    have big : (F.length / 3) * g.length ≤ 334 * 10 := Nat.mul_le_mul (by omega) hg
    simp only [List.map_map, List.nil_append]
    have pl' : List.map ((fun v => match v with
      | Val.d (.int i) => Val.d (.str (cut F (some i) (some (i + 3))))
      | v => v) ∘ fun (j : Nat) => Val.d (.int (((F.length % 3 : Nat) : Int) + (j : Int) * 3))) (List.range (F.length / 3)) = (((ch3 (F.drop (F.length % 3))).map D.str).map Val.d) := pl
    rw [pl']
    by_cases h0 : F.length % 3 > 0
    · have z : decide ((0 : Int) < ((F.length % 3 : Nat) : Int)) = true := decide_eq_true (by omega)
      have ct : cut F none (some ((F.length % 3 : Nat) : Int)) = F.take (F.length % 3) := by
        simp only [cut, cutAt]
        rw [if_neg (by omega)]
        simp
        omega
      have hp : parts F = F.take (F.length % 3) :: ch3 (F.drop (F.length % 3)) := if_pos h0
      simp (disch := omega) only [xs_cons, xs_nil, nxt_nx, nxt_rt, nxt_bk, nxt_ct, x_asg, x_set, x_aug, au_i, au_s, x_ex, x_ret, x_iff, x_forr, x_whil, x_par, x_pass, x_brk, x_cnt, q_var, gv, q_con, q_glo, q_tup, q_lst, q_bin, neg_i, q_cmp, q_and, q_or, q_not, q_ite, q_idx, ik_r, ik_s, ik_l, ik_t, ik_ds, c_ind, q_dct, q_slc, pv_t, pv_f, q_rev, q_call, q_bi, q_mth, q_isi, q_cmpr, q_nil, q_cons, y_ex, y_rng, y_rng3, turn_nm, lturn_nm, lturn_tup, forL_wkL, fd_nil, fd_cons, fx_nx, fx_ct, fx_bk, fx_rt, as_nm, as_tup, as_tupl, as_nil, as_cons, wp_nil, wp_cons, pa_nil', pa_cons', List.map_cons, List.map_nil, List.replicate, List.cons_append, List.nil_append, Nat.reduceSub, Nat.reduceAdd, List.getElem?_cons_zero, List.getElem?_cons_succ, List.set_cons_zero, List.set_cons_succ, r_ok, r_opt, b_add, b_sub, b_mul, b_div, b_mod, b_adds, c_lt, c_le, c_gt, c_ge, c_eq, c_ne, c_eqs, c_nes, c_ins, c_nis, v_b, t_b, l_s, l_l, l_t, i_s, i_l, i_t, m_t, m_r, dt_n, dt_c, datas_map, o_some, ob_some, w_rng, w_rng3, w_str, w_tup, w_lst, sl_s, sl_t, sl_l, n_b, n_i, tu_l, mn_i, k_s, k_i, k_b, k_t, decide_true, decide_false, Bool.not_true, Bool.not_false, z, ct]
      have e : [D.str (F.take (F.length % 3))] ++ (ch3 (F.drop (F.length % 3))).map D.str = (parts F).map D.str := by rw [hp]; rfl
      rw [b_addl (by simp; omega), e]
      simp only [xs_cons, xs_nil, nxt_nx, nxt_rt, nxt_bk, nxt_ct, x_asg, x_set, x_aug, au_i, au_s, x_ex, x_ret, x_iff, x_forr, x_whil, x_par, x_pass, x_brk, x_cnt, q_var, gv, q_con, q_glo, q_tup, q_lst, q_bin, neg_i, q_cmp, q_and, q_or, q_not, q_ite, q_idx, ik_r, ik_s, ik_l, ik_t, ik_ds, c_ind, q_dct, q_slc, pv_t, pv_f, q_rev, q_call, q_bi, q_mth, q_isi, q_cmpr, q_nil, q_cons, y_ex, y_rng, y_rng3, turn_nm, lturn_nm, lturn_tup, forL_wkL, fd_nil, fd_cons, fx_nx, fx_ct, fx_bk, fx_rt, as_nm, as_tup, as_tupl, as_nil, as_cons, wp_nil, wp_cons, pa_nil', pa_cons', List.map_cons, List.map_nil, List.replicate, List.cons_append, List.nil_append, Nat.reduceSub, Nat.reduceAdd, List.getElem?_cons_zero, List.getElem?_cons_succ, List.set_cons_zero, List.set_cons_succ, r_ok, r_opt, b_add, b_sub, b_mul, b_div, b_mod, b_adds, c_lt, c_le, c_gt, c_ge, c_eq, c_ne, c_eqs, c_nes, c_ins, c_nis, v_b, t_b, l_s, l_l, l_t, i_s, i_l, i_t, m_t, m_r, dt_n, dt_c, datas_map, o_some, ob_some, w_rng, w_rng3, w_str, w_tup, w_lst, sl_s, sl_t, sl_l, n_b, n_i, tu_l, mn_i, k_s, k_i, k_b, k_t, decide_true, decide_false, Bool.not_true, Bool.not_false]
      rw [j_l, hh_parts]
      · rfl
      rw [hp]
      simp only [List.map_cons, List.sum_cons, List.length_cons, List.length_take, Nat.add_mul, s2]
      omega
    · have z : decide ((0 : Int) < ((F.length % 3 : Nat) : Int)) = false := decide_eq_false (by omega)
      have hp : parts F = ch3 F := if_neg h0
      have hd : F.drop (F.length % 3) = F := by rw [show F.length % 3 = 0 by omega]; rfl
      rw [hd] at s1 s2 ⊢
      simp only [xs_cons, xs_nil, nxt_nx, nxt_rt, nxt_bk, nxt_ct, x_asg, x_set, x_aug, au_i, au_s, x_ex, x_ret, x_iff, x_forr, x_whil, x_par, x_pass, x_brk, x_cnt, q_var, gv, q_con, q_glo, q_tup, q_lst, q_bin, neg_i, q_cmp, q_and, q_or, q_not, q_ite, q_idx, ik_r, ik_s, ik_l, ik_t, ik_ds, c_ind, q_dct, q_slc, pv_t, pv_f, q_rev, q_call, q_bi, q_mth, q_isi, q_cmpr, q_nil, q_cons, y_ex, y_rng, y_rng3, turn_nm, lturn_nm, lturn_tup, forL_wkL, fd_nil, fd_cons, fx_nx, fx_ct, fx_bk, fx_rt, as_nm, as_tup, as_tupl, as_nil, as_cons, wp_nil, wp_cons, pa_nil', pa_cons', List.map_cons, List.map_nil, List.replicate, List.cons_append, List.nil_append, Nat.reduceSub, Nat.reduceAdd, List.getElem?_cons_zero, List.getElem?_cons_succ, List.set_cons_zero, List.set_cons_succ, r_ok, r_opt, b_add, b_sub, b_mul, b_div, b_mod, b_adds, c_lt, c_le, c_gt, c_ge, c_eq, c_ne, c_eqs, c_nes, c_ins, c_nis, v_b, t_b, l_s, l_l, l_t, i_s, i_l, i_t, m_t, m_r, dt_n, dt_c, datas_map, o_some, ob_some, w_rng, w_rng3, w_str, w_tup, w_lst, sl_s, sl_t, sl_l, n_b, n_i, tu_l, mn_i, k_s, k_i, k_b, k_t, decide_true, decide_false, Bool.not_true, Bool.not_false, z]
      rw [← hp, j_l, hh_parts]
      · rfl
      rw [hp, s2]
      omega
  · intro v hv
    obtain ⟨j, hj, rfl⟩ := List.mem_map.mp hv
    simp only [xs_cons, xs_nil, nxt_nx, nxt_rt, nxt_bk, nxt_ct, x_asg, x_set, x_aug, au_i, au_s, x_ex, x_ret, x_iff, x_forr, x_whil, x_par, x_pass, x_brk, x_cnt, q_var, gv, q_con, q_glo, q_tup, q_lst, q_bin, neg_i, q_cmp, q_and, q_or, q_not, q_ite, q_idx, ik_r, ik_s, ik_l, ik_t, ik_ds, c_ind, q_dct, q_slc, pv_t, pv_f, q_rev, q_call, q_bi, q_mth, q_isi, q_cmpr, q_nil, q_cons, y_ex, y_rng, y_rng3, turn_nm, lturn_nm, lturn_tup, forL_wkL, fd_nil, fd_cons, fx_nx, fx_ct, fx_bk, fx_rt, as_nm, as_tup, as_tupl, as_nil, as_cons, wp_nil, wp_cons, pa_nil', pa_cons', List.map_cons, List.map_nil, List.replicate, List.cons_append, List.nil_append, Nat.reduceSub, Nat.reduceAdd, List.getElem?_cons_zero, List.getElem?_cons_succ, List.set_cons_zero, List.set_cons_succ, r_ok, r_opt, b_add, b_sub, b_mul, b_div, b_mod, b_adds, c_lt, c_le, c_gt, c_ge, c_eq, c_ne, c_eqs, c_nes, c_ins, c_nis, v_b, t_b, l_s, l_l, l_t, i_s, i_l, i_t, m_t, m_r, dt_n, dt_c, datas_map, o_some, ob_some, w_rng, w_rng3, w_str, w_tup, w_lst, sl_s, sl_t, sl_l, n_b, n_i, tu_l, mn_i, k_s, k_i, k_b, k_t, decide_true, decide_false, Bool.not_true, Bool.not_false]
  · simp only [List.length_map, List.length_range, List.length_nil]
    have : LINE = 16777216 := rfl
    omega
theorem glo0 : pr.glo 0 = some (.tup [.int 1, .int 10, .int 100]) := nr rfl
/-- the rest behind the point -/
def tail (p : List Nat) (N d : Nat) : List Nat := if d = 0 then [] else p ++ padZ (nd (N % 10 ^ d)) d
theorem said_ok (k : Nat) {N d : Nat} {g p : List Nat} {u v : D} (M : Mem) (hN : N ≤ 10 ^ 12) (hd : d ≤ 2) (hg : g.length ≤ 1) (hp : p.length ≤ 1) :
    callN pr (k + 2) 1 [.d (.tup [.str g, .str p, u, v]), .d (.tup [.int (N : Nat), .int (d : Nat)])] M = .ok (.d (.str (hh g (nd (N / 10 ^ d)) ++ tail p N d))) M := by
  have l0 : (nd (N / 10 ^ d)).length ≤ 13 := nd_len _ 12 (Nat.lt_of_le_of_lt (Nat.le_trans (Nat.div_le_self _ _) hN) (by decide))
  have lh : (hh g (nd (N / 10 ^ d))).length ≤ 26 := Nat.le_trans (hh_len g _) (by
    have : (nd (N / 10 ^ d)).length * (g.length + 1) ≤ 13 * 2 := Nat.mul_le_mul l0 (by omega)
    omega)
  refine call_pure (fn := cOf c1) (ds := [.tup [.str g, .str p, u, v], .tup [.int (N : Nat), .int (d : Nat)]]) rfl rfl rfl (v := .d (.str (hh g (nd (N / 10 ^ d)) ++ tail p N d))) (m' := []) ?_ rfl
  show runB _ ⟨2, 5, true, b1⟩ _ _ = _
  rw [runB_eq rfl]
  have a0 : ∀ {a b c d : D}, atL [a, b, c, d] 0 = some a := rfl
  have a1 : ∀ {a b c d : D}, atL [a, b, c, d] 1 = some b := rfl
  have t0 : atL [D.int 1, .int 10, .int 100] ((0 : Nat) : Int) = some (.int 1) := rfl
  have t1 : atL [D.int 1, .int 10, .int 100] ((1 : Nat) : Int) = some (.int 10) := rfl
  have t2 : atL [D.int 1, .int 10, .int 100] ((2 : Nat) : Int) = some (.int 100) := rfl
  have sd : ∀ {r : Nat}, r ≤ N → ∀ (z : Bool) (M : Mem), biV z .str [.d (.int (r : Nat))] M = .ok (.d (.str (nd r))) M := fun h => str_nd (Nat.le_trans h hN)
  rcases (show d = 0 ∨ d = 1 ∨ d = 2 by omega) with rfl | rfl | rfl
  · have q0 : (N : Int) / 1 = ((N / 10 ^ 0 : Nat) : Int) := by simp
    have z0 : decide ((0 : Int) < ((0 : Nat) : Int)) = false := by decide
    simp (disch := omega) only [b1, xs_cons, xs_nil, nxt_nx, nxt_rt, nxt_bk, nxt_ct, x_asg, x_set, x_aug, au_i, au_s, x_ex, x_ret, x_iff, x_forr, x_whil, x_par, x_pass, x_brk, x_cnt, q_var, gv, q_con, q_glo, q_tup, q_lst, q_bin, neg_i, q_cmp, q_and, q_or, q_not, q_ite, q_idx, ik_r, ik_s, ik_l, ik_t, ik_ds, c_ind, q_dct, q_slc, pv_t, pv_f, q_rev, q_call, q_bi, q_mth, q_isi, q_cmpr, q_nil, q_cons, y_ex, y_rng, y_rng3, turn_nm, lturn_nm, lturn_tup, forL_wkL, fd_nil, fd_cons, fx_nx, fx_ct, fx_bk, fx_rt, as_nm, as_tup, as_tupl, as_nil, as_cons, wp_nil, wp_cons, pa_nil', pa_cons', List.map_cons, List.map_nil, List.replicate, List.cons_append, List.nil_append, Nat.reduceSub, Nat.reduceAdd, List.getElem?_cons_zero, List.getElem?_cons_succ, List.set_cons_zero, List.set_cons_succ, r_ok, r_opt, b_add, b_sub, b_mul, b_div, b_mod, b_adds, c_lt, c_le, c_gt, c_ge, c_eq, c_ne, c_eqs, c_nes, c_ins, c_nis, v_b, t_b, l_s, l_l, l_t, i_s, i_l, i_t, m_t, m_r, dt_n, dt_c, datas_map, o_some, ob_some, w_rng, w_rng3, w_str, w_tup, w_lst, sl_s, sl_t, sl_l, n_b, n_i, tu_l, mn_i, k_s, k_i, k_b, k_t, decide_true, decide_false, Bool.not_true, Bool.not_false, glo0, a0, a1, t0, q0, sd (Nat.div_le_self N (10 ^ 0)), grouped_ok, z0, tail, if_true, List.append_nil]
  · have q0 : (N : Int) / 10 = ((N / 10 ^ 1 : Nat) : Int) := by simp
    have q1 : (N : Int) % 10 = ((N % 10 ^ 1 : Nat) : Int) := by simp
    have z0 : decide ((0 : Int) < ((1 : Nat) : Int)) = true := by decide
    have hr : N % 10 ^ 1 < 10 := Nat.mod_lt _ (by decide)
    have zf : ∀ M, mtV .zfill (.d (.str (nd (N % 10 ^ 1)))) [.d (.int ((1 : Nat) : Int))] M = .ok (.d (.str [48 + N % 10 ^ 1])) M := fun M => by
      rw [z_f (by decide) (by decide) (by rw [nd_lt hr]; simp) (nd_dig _)]
      exact congrArg (fun x => R.ok (Val.d (.str x)) M) (pad1 hr)
    simp (disch := omega) only [b1, xs_cons, xs_nil, nxt_nx, nxt_rt, nxt_bk, nxt_ct, x_asg, x_set, x_aug, au_i, au_s, x_ex, x_ret, x_iff, x_forr, x_whil, x_par, x_pass, x_brk, x_cnt, q_var, gv, q_con, q_glo, q_tup, q_lst, q_bin, neg_i, q_cmp, q_and, q_or, q_not, q_ite, q_idx, ik_r, ik_s, ik_l, ik_t, ik_ds, c_ind, q_dct, q_slc, pv_t, pv_f, q_rev, q_call, q_bi, q_mth, q_isi, q_cmpr, q_nil, q_cons, y_ex, y_rng, y_rng3, turn_nm, lturn_nm, lturn_tup, forL_wkL, fd_nil, fd_cons, fx_nx, fx_ct, fx_bk, fx_rt, as_nm, as_tup, as_tupl, as_nil, as_cons, wp_nil, wp_cons, pa_nil', pa_cons', List.map_cons, List.map_nil, List.replicate, List.cons_append, List.nil_append, Nat.reduceSub, Nat.reduceAdd, List.getElem?_cons_zero, List.getElem?_cons_succ, List.set_cons_zero, List.set_cons_succ, r_ok, r_opt, b_add, b_sub, b_mul, b_div, b_mod, b_adds, c_lt, c_le, c_gt, c_ge, c_eq, c_ne, c_eqs, c_nes, c_ins, c_nis, v_b, t_b, l_s, l_l, l_t, i_s, i_l, i_t, m_t, m_r, dt_n, dt_c, datas_map, o_some, ob_some, w_rng, w_rng3, w_str, w_tup, w_lst, sl_s, sl_t, sl_l, n_b, n_i, tu_l, mn_i, k_s, k_i, k_b, k_t, decide_true, decide_false, Bool.not_true, Bool.not_false, glo0, a0, a1, t1, q0, q1, sd (Nat.div_le_self N (10 ^ 1)), sd (Nat.mod_le N (10 ^ 1)), grouped_ok, z0, zf, List.length_cons, List.length_nil, tail]
    rw [b_adds (by simp only [List.length_append, List.length_cons, List.length_nil]; omega)]
    simp only [xs_cons, xs_nil, nxt_nx, nxt_rt, nxt_bk, nxt_ct, x_asg, x_set, x_aug, au_i, au_s, x_ex, x_ret, x_iff, x_forr, x_whil, x_par, x_pass, x_brk, x_cnt, q_var, gv, q_con, q_glo, q_tup, q_lst, q_bin, neg_i, q_cmp, q_and, q_or, q_not, q_ite, q_idx, ik_r, ik_s, ik_l, ik_t, ik_ds, c_ind, q_dct, q_slc, pv_t, pv_f, q_rev, q_call, q_bi, q_mth, q_isi, q_cmpr, q_nil, q_cons, y_ex, y_rng, y_rng3, turn_nm, lturn_nm, lturn_tup, forL_wkL, fd_nil, fd_cons, fx_nx, fx_ct, fx_bk, fx_rt, as_nm, as_tup, as_tupl, as_nil, as_cons, wp_nil, wp_cons, pa_nil', pa_cons', List.map_cons, List.map_nil, List.replicate, List.cons_append, List.nil_append, Nat.reduceSub, Nat.reduceAdd, List.getElem?_cons_zero, List.getElem?_cons_succ, List.set_cons_zero, List.set_cons_succ, r_ok, r_opt, b_add, b_sub, b_mul, b_div, b_mod, b_adds, c_lt, c_le, c_gt, c_ge, c_eq, c_ne, c_eqs, c_nes, c_ins, c_nis, v_b, t_b, l_s, l_l, l_t, i_s, i_l, i_t, m_t, m_r, dt_n, dt_c, datas_map, o_some, ob_some, w_rng, w_rng3, w_str, w_tup, w_lst, sl_s, sl_t, sl_l, n_b, n_i, tu_l, mn_i, k_s, k_i, k_b, k_t, decide_true, decide_false, Bool.not_true, Bool.not_false]
    rw [b_adds (by simp only [List.length_append, List.length_cons, List.length_nil]; omega)]
    simp only [xs_cons, xs_nil, nxt_nx, nxt_rt, nxt_bk, nxt_ct, x_asg, x_set, x_aug, au_i, au_s, x_ex, x_ret, x_iff, x_forr, x_whil, x_par, x_pass, x_brk, x_cnt, q_var, gv, q_con, q_glo, q_tup, q_lst, q_bin, neg_i, q_cmp, q_and, q_or, q_not, q_ite, q_idx, ik_r, ik_s, ik_l, ik_t, ik_ds, c_ind, q_dct, q_slc, pv_t, pv_f, q_rev, q_call, q_bi, q_mth, q_isi, q_cmpr, q_nil, q_cons, y_ex, y_rng, y_rng3, turn_nm, lturn_nm, lturn_tup, forL_wkL, fd_nil, fd_cons, fx_nx, fx_ct, fx_bk, fx_rt, as_nm, as_tup, as_tupl, as_nil, as_cons, wp_nil, wp_cons, pa_nil', pa_cons', List.map_cons, List.map_nil, List.replicate, List.cons_append, List.nil_append, Nat.reduceSub, Nat.reduceAdd, List.getElem?_cons_zero, List.getElem?_cons_succ, List.set_cons_zero, List.set_cons_succ, r_ok, r_opt, b_add, b_sub, b_mul, b_div, b_mod, b_adds, c_lt, c_le, c_gt, c_ge, c_eq, c_ne, c_eqs, c_nes, c_ins, c_nis, v_b, t_b, l_s, l_l, l_t, i_s, i_l, i_t, m_t, m_r, dt_n, dt_c, datas_map, o_some, ob_some, w_rng, w_rng3, w_str, w_tup, w_lst, sl_s, sl_t, sl_l, n_b, n_i, tu_l, mn_i, k_s, k_i, k_b, k_t, decide_true, decide_false, Bool.not_true, Bool.not_false, if_neg (show ¬ (1 : Nat) = 0 by decide), pad1 hr]
  · have q0 : (N : Int) / 100 = ((N / 10 ^ 2 : Nat) : Int) := by simp
    have q1 : (N : Int) % 100 = ((N % 10 ^ 2 : Nat) : Int) := by simp
    have z0 : decide ((0 : Int) < ((2 : Nat) : Int)) = true := by decide
    have hr : N % 10 ^ 2 < 100 := Nat.mod_lt _ (by decide)
    have zf : ∀ M, mtV .zfill (.d (.str (nd (N % 10 ^ 2)))) [.d (.int ((2 : Nat) : Int))] M = .ok (.d (.str [48 + N % 10 ^ 2 / 10, 48 + N % 10 ^ 2 % 10])) M := fun M => by
      rw [z_f (by decide) (by decide) (Nat.le_trans (nd_len _ 1 hr) (by decide)) (nd_dig _)]
      exact congrArg (fun x => R.ok (Val.d (.str x)) M) (pad2 hr)
    simp (disch := omega) only [b1, xs_cons, xs_nil, nxt_nx, nxt_rt, nxt_bk, nxt_ct, x_asg, x_set, x_aug, au_i, au_s, x_ex, x_ret, x_iff, x_forr, x_whil, x_par, x_pass, x_brk, x_cnt, q_var, gv, q_con, q_glo, q_tup, q_lst, q_bin, neg_i, q_cmp, q_and, q_or, q_not, q_ite, q_idx, ik_r, ik_s, ik_l, ik_t, ik_ds, c_ind, q_dct, q_slc, pv_t, pv_f, q_rev, q_call, q_bi, q_mth, q_isi, q_cmpr, q_nil, q_cons, y_ex, y_rng, y_rng3, turn_nm, lturn_nm, lturn_tup, forL_wkL, fd_nil, fd_cons, fx_nx, fx_ct, fx_bk, fx_rt, as_nm, as_tup, as_tupl, as_nil, as_cons, wp_nil, wp_cons, pa_nil', pa_cons', List.map_cons, List.map_nil, List.replicate, List.cons_append, List.nil_append, Nat.reduceSub, Nat.reduceAdd, List.getElem?_cons_zero, List.getElem?_cons_succ, List.set_cons_zero, List.set_cons_succ, r_ok, r_opt, b_add, b_sub, b_mul, b_div, b_mod, b_adds, c_lt, c_le, c_gt, c_ge, c_eq, c_ne, c_eqs, c_nes, c_ins, c_nis, v_b, t_b, l_s, l_l, l_t, i_s, i_l, i_t, m_t, m_r, dt_n, dt_c, datas_map, o_some, ob_some, w_rng, w_rng3, w_str, w_tup, w_lst, sl_s, sl_t, sl_l, n_b, n_i, tu_l, mn_i, k_s, k_i, k_b, k_t, decide_true, decide_false, Bool.not_true, Bool.not_false, glo0, a0, a1, t2, q0, q1, sd (Nat.div_le_self N (10 ^ 2)), sd (Nat.mod_le N (10 ^ 2)), grouped_ok, z0, zf, List.length_cons, List.length_nil, tail]
    rw [b_adds (by simp only [List.length_append, List.length_cons, List.length_nil]; omega)]
    simp only [xs_cons, xs_nil, nxt_nx, nxt_rt, nxt_bk, nxt_ct, x_asg, x_set, x_aug, au_i, au_s, x_ex, x_ret, x_iff, x_forr, x_whil, x_par, x_pass, x_brk, x_cnt, q_var, gv, q_con, q_glo, q_tup, q_lst, q_bin, neg_i, q_cmp, q_and, q_or, q_not, q_ite, q_idx, ik_r, ik_s, ik_l, ik_t, ik_ds, c_ind, q_dct, q_slc, pv_t, pv_f, q_rev, q_call, q_bi, q_mth, q_isi, q_cmpr, q_nil, q_cons, y_ex, y_rng, y_rng3, turn_nm, lturn_nm, lturn_tup, forL_wkL, fd_nil, fd_cons, fx_nx, fx_ct, fx_bk, fx_rt, as_nm, as_tup, as_tupl, as_nil, as_cons, wp_nil, wp_cons, pa_nil', pa_cons', List.map_cons, List.map_nil, List.replicate, List.cons_append, List.nil_append, Nat.reduceSub, Nat.reduceAdd, List.getElem?_cons_zero, List.getElem?_cons_succ, List.set_cons_zero, List.set_cons_succ, r_ok, r_opt, b_add, b_sub, b_mul, b_div, b_mod, b_adds, c_lt, c_le, c_gt, c_ge, c_eq, c_ne, c_eqs, c_nes, c_ins, c_nis, v_b, t_b, l_s, l_l, l_t, i_s, i_l, i_t, m_t, m_r, dt_n, dt_c, datas_map, o_some, ob_some, w_rng, w_rng3, w_str, w_tup, w_lst, sl_s, sl_t, sl_l, n_b, n_i, tu_l, mn_i, k_s, k_i, k_b, k_t, decide_true, decide_false, Bool.not_true, Bool.not_false]
    rw [b_adds (by simp only [List.length_append, List.length_cons, List.length_nil]; omega)]
    simp only [xs_cons, xs_nil, nxt_nx, nxt_rt, nxt_bk, nxt_ct, x_asg, x_set, x_aug, au_i, au_s, x_ex, x_ret, x_iff, x_forr, x_whil, x_par, x_pass, x_brk, x_cnt, q_var, gv, q_con, q_glo, q_tup, q_lst, q_bin, neg_i, q_cmp, q_and, q_or, q_not, q_ite, q_idx, ik_r, ik_s, ik_l, ik_t, ik_ds, c_ind, q_dct, q_slc, pv_t, pv_f, q_rev, q_call, q_bi, q_mth, q_isi, q_cmpr, q_nil, q_cons, y_ex, y_rng, y_rng3, turn_nm, lturn_nm, lturn_tup, forL_wkL, fd_nil, fd_cons, fx_nx, fx_ct, fx_bk, fx_rt, as_nm, as_tup, as_tupl, as_nil, as_cons, wp_nil, wp_cons, pa_nil', pa_cons', List.map_cons, List.map_nil, List.replicate, List.cons_append, List.nil_append, Nat.reduceSub, Nat.reduceAdd, List.getElem?_cons_zero, List.getElem?_cons_succ, List.set_cons_zero, List.set_cons_succ, r_ok, r_opt, b_add, b_sub, b_mul, b_div, b_mod, b_adds, c_lt, c_le, c_gt, c_ge, c_eq, c_ne, c_eqs, c_nes, c_ins, c_nis, v_b, t_b, l_s, l_l, l_t, i_s, i_l, i_t, m_t, m_r, dt_n, dt_c, datas_map, o_some, ob_some, w_rng, w_rng3, w_str, w_tup, w_lst, sl_s, sl_t, sl_l, n_b, n_i, tu_l, mn_i, k_s, k_i, k_b, k_t, decide_true, decide_false, Bool.not_true, Bool.not_false, if_neg (show ¬ (2 : Nat) = 0 by decide), pad2 hr]
def tailD (N d : Nat) : List Nat := if d = 0 then [] else padZ (nd (N % 10 ^ d)) d
theorem tailD_ok {N d : Nat} (hd : d ≤ 2) : (tailD N d).length = d ∧ digV (tailD N d) = N % 10 ^ d ∧ ∀ c ∈ tailD N d, 48 ≤ c ∧ c ≤ 57 := by
  rcases (show d = 0 ∨ d = 1 ∨ d = 2 by omega) with rfl | rfl | rfl
  · refine ⟨rfl, ?_, fun c hc => by cases hc⟩
    rw [Nat.pow_zero, Nat.mod_one]
    rfl
  · have hr : N % 10 ^ 1 < 10 := Nat.mod_lt _ (by decide)
    unfold tailD
    rw [if_neg (by decide), pad1 hr]
    refine ⟨rfl, ?_, fun c hc => ?_⟩
    · show 0 * 10 + (48 + N % 10 ^ 1 - 48) = _
      omega
    · have : c = 48 + N % 10 ^ 1 := by simpa using hc
      omega
  · have hr : N % 10 ^ 2 < 100 := Nat.mod_lt _ (by decide)
    unfold tailD
    rw [if_neg (by decide), pad2 hr]
    refine ⟨rfl, ?_, fun c hc => ?_⟩
    · show (0 * 10 + (48 + N % 10 ^ 2 / 10 - 48)) * 10 + (48 + N % 10 ^ 2 % 10 - 48) = _
      omega
    · rcases List.mem_cons.mp hc with rfl | hc
      · omega
      · have : c = 48 + N % 10 ^ 2 % 10 := by simpa using hc
        omega
/-! ### draws -/
theorem draw_ex (r : Mem) (k : Nat) (c : List Int) {n m : Int} (h0 : 0 ≤ n) (h1 : n < 1000000) (m0 : 0 < m) (m1 : m < 4000000000000) : ∃ (v : Nat) (c' : List Int), callN pr (k + 1) 7 [.r 1, .d (.int m)] (dk r c n) = .ok (.d (.int (v : Nat))) (dk r c' (n + 1)) ∧ (v : Int) < m := by
  obtain ⟨b0, b1⟩ := drawV_lt c n m0
  refine ⟨(drawV c n m).toNat, drawC c n m, ?_, by omega⟩
  rw [call_imp (fn := cOf c7) rfl rfl]
  have e : (((drawV c n m).toNat : Nat) : Int) = drawV c n m := by omega
  rw [e]
  exact draw_okR _ r c (by omega) (by omega)
theorem deck_ex (k : Nat) (ns : List Int) : ∃ c, callN pr (k + 1) 6 [.d (.scr ns)] [] = .ok (.r 1) (dk [] c 0) := by
  rw [call_imp (fn := cOf c6) rfl rfl]
  exact deck_ok _ ns
def nodig (g : List Nat) : Prop := ∀ c ∈ g, ¬ (48 ≤ c ∧ c ≤ 57)
def marks : List Nat := [44, 46, 39, 95, 58, 59, 45, 124, 47, 43, 97, 126]
theorem marks_nd : nodig marks := by unfold nodig marks; decide
theorem manner_ok (r : Mem) (k : Nat) (c : List Int) {n : Int} (h0 : 0 ≤ n) (h1 : n < 1000) : ∃ g p u w c' n', callN pr (k + 2) 8 [.r 1] (dk r c n) = .ok (.d (.tup [.str g, .str p, .str u, w])) (dk r c' n') ∧ 0 ≤ n' ∧ n' ≤ n + 30 ∧ g.length ≤ 1 ∧ p.length ≤ 1 ∧ nodig g ∧ nodig p ∧ u.length ≤ 13 := by
  rw [call_imp (fn := cOf c8) rfl rfl]
  show ∃ g p u w c' n', runB _ ⟨1, 7, false, b8⟩ _ _ = _ ∧ _
  rw [runB_eq rfl]
  obtain ⟨v1, c1, e1, l1⟩ := draw_ex r k c (n := n) (m := 12) (by omega) (by omega) (by decide) (by decide)
  obtain ⟨v2, c2, e2, l2⟩ := draw_ex r k c1 (n := n + 1) (m := 11) (by omega) (by omega) (by decide) (by decide)
  obtain ⟨v3, c3', e3, l3⟩ := draw_ex r k c2 (n := n + 1 + 1) (m := 2) (by omega) (by omega) (by decide) (by decide)
  obtain ⟨q, hq, hqm⟩ : ∃ q : Int, atL [D.int 5, .int 12] ((v3 : Nat) : Int) = some (.int q) ∧ (q = 5 ∨ q = 12) := by
    rcases (show v3 = 0 ∨ v3 = 1 by omega) with rfl | rfl
    · exact ⟨5, rfl, .inl rfl⟩
    · exact ⟨12, rfl, .inr rfl⟩
  obtain ⟨v4, c4', e4, l4⟩ := draw_ex r k c3' (n := n + 1 + 1 + 1) (m := q) (by omega) (by omega) (by omega) (by omega)
  obtain ⟨pt, hp, hpm⟩ := at_nat (xs := marks) (v := (v1 + 1 + v2) % 12) (Nat.mod_lt _ (by decide))
  have hp' : atL [44, 46, 39, 95, 58, 59, 45, 124, 47, 43, 97, 126] ((((v1 : Nat) : Int) + 1 + ((v2 : Nat) : Int)) % 12) = some pt := hp
  obtain ⟨gt, hg, hgm⟩ := at_nat (xs := marks) (v := v1) (by show v1 < 12; omega)
  have hg' : atL [44, 46, 39, 95, 58, 59, 45, 124, 47, 43, 97, 126] ((v1 : Nat) : Int) = some gt := hg
  have n4 : n + 1 + 1 + 1 + 1 = n + 4 := by omega
  rw [n4] at e4
  -- the day
  obtain ⟨s5, m5, e5, x5, day, c5, hs5, hm5, hd5⟩ := forD_inv (f := fun v => lturn ⟨callN pr (k + 1), pr.glo, WF⟩ (.nm 5) (.cons (.asg (.nm 4) (.bin true .add (.var 4) (.idx (.con (.str [89, 121, 77, 109, 68, 100, 46, 47, 45, 84, 100, 109, 89])) (.call 7 (.cons (.var 0) (.cons (.con (.int 13)) .nil)))))) .nil) (.v v))
    (fun j s m => ∃ (x5 : Option Val) (day : List Nat) (c : List Int), s = [some (.r 1), some (.d (.str [44, 46, 39, 95, 58, 59, 45, 124, 47, 43, 97, 126])), some (.d (.int (v1 : Nat))), some (.d (.str [pt])), some (.d (.str day)), x5, none] ∧ m = dk r c (n + 4 + (j : Nat)) ∧ day.length ≤ j)
    ((List.range ((1 + ((v4 : Nat) : Int)) - 0).toNat).map fun (j : Nat) => .d (.int (0 + (j : Int)))) 0 [some (.r 1), some (.d (.str [44, 46, 39, 95, 58, 59, 45, 124, 47, 43, 97, 126])), some (.d (.int (v1 : Nat))), some (.d (.str [pt])), some (.d (.str [])), none, none] (dk r c4' (n + 4))
    (by
      rintro i v s m hv ⟨x5, day, c, rfl, rfl, hd⟩
      have hi : i < 12 := by
        have := (List.getElem?_eq_some_iff.mp hv).1
        simp only [List.length_map, List.length_range] at this
        omega
      obtain ⟨w, c', ew, lw⟩ := draw_ex r k c (n := n + 4 + ((0 + i : Nat) : Int)) (m := 13) (by omega) (by omega) (by decide) (by decide)
      obtain ⟨ch, hch, _⟩ := at_nat (xs := [89, 121, 77, 109, 68, 100, 46, 47, 45, 84, 100, 109, 89]) (v := w) (by show w < 13; omega)
      refine ⟨_, _, ?_, some v, day ++ [ch], c', rfl, rfl, by simp; omega⟩
      simp (disch := first | omega | (simp only [List.length_append, List.length_cons, List.length_nil]; omega)) only [xs_cons, xs_nil, nxt_nx, nxt_rt, nxt_bk, nxt_ct, x_asg, x_set, x_aug, au_i, au_s, x_ex, x_ret, x_iff, x_forr, x_whil, x_par, x_pass, x_brk, x_cnt, q_var, gv, q_con, q_glo, q_tup, q_lst, q_bin, neg_i, q_cmp, q_and, q_or, q_not, q_ite, q_idx, ik_r, ik_s, ik_l, ik_t, ik_ds, c_ind, q_dct, q_slc, pv_t, pv_f, q_rev, q_call, q_bi, q_mth, q_isi, q_cmpr, q_nil, q_cons, y_ex, y_rng, y_rng3, turn_nm, lturn_nm, lturn_tup, forL_wkL, fd_nil, fd_cons, fx_nx, fx_ct, fx_bk, fx_rt, as_nm, as_tup, as_tupl, as_nil, as_cons, wp_nil, wp_cons, pa_nil', pa_cons', List.map_cons, List.map_nil, List.replicate, List.cons_append, List.nil_append, Nat.reduceSub, Nat.reduceAdd, List.getElem?_cons_zero, List.getElem?_cons_succ, List.set_cons_zero, List.set_cons_succ, r_ok, r_opt, b_add, b_sub, b_mul, b_div, b_mod, b_adds, c_lt, c_le, c_gt, c_ge, c_eq, c_ne, c_eqs, c_nes, c_ins, c_nis, v_b, t_b, l_s, l_l, l_t, i_s, i_l, i_t, m_t, m_r, dt_n, dt_c, datas_map, o_some, ob_some, w_rng, w_rng3, w_str, w_tup, w_lst, sl_s, sl_t, sl_l, n_b, n_i, tu_l, mn_i, k_s, k_i, k_b, k_t, decide_true, decide_false, Bool.not_true, Bool.not_false, ew, hch]
      rw [show n + 4 + ((0 + i : Nat) : Int) + 1 = n + 4 + ((0 + i + 1 : Nat) : Int) by omega])
    ⟨none, [], c4', rfl, by simp, by simp⟩
  rw [List.length_map, List.length_range] at hm5 hd5
  subst hs5 hm5
  have nl : (1 + ((v4 : Nat) : Int) - 0).toNat ≤ 12 := by omega
  generalize hj : (1 + ((v4 : Nat) : Int) - 0).toNat = jj at e5 hd5 nl
  -- the quotes
  obtain ⟨acc, m6, e6, qs, c6, ha6, hm6⟩ := comp_inv (f := fun v => turn ⟨callN pr (k + 1), pr.glo, WF⟩ [5] (.nm 5) (.con (.bl true)) (.idx (.lst true (.cons (.con (.str [])) (.cons (.con (.str [39])) (.cons (.con (.str [60, 60])) (.cons (.con (.str [34])) (.cons (.con (.str [62, 62])) (.cons (.con (.str [97])) (.cons (.con (.str [45, 45])) .nil)))))))) (.call 7 (.cons (.var 0) (.cons (.con (.int 7)) .nil)))) [some (.r 1), some (.d (.str [44, 46, 39, 95, 58, 59, 45, 124, 47, 43, 97, 126])), some (.d (.int (v1 : Nat))), some (.d (.str [pt])), some (.d (.str day)), x5, none] (.v v))
    (fun j acc m => ∃ (qs : List D) (c : List Int), acc = qs.map .d ∧ m = dk r c (n + 4 + (0 + jj : Nat) + (j : Nat)) ∧ qs.length = j)
    [.d (.int 0), .d (.int 1)] 0 [] (dk r c5 (n + 4 + ((0 + jj : Nat) : Int)))
    (by
      rintro i v acc m hv ⟨qs, c, rfl, rfl, hq⟩
      have hi : i < 2 := (List.getElem?_eq_some_iff.mp hv).1
      obtain ⟨w, c', ew, lw⟩ := draw_ex r k c (n := n + 4 + ((0 + jj : Nat) : Int) + ((0 + i : Nat) : Int)) (m := 7) (by omega) (by omega) (by decide) (by decide)
      obtain ⟨ch, hch, _⟩ := at_nat (xs := [D.str [], .str [39], .str [60, 60], .str [34], .str [62, 62], .str [97], .str [45, 45]]) (v := w) (by show w < 7; omega)
      refine ⟨.d ch, _, ?_, ?_, qs ++ [ch], c', by simp, rfl, by simp; omega⟩
      · simp (disch := first | omega | (simp only [List.length_append, List.length_cons, List.length_nil]; omega)) only [xs_cons, xs_nil, nxt_nx, nxt_rt, nxt_bk, nxt_ct, x_asg, x_set, x_aug, au_i, au_s, x_ex, x_ret, x_iff, x_forr, x_whil, x_par, x_pass, x_brk, x_cnt, q_var, gv, q_con, q_glo, q_tup, q_lst, q_bin, neg_i, q_cmp, q_and, q_or, q_not, q_ite, q_idx, ik_r, ik_s, ik_l, ik_t, ik_ds, c_ind, q_dct, q_slc, pv_t, pv_f, q_rev, q_call, q_bi, q_mth, q_isi, q_cmpr, q_nil, q_cons, y_ex, y_rng, y_rng3, turn_nm, lturn_nm, lturn_tup, forL_wkL, fd_nil, fd_cons, fx_nx, fx_ct, fx_bk, fx_rt, as_nm, as_tup, as_tupl, as_nil, as_cons, wp_nil, wp_cons, pa_nil', pa_cons', List.map_cons, List.map_nil, List.replicate, List.cons_append, List.nil_append, Nat.reduceSub, Nat.reduceAdd, List.getElem?_cons_zero, List.getElem?_cons_succ, List.set_cons_zero, List.set_cons_succ, r_ok, r_opt, b_add, b_sub, b_mul, b_div, b_mod, b_adds, c_lt, c_le, c_gt, c_ge, c_eq, c_ne, c_eqs, c_nes, c_ins, c_nis, v_b, t_b, l_s, l_l, l_t, i_s, i_l, i_t, m_t, m_r, dt_n, dt_c, datas_map, o_some, ob_some, w_rng, w_rng3, w_str, w_tup, w_lst, sl_s, sl_t, sl_l, n_b, n_i, tu_l, mn_i, k_s, k_i, k_b, k_t, decide_true, decide_false, Bool.not_true, Bool.not_false, ew, hch]
        rw [show n + 4 + ((0 + jj : Nat) : Int) + ((0 + i : Nat) : Int) + 1 = n + 4 + ((0 + jj : Nat) : Int) + ((0 + i + 1 : Nat) : Int) by omega]
      · rw [List.length_map]
        have : LINE = 16777216 := rfl
        omega)
    ⟨[], c5, rfl, by simp, rfl⟩
  subst ha6
  obtain ⟨rfl, hq6⟩ := hm6
  obtain ⟨v7, c7, e7, l7⟩ := draw_ex r k c6 (n := n + 4 + ((0 + jj : Nat) : Int) + ((0 + [Val.d (.int 0), Val.d (.int 1)].length : Nat) : Int)) (m := 4) (by omega) (by simp only [List.length_cons, List.length_nil]; omega) (by decide) (by decide)
  have hz : ∃ g : List Nat, atL [D.str [gt], .str []] (if decide (((v7 : Nat) : Int) = 0) = true then 1 else 0) = some (.str g) ∧ g.length ≤ 1 ∧ nodig g := by
    by_cases h : v7 = 0
    · rw [if_pos (by rw [h]; decide)]
      exact ⟨[], rfl, by decide, fun _ h => by cases h⟩
    · rw [if_neg (by rw [decide_eq_true_eq]; omega)]
      refine ⟨[gt], rfl, by simp, fun x hx => ?_⟩
      have : x = gt := by simpa using hx
      rw [this]
      exact marks_nd gt hgm
  obtain ⟨g, hz, hgl, hgn⟩ := hz
  refine ⟨g, [pt], day, .tup qs, c7, n + 4 + ((0 + jj : Nat) : Int) + ((0 + [Val.d (.int 0), Val.d (.int 1)].length : Nat) : Int) + 1, ?_, ?_, ?_, hgl, by simp, hgn, fun x hx => ?_, by omega⟩
  · simp (disch := first | omega | (simp only [List.length_append, List.length_cons, List.length_nil]; omega)) only [b8, xs_cons, xs_nil, nxt_nx, nxt_rt, nxt_bk, nxt_ct, x_asg, x_set, x_aug, au_i, au_s, x_ex, x_ret, x_iff, x_forr, x_whil, x_par, x_pass, x_brk, x_cnt, q_var, gv, q_con, q_glo, q_tup, q_lst, q_bin, neg_i, q_cmp, q_and, q_or, q_not, q_ite, q_idx, ik_r, ik_s, ik_l, ik_t, ik_ds, c_ind, q_dct, q_slc, pv_t, pv_f, q_rev, q_call, q_bi, q_mth, q_isi, q_cmpr, q_nil, q_cons, y_ex, y_rng, y_rng3, turn_nm, lturn_nm, lturn_tup, forL_wkL, fd_nil, fd_cons, fx_nx, fx_ct, fx_bk, fx_rt, as_nm, as_tup, as_tupl, as_nil, as_cons, wp_nil, wp_cons, pa_nil', pa_cons', List.map_cons, List.map_nil, List.replicate, List.cons_append, List.nil_append, Nat.reduceSub, Nat.reduceAdd, List.getElem?_cons_zero, List.getElem?_cons_succ, List.set_cons_zero, List.set_cons_succ, r_ok, r_opt, b_add, b_sub, b_mul, b_div, b_mod, b_adds, c_lt, c_le, c_gt, c_ge, c_eq, c_ne, c_eqs, c_nes, c_ins, c_nis, v_b, t_b, l_s, l_l, l_t, i_s, i_l, i_t, m_t, m_r, dt_n, dt_c, datas_map, o_some, ob_some, w_rng, w_rng3, w_str, w_tup, w_lst, sl_s, sl_t, sl_l, n_b, n_i, tu_l, mn_i, k_s, k_i, k_b, k_t, decide_true, decide_false, Bool.not_true, Bool.not_false, e1, e2, e3, hq, e4, hp', n4, hj]
    rw [e5]
    simp (disch := first | omega | (simp only [List.length_append, List.length_cons, List.length_nil]; omega)) only [xs_cons, xs_nil, nxt_nx, nxt_rt, nxt_bk, nxt_ct, x_asg, x_set, x_aug, au_i, au_s, x_ex, x_ret, x_iff, x_forr, x_whil, x_par, x_pass, x_brk, x_cnt, q_var, gv, q_con, q_glo, q_tup, q_lst, q_bin, neg_i, q_cmp, q_and, q_or, q_not, q_ite, q_idx, ik_r, ik_s, ik_l, ik_t, ik_ds, c_ind, q_dct, q_slc, pv_t, pv_f, q_rev, q_call, q_bi, q_mth, q_isi, q_cmpr, q_nil, q_cons, y_ex, y_rng, y_rng3, turn_nm, lturn_nm, lturn_tup, forL_wkL, fd_nil, fd_cons, fx_nx, fx_ct, fx_bk, fx_rt, as_nm, as_tup, as_tupl, as_nil, as_cons, wp_nil, wp_cons, pa_nil', pa_cons', List.map_cons, List.map_nil, List.replicate, List.cons_append, List.nil_append, Nat.reduceSub, Nat.reduceAdd, List.getElem?_cons_zero, List.getElem?_cons_succ, List.set_cons_zero, List.set_cons_succ, r_ok, r_opt, b_add, b_sub, b_mul, b_div, b_mod, b_adds, c_lt, c_le, c_gt, c_ge, c_eq, c_ne, c_eqs, c_nes, c_ins, c_nis, v_b, t_b, l_s, l_l, l_t, i_s, i_l, i_t, m_t, m_r, dt_n, dt_c, datas_map, o_some, ob_some, w_rng, w_rng3, w_str, w_tup, w_lst, sl_s, sl_t, sl_l, n_b, n_i, tu_l, mn_i, k_s, k_i, k_b, k_t, decide_true, decide_false, Bool.not_true, Bool.not_false, compL_wkL]
    rw [e6]
    simp (disch := first | omega | (simp only [List.length_append, List.length_cons, List.length_nil]; omega)) only [xs_cons, xs_nil, nxt_nx, nxt_rt, nxt_bk, nxt_ct, x_asg, x_set, x_aug, au_i, au_s, x_ex, x_ret, x_iff, x_forr, x_whil, x_par, x_pass, x_brk, x_cnt, q_var, gv, q_con, q_glo, q_tup, q_lst, q_bin, neg_i, q_cmp, q_and, q_or, q_not, q_ite, q_idx, ik_r, ik_s, ik_l, ik_t, ik_ds, c_ind, q_dct, q_slc, pv_t, pv_f, q_rev, q_call, q_bi, q_mth, q_isi, q_cmpr, q_nil, q_cons, y_ex, y_rng, y_rng3, turn_nm, lturn_nm, lturn_tup, forL_wkL, fd_nil, fd_cons, fx_nx, fx_ct, fx_bk, fx_rt, as_nm, as_tup, as_tupl, as_nil, as_cons, wp_nil, wp_cons, pa_nil', pa_cons', List.map_cons, List.map_nil, List.replicate, List.cons_append, List.nil_append, Nat.reduceSub, Nat.reduceAdd, List.getElem?_cons_zero, List.getElem?_cons_succ, List.set_cons_zero, List.set_cons_succ, r_ok, r_opt, b_add, b_sub, b_mul, b_div, b_mod, b_adds, c_lt, c_le, c_gt, c_ge, c_eq, c_ne, c_eqs, c_nes, c_ins, c_nis, v_b, t_b, l_s, l_l, l_t, i_s, i_l, i_t, m_t, m_r, dt_n, dt_c, datas_map, o_some, ob_some, w_rng, w_rng3, w_str, w_tup, w_lst, sl_s, sl_t, sl_l, n_b, n_i, tu_l, mn_i, k_s, k_i, k_b, k_t, decide_true, decide_false, Bool.not_true, Bool.not_false, e7, hz, hg']
  · simp only [List.length_cons, List.length_nil]; omega
  · simp only [List.length_cons, List.length_nil]; omega
  · have : x = pt := by simpa using hx
    rw [this]
    exact marks_nd pt hpm

/-! ### what a sign of a day's manner stands for -/
def sgn (y m d c : Nat) : List Nat := if c = 89 then padZ (nd y) 4 else if c = 77 then padZ (nd m) 2 else if c = 68 then padZ (nd d) 2 else if c = 121 then nd y else if c = 109 then nd m else if c = 100 then nd d else [c]
theorem mi {s x : List Nat} {m : Mem} : mtV .index (.d (.str s)) [.d (.str x)] m = (R.opt (firstAt x s) m).bind fun n m => .ok (.d (.int (n : Nat))) m := nr rfl
theorem nd4 {y : Nat} (h : y ≤ 9999) : (nd y).length ≤ 4 := nd_len y 3 (by omega)
theorem sgn_len {y m d c : Nat} (hy : y ≤ 9999) (hm : m ≤ 9999) (hd : d ≤ 9999) : (sgn y m d c).length ≤ 8 := by
  have a := nd4 hy
  have b := nd4 hm
  have e := nd4 hd
  have pl : ∀ (l : List Nat) k, l.length ≤ 4 → k ≤ 4 → (padZ l k).length ≤ 8 := fun l k h1 h2 => by unfold padZ; rw [List.length_append, List.length_replicate]; omega
  unfold sgn
  split
  · exact pl _ _ a (by decide)
  split
  · exact pl _ _ b (by decide)
  split
  · exact pl _ _ e (by decide)
  split
  · omega
  split
  · omega
  split
  · omega
  · simp
theorem said_sign_ok (k : Nat) {y m d c : Nat} (M : Mem) (hy : y ≤ 9999) (hm : m ≤ 9999) (hd : d ≤ 9999) : callN pr (k + 1) 2 [.d (.str [c]), .d (.tup [.int (y : Nat), .int (m : Nat), .int (d : Nat)])] M = .ok (.d (.str (sgn y m d c))) M := by
  refine call_pure (fn := cOf c2) (ds := [.str [c], .tup [.int (y : Nat), .int (m : Nat), .int (d : Nat)]]) rfl rfl rfl (v := .d (.str (sgn y m d c))) (m' := []) ?_ rfl
  show runB _ ⟨2, 5, true, b2⟩ _ _ = _
  rw [runB_eq rfl]
  have sy : ∀ {r : Nat}, r ≤ 9999 → ∀ (z : Bool) (M : Mem), biV z .str [.d (.int (r : Nat))] M = .ok (.d (.str (nd r))) M := fun h => str_nd (by omega)
  have zf : ∀ {r k : Nat}, r ≤ 9999 → k ≤ 4 → ∀ M, mtV .zfill (.d (.str (nd r))) [.d (.int (k : Nat))] M = .ok (.d (.str (padZ (nd r) k))) M := fun {r k} h h2 M => by
    rw [z_f (by omega) (by omega) (Nat.le_trans (nd4 h) (by decide)) (nd_dig _)]
    rfl
  have zy := zf hy (show 4 ≤ 4 by decide)
  have zm := zf hm (show 2 ≤ 4 by decide)
  have zd := zf hd (show 2 ≤ 4 by decide)
  have f1 : (findSub [c] [77, 68]).isSome = decide (c = 77 ∨ c = 68) := by rw [find_one, Bool.eq_iff_iff]; simp
  have f2 : (findSub [c] [121, 109, 100]).isSome = decide (c = 121 ∨ c = 109 ∨ c = 100) := by rw [find_one, Bool.eq_iff_iff]; simp
  have e1 : (([c] : List Nat) == [89]) = decide (c = 89) := by rw [Bool.eq_iff_iff]; simp
  have e2 : (([c] : List Nat) == [77]) = decide (c = 77) := by rw [Bool.eq_iff_iff]; simp
  have i0 : firstAt [121] [121, 109, 100] = some 0 := by decide +kernel
  have i1 : firstAt [109] [121, 109, 100] = some 1 := by decide +kernel
  have i2 : firstAt [100] [121, 109, 100] = some 2 := by decide +kernel
  have t0 : ∀ {a b c : D}, atL [a, b, c] ((0 : Nat) : Int) = some a := rfl
  have t1 : ∀ {a b c : D}, atL [a, b, c] ((1 : Nat) : Int) = some b := rfl
  have t2 : ∀ {a b c : D}, atL [a, b, c] ((2 : Nat) : Int) = some c := rfl
  by_cases h89 : c = 89
  · subst h89
    have x1 : (([89] : List Nat) == [89]) = true := rfl
    simp (disch := first | omega | (simp only [List.length_append, List.length_cons, List.length_nil]; omega)) only [b2, xs_cons, xs_nil, nxt_nx, nxt_rt, nxt_bk, nxt_ct, x_asg, x_set, x_aug, au_i, au_s, x_ex, x_ret, x_iff, x_forr, x_whil, x_par, x_pass, x_brk, x_cnt, q_var, gv, q_con, q_glo, q_tup, q_lst, q_bin, neg_i, q_cmp, q_and, q_or, q_not, q_ite, q_idx, ik_r, ik_s, ik_l, ik_t, ik_ds, c_ind, q_dct, q_slc, pv_t, pv_f, q_rev, q_call, q_bi, q_mth, q_isi, q_cmpr, q_nil, q_cons, y_ex, y_rng, y_rng3, turn_nm, lturn_nm, lturn_tup, forL_wkL, fd_nil, fd_cons, fx_nx, fx_ct, fx_bk, fx_rt, as_nm, as_tup, as_tupl, as_nil, as_cons, wp_nil, wp_cons, pa_nil', pa_cons', List.map_cons, List.map_nil, List.replicate, List.cons_append, List.nil_append, Nat.reduceSub, Nat.reduceAdd, List.getElem?_cons_zero, List.getElem?_cons_succ, List.set_cons_zero, List.set_cons_succ, r_ok, r_opt, b_add, b_sub, b_mul, b_div, b_mod, b_adds, c_lt, c_le, c_gt, c_ge, c_eq, c_ne, c_eqs, c_nes, c_ins, c_nis, v_b, t_b, l_s, l_l, l_t, i_s, i_l, i_t, m_t, m_r, dt_n, dt_c, datas_map, o_some, ob_some, w_rng, w_rng3, w_str, w_tup, w_lst, sl_s, sl_t, sl_l, n_b, n_i, tu_l, mn_i, k_s, k_i, k_b, k_t, decide_true, decide_false, Bool.not_true, Bool.not_false, x1, sy hy, show (4 : Int) = ((4 : Nat) : Int) from rfl, zy, sgn, if_true]
  by_cases h77 : c = 77
  · subst h77
    have x1 : (([77] : List Nat) == [89]) = false := rfl
    have x2 : (findSub [77] [77, 68]).isSome = true := rfl
    have x4 : (([77] : List Nat) == [77]) = true := rfl
    simp (disch := first | omega | (simp only [List.length_append, List.length_cons, List.length_nil]; omega)) only [b2, xs_cons, xs_nil, nxt_nx, nxt_rt, nxt_bk, nxt_ct, x_asg, x_set, x_aug, au_i, au_s, x_ex, x_ret, x_iff, x_forr, x_whil, x_par, x_pass, x_brk, x_cnt, q_var, gv, q_con, q_glo, q_tup, q_lst, q_bin, neg_i, q_cmp, q_and, q_or, q_not, q_ite, q_idx, ik_r, ik_s, ik_l, ik_t, ik_ds, c_ind, q_dct, q_slc, pv_t, pv_f, q_rev, q_call, q_bi, q_mth, q_isi, q_cmpr, q_nil, q_cons, y_ex, y_rng, y_rng3, turn_nm, lturn_nm, lturn_tup, forL_wkL, fd_nil, fd_cons, fx_nx, fx_ct, fx_bk, fx_rt, as_nm, as_tup, as_tupl, as_nil, as_cons, wp_nil, wp_cons, pa_nil', pa_cons', List.map_cons, List.map_nil, List.replicate, List.cons_append, List.nil_append, Nat.reduceSub, Nat.reduceAdd, List.getElem?_cons_zero, List.getElem?_cons_succ, List.set_cons_zero, List.set_cons_succ, r_ok, r_opt, b_add, b_sub, b_mul, b_div, b_mod, b_adds, c_lt, c_le, c_gt, c_ge, c_eq, c_ne, c_eqs, c_nes, c_ins, c_nis, v_b, t_b, l_s, l_l, l_t, i_s, i_l, i_t, m_t, m_r, dt_n, dt_c, datas_map, o_some, ob_some, w_rng, w_rng3, w_str, w_tup, w_lst, sl_s, sl_t, sl_l, n_b, n_i, tu_l, mn_i, k_s, k_i, k_b, k_t, decide_true, decide_false, Bool.not_true, Bool.not_false, x1, x2, x4, sy hm, show (2 : Int) = ((2 : Nat) : Int) from rfl, zm, sgn, if_true, if_neg h89]
  by_cases h68 : c = 68
  · subst h68
    have x1 : (([68] : List Nat) == [89]) = false := rfl
    have x2 : (findSub [68] [77, 68]).isSome = true := rfl
    have x4 : (([68] : List Nat) == [77]) = false := rfl
    simp (disch := first | omega | (simp only [List.length_append, List.length_cons, List.length_nil]; omega)) only [b2, xs_cons, xs_nil, nxt_nx, nxt_rt, nxt_bk, nxt_ct, x_asg, x_set, x_aug, au_i, au_s, x_ex, x_ret, x_iff, x_forr, x_whil, x_par, x_pass, x_brk, x_cnt, q_var, gv, q_con, q_glo, q_tup, q_lst, q_bin, neg_i, q_cmp, q_and, q_or, q_not, q_ite, q_idx, ik_r, ik_s, ik_l, ik_t, ik_ds, c_ind, q_dct, q_slc, pv_t, pv_f, q_rev, q_call, q_bi, q_mth, q_isi, q_cmpr, q_nil, q_cons, y_ex, y_rng, y_rng3, turn_nm, lturn_nm, lturn_tup, forL_wkL, fd_nil, fd_cons, fx_nx, fx_ct, fx_bk, fx_rt, as_nm, as_tup, as_tupl, as_nil, as_cons, wp_nil, wp_cons, pa_nil', pa_cons', List.map_cons, List.map_nil, List.replicate, List.cons_append, List.nil_append, Nat.reduceSub, Nat.reduceAdd, List.getElem?_cons_zero, List.getElem?_cons_succ, List.set_cons_zero, List.set_cons_succ, r_ok, r_opt, b_add, b_sub, b_mul, b_div, b_mod, b_adds, c_lt, c_le, c_gt, c_ge, c_eq, c_ne, c_eqs, c_nes, c_ins, c_nis, v_b, t_b, l_s, l_l, l_t, i_s, i_l, i_t, m_t, m_r, dt_n, dt_c, datas_map, o_some, ob_some, w_rng, w_rng3, w_str, w_tup, w_lst, sl_s, sl_t, sl_l, n_b, n_i, tu_l, mn_i, k_s, k_i, k_b, k_t, decide_true, decide_false, Bool.not_true, Bool.not_false, x1, x2, x4, sy hd, show (2 : Int) = ((2 : Nat) : Int) from rfl, zd, sgn, if_true, if_neg h89, if_neg h77]
  by_cases h121 : c = 121
  · subst h121
    have x1 : (([121] : List Nat) == [89]) = false := rfl
    have x2 : (findSub [121] [77, 68]).isSome = false := rfl
    have x3 : (findSub [121] [121, 109, 100]).isSome = true := rfl
    simp (disch := first | omega | (simp only [List.length_append, List.length_cons, List.length_nil]; omega)) only [b2, xs_cons, xs_nil, nxt_nx, nxt_rt, nxt_bk, nxt_ct, x_asg, x_set, x_aug, au_i, au_s, x_ex, x_ret, x_iff, x_forr, x_whil, x_par, x_pass, x_brk, x_cnt, q_var, gv, q_con, q_glo, q_tup, q_lst, q_bin, neg_i, q_cmp, q_and, q_or, q_not, q_ite, q_idx, ik_r, ik_s, ik_l, ik_t, ik_ds, c_ind, q_dct, q_slc, pv_t, pv_f, q_rev, q_call, q_bi, q_mth, q_isi, q_cmpr, q_nil, q_cons, y_ex, y_rng, y_rng3, turn_nm, lturn_nm, lturn_tup, forL_wkL, fd_nil, fd_cons, fx_nx, fx_ct, fx_bk, fx_rt, as_nm, as_tup, as_tupl, as_nil, as_cons, wp_nil, wp_cons, pa_nil', pa_cons', List.map_cons, List.map_nil, List.replicate, List.cons_append, List.nil_append, Nat.reduceSub, Nat.reduceAdd, List.getElem?_cons_zero, List.getElem?_cons_succ, List.set_cons_zero, List.set_cons_succ, r_ok, r_opt, b_add, b_sub, b_mul, b_div, b_mod, b_adds, c_lt, c_le, c_gt, c_ge, c_eq, c_ne, c_eqs, c_nes, c_ins, c_nis, v_b, t_b, l_s, l_l, l_t, i_s, i_l, i_t, m_t, m_r, dt_n, dt_c, datas_map, o_some, ob_some, w_rng, w_rng3, w_str, w_tup, w_lst, sl_s, sl_t, sl_l, n_b, n_i, tu_l, mn_i, k_s, k_i, k_b, k_t, decide_true, decide_false, Bool.not_true, Bool.not_false, x1, x2, x3, mi, i0, t0, sy hy, sgn, if_true, if_neg h89, if_neg h77, if_neg h68]
  by_cases h109 : c = 109
  · subst h109
    have x1 : (([109] : List Nat) == [89]) = false := rfl
    have x2 : (findSub [109] [77, 68]).isSome = false := rfl
    have x3 : (findSub [109] [121, 109, 100]).isSome = true := rfl
    simp (disch := first | omega | (simp only [List.length_append, List.length_cons, List.length_nil]; omega)) only [b2, xs_cons, xs_nil, nxt_nx, nxt_rt, nxt_bk, nxt_ct, x_asg, x_set, x_aug, au_i, au_s, x_ex, x_ret, x_iff, x_forr, x_whil, x_par, x_pass, x_brk, x_cnt, q_var, gv, q_con, q_glo, q_tup, q_lst, q_bin, neg_i, q_cmp, q_and, q_or, q_not, q_ite, q_idx, ik_r, ik_s, ik_l, ik_t, ik_ds, c_ind, q_dct, q_slc, pv_t, pv_f, q_rev, q_call, q_bi, q_mth, q_isi, q_cmpr, q_nil, q_cons, y_ex, y_rng, y_rng3, turn_nm, lturn_nm, lturn_tup, forL_wkL, fd_nil, fd_cons, fx_nx, fx_ct, fx_bk, fx_rt, as_nm, as_tup, as_tupl, as_nil, as_cons, wp_nil, wp_cons, pa_nil', pa_cons', List.map_cons, List.map_nil, List.replicate, List.cons_append, List.nil_append, Nat.reduceSub, Nat.reduceAdd, List.getElem?_cons_zero, List.getElem?_cons_succ, List.set_cons_zero, List.set_cons_succ, r_ok, r_opt, b_add, b_sub, b_mul, b_div, b_mod, b_adds, c_lt, c_le, c_gt, c_ge, c_eq, c_ne, c_eqs, c_nes, c_ins, c_nis, v_b, t_b, l_s, l_l, l_t, i_s, i_l, i_t, m_t, m_r, dt_n, dt_c, datas_map, o_some, ob_some, w_rng, w_rng3, w_str, w_tup, w_lst, sl_s, sl_t, sl_l, n_b, n_i, tu_l, mn_i, k_s, k_i, k_b, k_t, decide_true, decide_false, Bool.not_true, Bool.not_false, x1, x2, x3, mi, i1, t1, sy hm, sgn, if_true, if_neg h89, if_neg h77, if_neg h68, if_neg h121]
  by_cases h100 : c = 100
  · subst h100
    have x1 : (([100] : List Nat) == [89]) = false := rfl
    have x2 : (findSub [100] [77, 68]).isSome = false := rfl
    have x3 : (findSub [100] [121, 109, 100]).isSome = true := rfl
    simp (disch := first | omega | (simp only [List.length_append, List.length_cons, List.length_nil]; omega)) only [b2, xs_cons, xs_nil, nxt_nx, nxt_rt, nxt_bk, nxt_ct, x_asg, x_set, x_aug, au_i, au_s, x_ex, x_ret, x_iff, x_forr, x_whil, x_par, x_pass, x_brk, x_cnt, q_var, gv, q_con, q_glo, q_tup, q_lst, q_bin, neg_i, q_cmp, q_and, q_or, q_not, q_ite, q_idx, ik_r, ik_s, ik_l, ik_t, ik_ds, c_ind, q_dct, q_slc, pv_t, pv_f, q_rev, q_call, q_bi, q_mth, q_isi, q_cmpr, q_nil, q_cons, y_ex, y_rng, y_rng3, turn_nm, lturn_nm, lturn_tup, forL_wkL, fd_nil, fd_cons, fx_nx, fx_ct, fx_bk, fx_rt, as_nm, as_tup, as_tupl, as_nil, as_cons, wp_nil, wp_cons, pa_nil', pa_cons', List.map_cons, List.map_nil, List.replicate, List.cons_append, List.nil_append, Nat.reduceSub, Nat.reduceAdd, List.getElem?_cons_zero, List.getElem?_cons_succ, List.set_cons_zero, List.set_cons_succ, r_ok, r_opt, b_add, b_sub, b_mul, b_div, b_mod, b_adds, c_lt, c_le, c_gt, c_ge, c_eq, c_ne, c_eqs, c_nes, c_ins, c_nis, v_b, t_b, l_s, l_l, l_t, i_s, i_l, i_t, m_t, m_r, dt_n, dt_c, datas_map, o_some, ob_some, w_rng, w_rng3, w_str, w_tup, w_lst, sl_s, sl_t, sl_l, n_b, n_i, tu_l, mn_i, k_s, k_i, k_b, k_t, decide_true, decide_false, Bool.not_true, Bool.not_false, x1, x2, x3, mi, i2, t2, sy hd, sgn, if_true, if_neg h89, if_neg h77, if_neg h68, if_neg h121, if_neg h109]
  have n1 : decide (c = 89) = false := decide_eq_false h89
  have n2 : decide (c = 77 ∨ c = 68) = false := decide_eq_false (by omega)
  have n3 : decide (c = 121 ∨ c = 109 ∨ c = 100) = false := decide_eq_false (by omega)
  simp (disch := first | omega | (simp only [List.length_append, List.length_cons, List.length_nil]; omega)) only [b2, xs_cons, xs_nil, nxt_nx, nxt_rt, nxt_bk, nxt_ct, x_asg, x_set, x_aug, au_i, au_s, x_ex, x_ret, x_iff, x_forr, x_whil, x_par, x_pass, x_brk, x_cnt, q_var, gv, q_con, q_glo, q_tup, q_lst, q_bin, neg_i, q_cmp, q_and, q_or, q_not, q_ite, q_idx, ik_r, ik_s, ik_l, ik_t, ik_ds, c_ind, q_dct, q_slc, pv_t, pv_f, q_rev, q_call, q_bi, q_mth, q_isi, q_cmpr, q_nil, q_cons, y_ex, y_rng, y_rng3, turn_nm, lturn_nm, lturn_tup, forL_wkL, fd_nil, fd_cons, fx_nx, fx_ct, fx_bk, fx_rt, as_nm, as_tup, as_tupl, as_nil, as_cons, wp_nil, wp_cons, pa_nil', pa_cons', List.map_cons, List.map_nil, List.replicate, List.cons_append, List.nil_append, Nat.reduceSub, Nat.reduceAdd, List.getElem?_cons_zero, List.getElem?_cons_succ, List.set_cons_zero, List.set_cons_succ, r_ok, r_opt, b_add, b_sub, b_mul, b_div, b_mod, b_adds, c_lt, c_le, c_gt, c_ge, c_eq, c_ne, c_eqs, c_nes, c_ins, c_nis, v_b, t_b, l_s, l_l, l_t, i_s, i_l, i_t, m_t, m_r, dt_n, dt_c, datas_map, o_some, ob_some, w_rng, w_rng3, w_str, w_tup, w_lst, sl_s, sl_t, sl_l, n_b, n_i, tu_l, mn_i, k_s, k_i, k_b, k_t, decide_true, decide_false, Bool.not_true, Bool.not_false, e1, f1, f2, n1, n2, n3, sgn, if_neg h89, if_neg h77, if_neg h68, if_neg h121, if_neg h109, if_neg h100]
theorem join_flat : ∀ l : List (List Nat), joinL [] l = l.flatten
  | [] => rfl
  | [x] => by simp [joinL]
  | x :: y :: r => by
    have ih := join_flat (y :: r)
    show x ++ [] ++ joinL [] (y :: r) = _
    rw [ih]
    simp
theorem sum_le {y m d : Nat} (hy : y ≤ 9999) (hm : m ≤ 9999) (hd : d ≤ 9999) (P : List Nat) : ((P.map (sgn y m d)).map List.length).sum ≤ 8 * P.length := by
  induction P with
  | nil => simp
  | cons c P ih =>
    have := sgn_len (c := c) hy hm hd
    simp only [List.map_cons, List.sum_cons, List.length_cons]
    omega
theorem said_day_ok (k : Nat) {y m d : Nat} {P : List Nat} {g p w : D} (M : Mem) (hy : y ≤ 9999) (hm : m ≤ 9999) (hd : d ≤ 9999) (hP : P.length ≤ 100) : callN pr (k + 2) 3 [.d (.tup [g, p, .str P, w]), .d (.tup [.int (y : Nat), .int (m : Nat), .int (d : Nat)])] M = .ok (.d (.str ((P.map (sgn y m d)).flatten))) M := by
  refine call_pure (fn := cOf c3) (ds := [.tup [g, p, .str P, w], .tup [.int (y : Nat), .int (m : Nat), .int (d : Nat)]]) rfl rfl rfl (v := .d (.str ((P.map (sgn y m d)).flatten))) (m' := []) ?_ rfl
  show runB _ ⟨2, 3, true, b3⟩ _ _ = _
  rw [runB_eq rfl]
  have a2 : ∀ {a b c d : D}, atL [a, b, c, d] 2 = some c := rfl
  simp (disch := first | omega | (simp only [List.length_append, List.length_cons, List.length_nil]; omega)) only [b3, xs_cons, xs_nil, nxt_nx, nxt_rt, nxt_bk, nxt_ct, x_asg, x_set, x_aug, au_i, au_s, x_ex, x_ret, x_iff, x_forr, x_whil, x_par, x_pass, x_brk, x_cnt, q_var, gv, q_con, q_glo, q_tup, q_lst, q_bin, neg_i, q_cmp, q_and, q_or, q_not, q_ite, q_idx, ik_r, ik_s, ik_l, ik_t, ik_ds, c_ind, q_dct, q_slc, pv_t, pv_f, q_rev, q_call, q_bi, q_mth, q_isi, q_cmpr, q_nil, q_cons, y_ex, y_rng, y_rng3, turn_nm, lturn_nm, lturn_tup, forL_wkL, fd_nil, fd_cons, fx_nx, fx_ct, fx_bk, fx_rt, as_nm, as_tup, as_tupl, as_nil, as_cons, wp_nil, wp_cons, pa_nil', pa_cons', List.map_cons, List.map_nil, List.replicate, List.cons_append, List.nil_append, Nat.reduceSub, Nat.reduceAdd, List.getElem?_cons_zero, List.getElem?_cons_succ, List.set_cons_zero, List.set_cons_succ, r_ok, r_opt, b_add, b_sub, b_mul, b_div, b_mod, b_adds, c_lt, c_le, c_gt, c_ge, c_eq, c_ne, c_eqs, c_nes, c_ins, c_nis, v_b, t_b, l_s, l_l, l_t, i_s, i_l, i_t, m_t, m_r, dt_n, dt_c, datas_map, o_some, ob_some, w_rng, w_rng3, w_str, w_tup, w_lst, sl_s, sl_t, sl_l, n_b, n_i, tu_l, mn_i, k_s, k_i, k_b, k_t, decide_true, decide_false, Bool.not_true, Bool.not_false, a2, compL_wkL]
  rw [comp_map (g := fun v => match v with
    | .d (.str [c]) => .d (.str (sgn y m d c))
    | v => v)]
  · have e : (P.map fun c => Val.d (.str [c])).map (fun v => match v with
      | .d (.str [c]) => Val.d (.str (sgn y m d c))
      | v => v) = ((P.map (sgn y m d)).map D.str).map .d := by
      rw [List.map_map, List.map_map, List.map_map]; rfl
    rw [e, List.nil_append]
    simp (disch := first | omega | (simp only [List.length_append, List.length_cons, List.length_nil]; omega)) only [xs_cons, xs_nil, nxt_nx, nxt_rt, nxt_bk, nxt_ct, x_asg, x_set, x_aug, au_i, au_s, x_ex, x_ret, x_iff, x_forr, x_whil, x_par, x_pass, x_brk, x_cnt, q_var, gv, q_con, q_glo, q_tup, q_lst, q_bin, neg_i, q_cmp, q_and, q_or, q_not, q_ite, q_idx, ik_r, ik_s, ik_l, ik_t, ik_ds, c_ind, q_dct, q_slc, pv_t, pv_f, q_rev, q_call, q_bi, q_mth, q_isi, q_cmpr, q_nil, q_cons, y_ex, y_rng, y_rng3, turn_nm, lturn_nm, lturn_tup, forL_wkL, fd_nil, fd_cons, fx_nx, fx_ct, fx_bk, fx_rt, as_nm, as_tup, as_tupl, as_nil, as_cons, wp_nil, wp_cons, pa_nil', pa_cons', List.map_cons, List.map_nil, List.replicate, List.cons_append, List.nil_append, Nat.reduceSub, Nat.reduceAdd, List.getElem?_cons_zero, List.getElem?_cons_succ, List.set_cons_zero, List.set_cons_succ, r_ok, r_opt, b_add, b_sub, b_mul, b_div, b_mod, b_adds, c_lt, c_le, c_gt, c_ge, c_eq, c_ne, c_eqs, c_nes, c_ins, c_nis, v_b, t_b, l_s, l_l, l_t, i_s, i_l, i_t, m_t, m_r, dt_n, dt_c, datas_map, o_some, ob_some, w_rng, w_rng3, w_str, w_tup, w_lst, sl_s, sl_t, sl_l, n_b, n_i, tu_l, mn_i, k_s, k_i, k_b, k_t, decide_true, decide_false, Bool.not_true, Bool.not_false]
    rw [j_l, join_flat]
    · rfl
    · have := sum_le hy hm hd P
      simp only [List.length_nil, Nat.mul_zero]
      omega
  · intro v hv
    obtain ⟨c, _, rfl⟩ := List.mem_map.mp hv
    simp (disch := first | omega | (simp only [List.length_append, List.length_cons, List.length_nil]; omega)) only [xs_cons, xs_nil, nxt_nx, nxt_rt, nxt_bk, nxt_ct, x_asg, x_set, x_aug, au_i, au_s, x_ex, x_ret, x_iff, x_forr, x_whil, x_par, x_pass, x_brk, x_cnt, q_var, gv, q_con, q_glo, q_tup, q_lst, q_bin, neg_i, q_cmp, q_and, q_or, q_not, q_ite, q_idx, ik_r, ik_s, ik_l, ik_t, ik_ds, c_ind, q_dct, q_slc, pv_t, pv_f, q_rev, q_call, q_bi, q_mth, q_isi, q_cmpr, q_nil, q_cons, y_ex, y_rng, y_rng3, turn_nm, lturn_nm, lturn_tup, forL_wkL, fd_nil, fd_cons, fx_nx, fx_ct, fx_bk, fx_rt, as_nm, as_tup, as_tupl, as_nil, as_cons, wp_nil, wp_cons, pa_nil', pa_cons', List.map_cons, List.map_nil, List.replicate, List.cons_append, List.nil_append, Nat.reduceSub, Nat.reduceAdd, List.getElem?_cons_zero, List.getElem?_cons_succ, List.set_cons_zero, List.set_cons_succ, r_ok, r_opt, b_add, b_sub, b_mul, b_div, b_mod, b_adds, c_lt, c_le, c_gt, c_ge, c_eq, c_ne, c_eqs, c_nes, c_ins, c_nis, v_b, t_b, l_s, l_l, l_t, i_s, i_l, i_t, m_t, m_r, dt_n, dt_c, datas_map, o_some, ob_some, w_rng, w_rng3, w_str, w_tup, w_lst, sl_s, sl_t, sl_l, n_b, n_i, tu_l, mn_i, k_s, k_i, k_b, k_t, decide_true, decide_false, Bool.not_true, Bool.not_false, said_sign_ok k _ hy hm hd]
  · rw [List.length_map, List.length_nil]
    have : LINE = 16777216 := rfl
    omega

/-! ### widths -/
def enc (Ms : List (List Nat × Nat)) : List D := Ms.map fun q => .tup [.str q.1, .int (q.2 : Nat)]
def sw : List (List Nat × Nat) → Nat → Nat
  | [], _ => 1
  | q :: r, c => if q.1.contains c then q.2 else sw r c
theorem sw_ok (k : Nat) (Ms : List (List Nat × Nat)) (c : Nat) (M : Mem) : callN pr (k + 1) 4 [.d (.tup (enc Ms)), .d (.str [c])] M = .ok (.d (.int (sw Ms c : Nat))) M := by
  refine call_pure (fn := cOf c4) (ds := [.tup (enc Ms), .str [c]]) rfl rfl rfl (v := .d (.int (sw Ms c : Nat))) (m' := []) ?_ rfl
  show runB _ ⟨2, 4, true, b4⟩ _ _ = _
  rw [runB_eq rfl]
  have loop : ∀ (Rs : List (List Nat × Nat)) (x2 x3 : Option Val), (∃ s, forD (fun v => lturn ⟨callN pr k, pr.glo, WF⟩ (.tup (.cons (.nm 2) (.cons (.nm 3) .nil))) (.cons (.iff (.cmp .isIn (.var 1) (.var 2)) (.cons (.ret (.var 3)) .nil) .nil) .nil) (.v v)) ((enc Rs).map .d) [some (.d (.tup (enc Ms))), some (.d (.str [c])), x2, x3] [] = .ok (.nx s) [] ∧ sw Rs c = 1) ∨
      forD (fun v => lturn ⟨callN pr k, pr.glo, WF⟩ (.tup (.cons (.nm 2) (.cons (.nm 3) .nil))) (.cons (.iff (.cmp .isIn (.var 1) (.var 2)) (.cons (.ret (.var 3)) .nil) .nil) .nil) (.v v)) ((enc Rs).map .d) [some (.d (.tup (enc Ms))), some (.d (.str [c])), x2, x3] [] = .ok (.rt (.d (.int (sw Rs c : Nat)))) [] := by
    intro Rs
    induction Rs with
    | nil => intro x2 x3; exact .inl ⟨_, rfl, rfl⟩
    | cons q Rs ih =>
      intro x2 x3
      have e : (enc (q :: Rs)).map Val.d = .d (.tup [.str q.1, .int (q.2 : Nat)]) :: (enc Rs).map .d := rfl
      rw [e]
      by_cases h : q.1.contains c = true
      · right
        have hs : sw (q :: Rs) c = q.2 := if_pos h
        rw [hs]
        simp (disch := first | omega | (simp only [List.length_append, List.length_cons, List.length_nil]; omega)) only [xs_cons, xs_nil, nxt_nx, nxt_rt, nxt_bk, nxt_ct, x_asg, x_set, x_aug, au_i, au_s, x_ex, x_ret, x_iff, x_forr, x_whil, x_par, x_pass, x_brk, x_cnt, q_var, gv, q_con, q_glo, q_tup, q_lst, q_bin, neg_i, q_cmp, q_and, q_or, q_not, q_ite, q_idx, ik_r, ik_s, ik_l, ik_t, ik_ds, c_ind, q_dct, q_slc, pv_t, pv_f, q_rev, q_call, q_bi, q_mth, q_isi, q_cmpr, q_nil, q_cons, y_ex, y_rng, y_rng3, turn_nm, lturn_nm, lturn_tup, forL_wkL, fd_nil, fd_cons, fx_nx, fx_ct, fx_bk, fx_rt, as_nm, as_tup, as_tupl, as_nil, as_cons, wp_nil, wp_cons, pa_nil', pa_cons', List.map_cons, List.map_nil, List.replicate, List.cons_append, List.nil_append, Nat.reduceSub, Nat.reduceAdd, List.getElem?_cons_zero, List.getElem?_cons_succ, List.set_cons_zero, List.set_cons_succ, r_ok, r_opt, b_add, b_sub, b_mul, b_div, b_mod, b_adds, c_lt, c_le, c_gt, c_ge, c_eq, c_ne, c_eqs, c_nes, c_ins, c_nis, v_b, t_b, l_s, l_l, l_t, i_s, i_l, i_t, m_t, m_r, dt_n, dt_c, datas_map, o_some, ob_some, w_rng, w_rng3, w_str, w_tup, w_lst, sl_s, sl_t, sl_l, n_b, n_i, tu_l, mn_i, k_s, k_i, k_b, k_t, decide_true, decide_false, Bool.not_true, Bool.not_false, find_one, h]
      · have hs : sw (q :: Rs) c = sw Rs c := if_neg h
        have h' : q.1.contains c = false := by simpa using h
        rw [hs]
        simp (disch := first | omega | (simp only [List.length_append, List.length_cons, List.length_nil]; omega)) only [xs_cons, xs_nil, nxt_nx, nxt_rt, nxt_bk, nxt_ct, x_asg, x_set, x_aug, au_i, au_s, x_ex, x_ret, x_iff, x_forr, x_whil, x_par, x_pass, x_brk, x_cnt, q_var, gv, q_con, q_glo, q_tup, q_lst, q_bin, neg_i, q_cmp, q_and, q_or, q_not, q_ite, q_idx, ik_r, ik_s, ik_l, ik_t, ik_ds, c_ind, q_dct, q_slc, pv_t, pv_f, q_rev, q_call, q_bi, q_mth, q_isi, q_cmpr, q_nil, q_cons, y_ex, y_rng, y_rng3, turn_nm, lturn_nm, lturn_tup, forL_wkL, fd_nil, fd_cons, fx_nx, fx_ct, fx_bk, fx_rt, as_nm, as_tup, as_tupl, as_nil, as_cons, wp_nil, wp_cons, pa_nil', pa_cons', List.map_cons, List.map_nil, List.replicate, List.cons_append, List.nil_append, Nat.reduceSub, Nat.reduceAdd, List.getElem?_cons_zero, List.getElem?_cons_succ, List.set_cons_zero, List.set_cons_succ, r_ok, r_opt, b_add, b_sub, b_mul, b_div, b_mod, b_adds, c_lt, c_le, c_gt, c_ge, c_eq, c_ne, c_eqs, c_nes, c_ins, c_nis, v_b, t_b, l_s, l_l, l_t, i_s, i_l, i_t, m_t, m_r, dt_n, dt_c, datas_map, o_some, ob_some, w_rng, w_rng3, w_str, w_tup, w_lst, sl_s, sl_t, sl_l, n_b, n_i, tu_l, mn_i, k_s, k_i, k_b, k_t, decide_true, decide_false, Bool.not_true, Bool.not_false, find_one, h']
        exact ih _ _
  simp (disch := first | omega | (simp only [List.length_append, List.length_cons, List.length_nil]; omega)) only [b4, xs_cons, xs_nil, nxt_nx, nxt_rt, nxt_bk, nxt_ct, x_asg, x_set, x_aug, au_i, au_s, x_ex, x_ret, x_iff, x_forr, x_whil, x_par, x_pass, x_brk, x_cnt, q_var, gv, q_con, q_glo, q_tup, q_lst, q_bin, neg_i, q_cmp, q_and, q_or, q_not, q_ite, q_idx, ik_r, ik_s, ik_l, ik_t, ik_ds, c_ind, q_dct, q_slc, pv_t, pv_f, q_rev, q_call, q_bi, q_mth, q_isi, q_cmpr, q_nil, q_cons, y_ex, y_rng, y_rng3, turn_nm, lturn_nm, lturn_tup, forL_wkL, fd_nil, fd_cons, fx_nx, fx_ct, fx_bk, fx_rt, as_nm, as_tup, as_tupl, as_nil, as_cons, wp_nil, wp_cons, pa_nil', pa_cons', List.map_cons, List.map_nil, List.replicate, List.cons_append, List.nil_append, Nat.reduceSub, Nat.reduceAdd, List.getElem?_cons_zero, List.getElem?_cons_succ, List.set_cons_zero, List.set_cons_succ, r_ok, r_opt, b_add, b_sub, b_mul, b_div, b_mod, b_adds, c_lt, c_le, c_gt, c_ge, c_eq, c_ne, c_eqs, c_nes, c_ins, c_nis, v_b, t_b, l_s, l_l, l_t, i_s, i_l, i_t, m_t, m_r, dt_n, dt_c, datas_map, o_some, ob_some, w_rng, w_rng3, w_str, w_tup, w_lst, sl_s, sl_t, sl_l, n_b, n_i, tu_l, mn_i, k_s, k_i, k_b, k_t, decide_true, decide_false, Bool.not_true, Bool.not_false]
  rcases loop Ms none none with ⟨s, e, h1⟩ | e
  · rw [e, h1]
    simp (disch := first | omega | (simp only [List.length_append, List.length_cons, List.length_nil]; omega)) only [xs_cons, xs_nil, nxt_nx, nxt_rt, nxt_bk, nxt_ct, x_asg, x_set, x_aug, au_i, au_s, x_ex, x_ret, x_iff, x_forr, x_whil, x_par, x_pass, x_brk, x_cnt, q_var, gv, q_con, q_glo, q_tup, q_lst, q_bin, neg_i, q_cmp, q_and, q_or, q_not, q_ite, q_idx, ik_r, ik_s, ik_l, ik_t, ik_ds, c_ind, q_dct, q_slc, pv_t, pv_f, q_rev, q_call, q_bi, q_mth, q_isi, q_cmpr, q_nil, q_cons, y_ex, y_rng, y_rng3, turn_nm, lturn_nm, lturn_tup, forL_wkL, fd_nil, fd_cons, fx_nx, fx_ct, fx_bk, fx_rt, as_nm, as_tup, as_tupl, as_nil, as_cons, wp_nil, wp_cons, pa_nil', pa_cons', List.map_cons, List.map_nil, List.replicate, List.cons_append, List.nil_append, Nat.reduceSub, Nat.reduceAdd, List.getElem?_cons_zero, List.getElem?_cons_succ, List.set_cons_zero, List.set_cons_succ, r_ok, r_opt, b_add, b_sub, b_mul, b_div, b_mod, b_adds, c_lt, c_le, c_gt, c_ge, c_eq, c_ne, c_eqs, c_nes, c_ins, c_nis, v_b, t_b, l_s, l_l, l_t, i_s, i_l, i_t, m_t, m_r, dt_n, dt_c, datas_map, o_some, ob_some, w_rng, w_rng3, w_str, w_tup, w_lst, sl_s, sl_t, sl_l, n_b, n_i, tu_l, mn_i, k_s, k_i, k_b, k_t, decide_true, decide_false, Bool.not_true, Bool.not_false]
    rfl
  · rw [e]
    simp (disch := first | omega | (simp only [List.length_append, List.length_cons, List.length_nil]; omega)) only [xs_cons, xs_nil, nxt_nx, nxt_rt, nxt_bk, nxt_ct, x_asg, x_set, x_aug, au_i, au_s, x_ex, x_ret, x_iff, x_forr, x_whil, x_par, x_pass, x_brk, x_cnt, q_var, gv, q_con, q_glo, q_tup, q_lst, q_bin, neg_i, q_cmp, q_and, q_or, q_not, q_ite, q_idx, ik_r, ik_s, ik_l, ik_t, ik_ds, c_ind, q_dct, q_slc, pv_t, pv_f, q_rev, q_call, q_bi, q_mth, q_isi, q_cmpr, q_nil, q_cons, y_ex, y_rng, y_rng3, turn_nm, lturn_nm, lturn_tup, forL_wkL, fd_nil, fd_cons, fx_nx, fx_ct, fx_bk, fx_rt, as_nm, as_tup, as_tupl, as_nil, as_cons, wp_nil, wp_cons, pa_nil', pa_cons', List.map_cons, List.map_nil, List.replicate, List.cons_append, List.nil_append, Nat.reduceSub, Nat.reduceAdd, List.getElem?_cons_zero, List.getElem?_cons_succ, List.set_cons_zero, List.set_cons_succ, r_ok, r_opt, b_add, b_sub, b_mul, b_div, b_mod, b_adds, c_lt, c_le, c_gt, c_ge, c_eq, c_ne, c_eqs, c_nes, c_ins, c_nis, v_b, t_b, l_s, l_l, l_t, i_s, i_l, i_t, m_t, m_r, dt_n, dt_c, datas_map, o_some, ob_some, w_rng, w_rng3, w_str, w_tup, w_lst, sl_s, sl_t, sl_l, n_b, n_i, tu_l, mn_i, k_s, k_i, k_b, k_t, decide_true, decide_false, Bool.not_true, Bool.not_false]
def wd (Ms : List (List Nat × Nat)) (T : List Nat) : Nat := (T.map (sw Ms)).sum
theorem wd_app (Ms : List (List Nat × Nat)) (x y : List Nat) : wd Ms (x ++ y) = wd Ms x + wd Ms y := by simp [wd]
theorem cast_sum (l : List Nat) : (l.map fun n => ((n : Nat) : Int)).sum = ((l.sum : Nat) : Int) := by
  induction l with
  | nil => rfl
  | cons a l ih => simp only [List.map_cons, List.sum_cons, ih]; omega
theorem width_ok (k : Nat) (Ms : List (List Nat × Nat)) (T : List Nat) (M : Mem) (hT : T.length ≤ 10000) : callN pr (k + 2) 5 [.d (.tup (enc Ms)), .d (.str T)] M = .ok (.d (.int (wd Ms T : Nat))) M := by
  refine call_pure (fn := cOf c5) (ds := [.tup (enc Ms), .str T]) rfl rfl rfl (v := .d (.int (wd Ms T : Nat))) (m' := []) ?_ rfl
  show runB _ ⟨2, 3, true, b5⟩ _ _ = _
  rw [runB_eq rfl]
  simp (disch := first | omega | (simp only [List.length_append, List.length_cons, List.length_nil]; omega)) only [b5, xs_cons, xs_nil, nxt_nx, nxt_rt, nxt_bk, nxt_ct, x_asg, x_set, x_aug, au_i, au_s, x_ex, x_ret, x_iff, x_forr, x_whil, x_par, x_pass, x_brk, x_cnt, q_var, gv, q_con, q_glo, q_tup, q_lst, q_bin, neg_i, q_cmp, q_and, q_or, q_not, q_ite, q_idx, ik_r, ik_s, ik_l, ik_t, ik_ds, c_ind, q_dct, q_slc, pv_t, pv_f, q_rev, q_call, q_bi, q_mth, q_isi, q_cmpr, q_nil, q_cons, y_ex, y_rng, y_rng3, turn_nm, lturn_nm, lturn_tup, forL_wkL, fd_nil, fd_cons, fx_nx, fx_ct, fx_bk, fx_rt, as_nm, as_tup, as_tupl, as_nil, as_cons, wp_nil, wp_cons, pa_nil', pa_cons', List.map_cons, List.map_nil, List.replicate, List.cons_append, List.nil_append, Nat.reduceSub, Nat.reduceAdd, List.getElem?_cons_zero, List.getElem?_cons_succ, List.set_cons_zero, List.set_cons_succ, r_ok, r_opt, b_add, b_sub, b_mul, b_div, b_mod, b_adds, c_lt, c_le, c_gt, c_ge, c_eq, c_ne, c_eqs, c_nes, c_ins, c_nis, v_b, t_b, l_s, l_l, l_t, i_s, i_l, i_t, m_t, m_r, dt_n, dt_c, datas_map, o_some, ob_some, w_rng, w_rng3, w_str, w_tup, w_lst, sl_s, sl_t, sl_l, n_b, n_i, tu_l, mn_i, k_s, k_i, k_b, k_t, decide_true, decide_false, Bool.not_true, Bool.not_false, compL_wkL]
  rw [comp_map (g := fun v => match v with
    | .d (.str [c]) => .d (.int (sw Ms c : Nat))
    | v => v)]
  · have e : (T.map fun c => Val.d (.str [c])).map (fun v => match v with
      | .d (.str [c]) => Val.d (.int (sw Ms c : Nat))
      | v => v) = ((T.map fun c => ((sw Ms c : Nat) : Int)).map D.int).map .d := by
      rw [List.map_map, List.map_map, List.map_map]; rfl
    rw [e, List.nil_append]
    simp (disch := first | omega | (simp only [List.length_append, List.length_cons, List.length_nil]; omega)) only [xs_cons, xs_nil, nxt_nx, nxt_rt, nxt_bk, nxt_ct, x_asg, x_set, x_aug, au_i, au_s, x_ex, x_ret, x_iff, x_forr, x_whil, x_par, x_pass, x_brk, x_cnt, q_var, gv, q_con, q_glo, q_tup, q_lst, q_bin, neg_i, q_cmp, q_and, q_or, q_not, q_ite, q_idx, ik_r, ik_s, ik_l, ik_t, ik_ds, c_ind, q_dct, q_slc, pv_t, pv_f, q_rev, q_call, q_bi, q_mth, q_isi, q_cmpr, q_nil, q_cons, y_ex, y_rng, y_rng3, turn_nm, lturn_nm, lturn_tup, forL_wkL, fd_nil, fd_cons, fx_nx, fx_ct, fx_bk, fx_rt, as_nm, as_tup, as_tupl, as_nil, as_cons, wp_nil, wp_cons, pa_nil', pa_cons', List.map_cons, List.map_nil, List.replicate, List.cons_append, List.nil_append, Nat.reduceSub, Nat.reduceAdd, List.getElem?_cons_zero, List.getElem?_cons_succ, List.set_cons_zero, List.set_cons_succ, r_ok, r_opt, b_add, b_sub, b_mul, b_div, b_mod, b_adds, c_lt, c_le, c_gt, c_ge, c_eq, c_ne, c_eqs, c_nes, c_ins, c_nis, v_b, t_b, l_s, l_l, l_t, i_s, i_l, i_t, m_t, m_r, dt_n, dt_c, datas_map, o_some, ob_some, w_rng, w_rng3, w_str, w_tup, w_lst, sl_s, sl_t, sl_l, n_b, n_i, tu_l, mn_i, k_s, k_i, k_b, k_t, decide_true, decide_false, Bool.not_true, Bool.not_false]
    rw [sm_l]
    have e2 : (T.map fun c => ((sw Ms c : Nat) : Int)).sum = ((wd Ms T : Nat) : Int) := by
      rw [show (T.map fun c => ((sw Ms c : Nat) : Int)) = (T.map (sw Ms)).map fun n => ((n : Nat) : Int) by rw [List.map_map]; rfl, cast_sum]
      rfl
    rw [e2]
    simp (disch := first | omega | (simp only [List.length_append, List.length_cons, List.length_nil]; omega)) only [xs_cons, xs_nil, nxt_nx, nxt_rt, nxt_bk, nxt_ct, x_asg, x_set, x_aug, au_i, au_s, x_ex, x_ret, x_iff, x_forr, x_whil, x_par, x_pass, x_brk, x_cnt, q_var, gv, q_con, q_glo, q_tup, q_lst, q_bin, neg_i, q_cmp, q_and, q_or, q_not, q_ite, q_idx, ik_r, ik_s, ik_l, ik_t, ik_ds, c_ind, q_dct, q_slc, pv_t, pv_f, q_rev, q_call, q_bi, q_mth, q_isi, q_cmpr, q_nil, q_cons, y_ex, y_rng, y_rng3, turn_nm, lturn_nm, lturn_tup, forL_wkL, fd_nil, fd_cons, fx_nx, fx_ct, fx_bk, fx_rt, as_nm, as_tup, as_tupl, as_nil, as_cons, wp_nil, wp_cons, pa_nil', pa_cons', List.map_cons, List.map_nil, List.replicate, List.cons_append, List.nil_append, Nat.reduceSub, Nat.reduceAdd, List.getElem?_cons_zero, List.getElem?_cons_succ, List.set_cons_zero, List.set_cons_succ, r_ok, r_opt, b_add, b_sub, b_mul, b_div, b_mod, b_adds, c_lt, c_le, c_gt, c_ge, c_eq, c_ne, c_eqs, c_nes, c_ins, c_nis, v_b, t_b, l_s, l_l, l_t, i_s, i_l, i_t, m_t, m_r, dt_n, dt_c, datas_map, o_some, ob_some, w_rng, w_rng3, w_str, w_tup, w_lst, sl_s, sl_t, sl_l, n_b, n_i, tu_l, mn_i, k_s, k_i, k_b, k_t, decide_true, decide_false, Bool.not_true, Bool.not_false]
  · intro v hv
    obtain ⟨c, _, rfl⟩ := List.mem_map.mp hv
    simp (disch := first | omega | (simp only [List.length_append, List.length_cons, List.length_nil]; omega)) only [xs_cons, xs_nil, nxt_nx, nxt_rt, nxt_bk, nxt_ct, x_asg, x_set, x_aug, au_i, au_s, x_ex, x_ret, x_iff, x_forr, x_whil, x_par, x_pass, x_brk, x_cnt, q_var, gv, q_con, q_glo, q_tup, q_lst, q_bin, neg_i, q_cmp, q_and, q_or, q_not, q_ite, q_idx, ik_r, ik_s, ik_l, ik_t, ik_ds, c_ind, q_dct, q_slc, pv_t, pv_f, q_rev, q_call, q_bi, q_mth, q_isi, q_cmpr, q_nil, q_cons, y_ex, y_rng, y_rng3, turn_nm, lturn_nm, lturn_tup, forL_wkL, fd_nil, fd_cons, fx_nx, fx_ct, fx_bk, fx_rt, as_nm, as_tup, as_tupl, as_nil, as_cons, wp_nil, wp_cons, pa_nil', pa_cons', List.map_cons, List.map_nil, List.replicate, List.cons_append, List.nil_append, Nat.reduceSub, Nat.reduceAdd, List.getElem?_cons_zero, List.getElem?_cons_succ, List.set_cons_zero, List.set_cons_succ, r_ok, r_opt, b_add, b_sub, b_mul, b_div, b_mod, b_adds, c_lt, c_le, c_gt, c_ge, c_eq, c_ne, c_eqs, c_nes, c_ins, c_nis, v_b, t_b, l_s, l_l, l_t, i_s, i_l, i_t, m_t, m_r, dt_n, dt_c, datas_map, o_some, ob_some, w_rng, w_rng3, w_str, w_tup, w_lst, sl_s, sl_t, sl_l, n_b, n_i, tu_l, mn_i, k_s, k_i, k_b, k_t, decide_true, decide_false, Bool.not_true, Bool.not_false, sw_ok]
  · rw [List.length_map, List.length_nil]
    have : LINE = 16777216 := rfl
    omega
/-! ### measures whose figures are all of one width -/
def uni (s : List Nat) : Prop := ∀ c d, 48 ≤ c → c ≤ 57 → 48 ≤ d → d ≤ 57 → s.contains c = s.contains d
def Uni (Ms : List (List Nat × Nat)) : Prop := ∀ q ∈ Ms, uni q.1
theorem uni_app {s t : List Nat} (h : uni s) (h2 : uni t) : uni (s ++ t) := fun c d a1 a2 a3 a4 => by
  have e1 := h c d a1 a2 a3 a4
  have e2 := h2 c d a1 a2 a3 a4
  have ca : ∀ (x y : List Nat) z, (x ++ y).contains z = (x.contains z || y.contains z) := fun x y z => by
    rw [Bool.eq_iff_iff]; simp
  rw [ca, ca, e1, e2]
theorem sw_uni {Ms : List (List Nat × Nat)} (h : Uni Ms) {c d : Nat} (a1 : 48 ≤ c) (a2 : c ≤ 57) (a3 : 48 ≤ d) (a4 : d ≤ 57) : sw Ms c = sw Ms d := by
  induction Ms with
  | nil => rfl
  | cons q r ih =>
    unfold sw
    rw [h q List.mem_cons_self c d a1 a2 a3 a4, ih fun x hx => h x (List.mem_cons_of_mem _ hx)]
theorem wd_dig {Ms : List (List Nat × Nat)} (h : Uni Ms) : ∀ T : List Nat, (∀ c ∈ T, 48 ≤ c ∧ c ≤ 57) → wd Ms T = T.length * sw Ms 48
  | [], _ => by simp [wd]
  | c :: T, hT => by
    have ih := wd_dig h T fun x hx => hT x (List.mem_cons_of_mem _ hx)
    have hc := hT c List.mem_cons_self
    show sw Ms c + wd Ms T = _
    rw [ih, sw_uni h hc.1 hc.2 (show 48 ≤ 48 by decide) (by decide), List.length_cons, Nat.succ_mul]
    omega
theorem wd_hh {Ms : List (List Nat × Nat)} (h : Uni Ms) (g : List Nat) : ∀ F : List Nat, (∀ c ∈ F, 48 ≤ c ∧ c ≤ 57) → wd Ms (hh g F) = F.length * sw Ms 48 + (F.length - 1) / 3 * wd Ms g
  | [], _ => by simp [hh, wd]
  | c :: F, hF => by
    have ih := wd_hh h g F fun x hx => hF x (List.mem_cons_of_mem _ hx)
    have hc := hF c List.mem_cons_self
    have e : wd Ms (hh g (c :: F)) = sw Ms c + (wd Ms (ins g F.length) + wd Ms (hh g F)) := by
      show wd Ms (c :: (ins g F.length ++ hh g F)) = _
      show sw Ms c + wd Ms (ins g F.length ++ hh g F) = _
      rw [wd_app]
    rw [e, ih, sw_uni h hc.1 hc.2 (show 48 ≤ 48 by decide) (by decide), List.length_cons, Nat.succ_mul]
    have i : wd Ms (ins g F.length) = (if F.length > 0 ∧ F.length % 3 = 0 then 1 else 0) * wd Ms g := by
      unfold ins
      split
      · simp
      · simp [wd]
    have d : (F.length + 1 - 1) / 3 = (F.length - 1) / 3 + (if F.length > 0 ∧ F.length % 3 = 0 then 1 else 0) := by
      split <;> omega
    rw [i, d, Nat.add_mul]
    omega
theorem nd_mono {a b : Nat} (h : a ≤ b) : (nd a).length ≤ (nd b).length := by
  induction b using Nat.strongRecOn generalizing a with
  | _ b ih =>
    by_cases h1 : a < 10
    · rw [nd_lt h1]
      have : 0 < (nd b).length := List.length_pos_iff.mpr (nd_ne b)
      simp; omega
    · rw [nd_ge h1, nd_ge (show ¬ b < 10 by omega), List.length_append, List.length_append]
      have := ih (b / 10) (by omega) (a := a / 10) (by omega)
      simp; omega
/-- what is said, its width by the count of figures -/
def saidT (g p : List Nat) (N d : Nat) : List Nat := hh g (nd (N / 10 ^ d)) ++ tail p N d
theorem wd_said {Ms : List (List Nat × Nat)} (h : Uni Ms) (g p : List Nat) {N d : Nat} (hd : d ≤ 2) : wd Ms (saidT g p N d) = (nd (N / 10 ^ d)).length * sw Ms 48 + ((nd (N / 10 ^ d)).length - 1) / 3 * wd Ms g + (if d = 0 then 0 else wd Ms p + d * sw Ms 48) := by
  obtain ⟨t1, _, t3⟩ := tailD_ok (N := N) hd
  unfold saidT
  rw [wd_app, wd_hh h g _ (nd_dig _)]
  congr 1
  unfold tail
  by_cases h0 : d = 0
  · rw [if_pos h0, if_pos h0]; rfl
  · rw [if_neg h0, if_neg h0, wd_app]
    have e : tailD N d = padZ (nd (N % 10 ^ d)) d := if_neg h0
    rw [← e, wd_dig h _ t3, t1]
theorem said_le {Ms : List (List Nat × Nat)} (h : Uni Ms) (g p : List Nat) {N R d : Nat} (hd : d ≤ 2) (hNR : N ≤ R) : wd Ms (saidT g p N d) ≤ wd Ms (saidT g p R d) := by
  rw [wd_said h g p hd, wd_said h g p hd]
  have l := nd_mono (Nat.div_le_div_right (c := 10 ^ d) hNR)
  have a := Nat.mul_le_mul_right (sw Ms 48) l
  have b := Nat.mul_le_mul_right (wd Ms g) (show ((nd (N / 10 ^ d)).length - 1) / 3 ≤ ((nd (R / 10 ^ d)).length - 1) / 3 by omega)
  omega
theorem said_same {Ms : List (List Nat × Nat)} (h : Uni Ms) (g p : List Nat) {N R d : Nat} (hd : d ≤ 2) (e : (nd (N / 10 ^ d)).length = (nd (R / 10 ^ d)).length) : wd Ms (saidT g p N d) = wd Ms (saidT g p R d) := by
  rw [wd_said h g p hd, wd_said h g p hd, e]
theorem saidT_len {g p : List Nat} {N d : Nat} (hN : N ≤ 10 ^ 12) (hd : d ≤ 2) (hg : g.length ≤ 1) (hp : p.length ≤ 1) : (saidT g p N d).length ≤ 100 := by
  unfold saidT
  rw [List.length_append]
  have l0 : (nd (N / 10 ^ d)).length ≤ 13 := nd_len _ 12 (Nat.lt_of_le_of_lt (Nat.le_trans (Nat.div_le_self _ _) hN) (by decide))
  have h1 := hh_len g (nd (N / 10 ^ d))
  have h2 : (nd (N / 10 ^ d)).length * (g.length + 1) ≤ 13 * 2 := Nat.mul_le_mul l0 (by omega)
  obtain ⟨t1, _, _⟩ := tailD_ok (N := N) hd
  have h3 : (tail p N d).length ≤ p.length + (tailD N d).length := by
    unfold tail tailD
    split
    · simp
    · rw [List.length_append]; exact Nat.le_refl _
  omega
theorem pad_dig {n k : Nat} : ∀ c ∈ padZ (nd n) k, 48 ≤ c ∧ c ≤ 57 := by
  intro c hc
  unfold padZ at hc
  rcases List.mem_append.mp hc with hc | hc
  · have := (List.mem_replicate.mp hc).2
    omega
  · exact nd_dig n c hc
theorem pad_len {n k : Nat} (h : (nd n).length ≤ k) : (padZ (nd n) k).length = k := by
  unfold padZ
  rw [List.length_append, List.length_replicate]
  omega
theorem sgn_le {Ms : List (List Nat × Nat)} (h : Uni Ms) {y m d c : Nat} (hy : y ≤ 9999) (hm : m ≤ 12) (hd : d ≤ 31) : wd Ms (sgn y m d c) ≤ wd Ms (sgn 9999 12 31 c) := by
  have ly : (nd y).length ≤ 4 := nd4 hy
  have lm : (nd m).length ≤ 2 := nd_len m 1 (by omega)
  have ld : (nd d).length ≤ 2 := nd_len d 1 (by omega)
  have ey : (nd 9999).length = 4 := by
    rw [nd_ge (by decide), nd_ge (by decide), nd_ge (by decide), nd_lt (by decide)]; rfl
  have em : (nd 12).length = 2 := by rw [nd_ge (by decide), nd_lt (by decide)]; rfl
  have ed : (nd 31).length = 2 := by rw [nd_ge (by decide), nd_lt (by decide)]; rfl
  unfold sgn
  split
  · rw [wd_dig h _ pad_dig, wd_dig h _ pad_dig, pad_len ly, pad_len (by omega)]; exact Nat.le_refl _
  split
  · rw [wd_dig h _ pad_dig, wd_dig h _ pad_dig, pad_len lm, pad_len (by omega)]; exact Nat.le_refl _
  split
  · rw [wd_dig h _ pad_dig, wd_dig h _ pad_dig, pad_len ld, pad_len (by omega)]; exact Nat.le_refl _
  split
  · rw [wd_dig h _ (nd_dig _), wd_dig h _ (nd_dig _)]; exact Nat.mul_le_mul_right _ (by omega)
  split
  · rw [wd_dig h _ (nd_dig _), wd_dig h _ (nd_dig _)]; exact Nat.mul_le_mul_right _ (by omega)
  split
  · rw [wd_dig h _ (nd_dig _), wd_dig h _ (nd_dig _)]; exact Nat.mul_le_mul_right _ (by omega)
  · exact Nat.le_refl _
theorem day_le {Ms : List (List Nat × Nat)} (h : Uni Ms) {y m d : Nat} (hy : y ≤ 9999) (hm : m ≤ 12) (hd : d ≤ 31) : ∀ P : List Nat, wd Ms ((P.map (sgn y m d)).flatten) ≤ wd Ms ((P.map (sgn 9999 12 31)).flatten)
  | [] => Nat.le_refl _
  | c :: P => by
    have ih := day_le h hy hm hd P
    have := sgn_le h (c := c) hy hm hd
    simp only [List.map_cons, List.flatten_cons, wd_app]
    omega
/-! ### measures drawn -/
abbrev mB : Sts := (.cons (.iff (.cmp .gt (.bi true .len (.cons (.var 2) .nil)) (.con (.int 1))) (.cons (.asg (.nm 4) (.mth .popAt (.var 2) (.cons (.call 7 (.cons (.var 0) (.cons (.bi true .len (.cons (.var 2) .nil)) .nil))) .nil))) (.cons (.iff (.cmp .eq (.call 7 (.cons (.var 0) (.cons (.con (.int 3)) .nil))) (.con (.int 0))) (.cons (.asg (.nm 4) (.bin true .add (.var 4) (.mth .popAt (.var 2) (.cons (.call 7 (.cons (.var 0) (.cons (.bi true .len (.cons (.var 2) .nil)) .nil))) .nil)))) .nil) .nil) (.cons (.ex (.mth .append (.var 1) (.cons (.tup (.cons (.var 4) (.cons (.call 7 (.cons (.var 0) (.cons (.con (.int 5)) .nil))) .nil))) .nil))) .nil))) .nil) .nil)
/-- the memory with the two lists -/
def rest (Fs : List (List Nat × Nat)) (Ls : List (List Nat)) : Mem := [.lst ((enc Fs).map .d), .lst (Ls.map fun s => .d (.str s))]
theorem rs2 {Fs Ls c n} : (dk (rest Fs Ls) c n)[2]? = some (.lst ((enc Fs).map .d)) := rfl
theorem rs3 {Fs Ls c n} : (dk (rest Fs Ls) c n)[3]? = some (.lst (Ls.map fun s => .d (.str s))) := rfl
theorem rs3s {Fs Ls c n} {q : Nat} : (dk (rest Fs Ls) c n).set 3 (.lst ((Ls.map fun s => Val.d (.str s)).eraseIdx q)) = dk (rest Fs (Ls.eraseIdx q)) c n := by
  have e : (Ls.map fun s => Val.d (.str s)).eraseIdx q = (Ls.eraseIdx q).map fun s => Val.d (.str s) := by
    rw [List.eraseIdx_eq_take_drop_succ, List.eraseIdx_eq_take_drop_succ, List.map_append, List.map_take, List.map_drop]
  rw [e]
  rfl
theorem rs2s {Fs Ls c n} {s : List Nat} {w : Nat} : (dk (rest Fs Ls) c n).set 2 (.lst ((enc Fs).map Val.d ++ [.d (.tup [.str s, .int (w : Nat)])])) = dk (rest (Fs ++ [(s, w)]) Ls) c n := by
  have e : (enc Fs).map Val.d ++ [.d (.tup [.str s, .int (w : Nat)])] = (enc (Fs ++ [(s, w)])).map Val.d := by
    unfold enc
    simp
  rw [e]
  rfl
def UniL (Ls : List (List Nat)) : Prop := ∀ s ∈ Ls, uni s ∧ s.length ≤ 100
theorem measure_turn (k : Nat) {x3 x4 : Option Val} {Fs : List (List Nat × Nat)} {Ls : List (List Nat)} (c : List Int) {n : Int} (h0 : 0 ≤ n) (h1 : n < 1000) (hF : Uni Fs) (hL : UniL Ls) (hl : Ls.length ≤ 100) (hf : Fs.length ≤ 100) :
    ∃ x4' Fs' Ls' c' n', exSs ⟨callN pr (k + 1), pr.glo, WF⟩ mB [some (.r 1), some (.r 2), some (.r 3), x3, x4] (dk (rest Fs Ls) c n) = .ok (.nx [some (.r 1), some (.r 2), some (.r 3), x3, x4']) (dk (rest Fs' Ls') c' n') ∧ 0 ≤ n' ∧ n' ≤ n + 4 ∧ Uni Fs' ∧ UniL Ls' ∧ Ls'.length ≤ 100 ∧ Fs'.length ≤ Fs.length + 1 := by
  by_cases hz : 1 < Ls.length
  · have z1 : decide ((1 : Int) < ((Ls.length : Nat) : Int)) = true := decide_eq_true (by omega)
    obtain ⟨a, c1, e1, l1⟩ := draw_ex (rest Fs Ls) k c (n := n) (m := ((Ls.length : Nat) : Int)) h0 (by omega) (by omega) (by omega)
    obtain ⟨s, hs⟩ : ∃ s, Ls[a]? = some s := ⟨_, List.getElem?_eq_getElem (by omega)⟩
    have hs' : (Ls.map fun s => Val.d (.str s))[a]? = some (.d (.str s)) := by rw [List.getElem?_map, hs]; rfl
    have hsu := hL s (List.mem_of_getElem? hs)
    have p1 : ∀ {c n}, mtV .popAt (.r 3) [.d (.int (a : Nat))] (dk (rest Fs Ls) c n) = .ok (.d (.str s)) (dk (rest Fs (Ls.eraseIdx a)) c n) := fun {c n} => by
      rw [pp_r rs3 hs' (by rw [List.length_map]; omega), rs3s]
    have hle : (Ls.eraseIdx a).length = Ls.length - 1 := List.length_eraseIdx_of_lt (by omega)
    have hLe : UniL (Ls.eraseIdx a) := fun x hx => hL x (List.mem_of_mem_eraseIdx hx)
    obtain ⟨b, c2, e2, l2⟩ := draw_ex (rest Fs (Ls.eraseIdx a)) k c1 (n := n + 1) (m := 3) (by omega) (by omega) (by decide) (by decide)
    by_cases hb : b = 0
    · subst hb
      have z2 : decide (((0 : Nat) : Int) = 0) = true := by decide
      obtain ⟨a2, c3, e3, l3⟩ := draw_ex (rest Fs (Ls.eraseIdx a)) k c2 (n := n + 1 + 1) (m := (((Ls.eraseIdx a).length : Nat) : Int)) (by omega) (by omega) (by omega) (by omega)
      obtain ⟨s2, hs2⟩ : ∃ s, (Ls.eraseIdx a)[a2]? = some s := ⟨_, List.getElem?_eq_getElem (by omega)⟩
      have hs2' : ((Ls.eraseIdx a).map fun s => Val.d (.str s))[a2]? = some (.d (.str s2)) := by rw [List.getElem?_map, hs2]; rfl
      have hsu2 := hLe s2 (List.mem_of_getElem? hs2)
      have p2 : ∀ {c n}, mtV .popAt (.r 3) [.d (.int (a2 : Nat))] (dk (rest Fs (Ls.eraseIdx a)) c n) = .ok (.d (.str s2)) (dk (rest Fs ((Ls.eraseIdx a).eraseIdx a2)) c n) := fun {c n} => by
        rw [pp_r rs3 hs2' (by rw [List.length_map]; omega), rs3s]
      have hle2 : ((Ls.eraseIdx a).eraseIdx a2).length ≤ Ls.length := by rw [List.length_eraseIdx_of_lt (by omega)]; omega
      obtain ⟨w, c4, e4, l4⟩ := draw_ex (rest Fs ((Ls.eraseIdx a).eraseIdx a2)) k c3 (n := n + 1 + 1 + 1) (m := 5) (by omega) (by omega) (by decide) (by decide)
      have ap : ∀ {c n}, mtV .append (.r 2) [.d (.tup [.str (s ++ s2), .int (w : Nat)])] (dk (rest Fs ((Ls.eraseIdx a).eraseIdx a2)) c n) = .ok (.d .non) (dk (rest (Fs ++ [(s ++ s2, w)]) ((Ls.eraseIdx a).eraseIdx a2)) c n) := fun {c n} => by
        rw [ap_r rs2 (by unfold enc; rw [List.length_map, List.length_map]; omega), rs2s]
      refine ⟨some (.d (.str (s ++ s2))), Fs ++ [(s ++ s2, w)], (Ls.eraseIdx a).eraseIdx a2, c4, n + 1 + 1 + 1 + 1, ?_, by omega, by omega, fun q hq => ?_, fun x hx => hLe x (List.mem_of_mem_eraseIdx hx), by omega, by simp⟩
      · simp (disch := first | omega | (simp only [List.length_append, List.length_cons, List.length_nil]; omega)) only [mB, xs_cons, xs_nil, nxt_nx, nxt_rt, nxt_bk, nxt_ct, x_asg, x_set, x_aug, au_i, au_s, x_ex, x_ret, x_iff, x_forr, x_whil, x_par, x_pass, x_brk, x_cnt, q_var, gv, q_con, q_glo, q_tup, q_lst, q_bin, neg_i, q_cmp, q_and, q_or, q_not, q_ite, q_idx, ik_r, ik_s, ik_l, ik_t, ik_ds, c_ind, q_dct, q_slc, pv_t, pv_f, q_rev, q_call, q_bi, q_mth, q_isi, q_cmpr, q_nil, q_cons, y_ex, y_rng, y_rng3, turn_nm, lturn_nm, lturn_tup, forL_wkL, fd_nil, fd_cons, fx_nx, fx_ct, fx_bk, fx_rt, as_nm, as_tup, as_tupl, as_nil, as_cons, wp_nil, wp_cons, pa_nil', pa_cons', List.map_cons, List.map_nil, List.replicate, List.cons_append, List.nil_append, Nat.reduceSub, Nat.reduceAdd, List.getElem?_cons_zero, List.getElem?_cons_succ, List.set_cons_zero, List.set_cons_succ, r_ok, r_opt, b_add, b_sub, b_mul, b_div, b_mod, b_adds, c_lt, c_le, c_gt, c_ge, c_eq, c_ne, c_eqs, c_nes, c_ins, c_nis, v_b, t_b, l_s, l_l, l_t, i_s, i_l, i_t, m_t, m_r, dt_n, dt_c, datas_map, o_some, ob_some, w_rng, w_rng3, w_str, w_tup, w_lst, sl_s, sl_t, sl_l, n_b, n_i, tu_l, mn_i, k_s, k_i, k_b, k_t, decide_true, decide_false, Bool.not_true, Bool.not_false, l_r rs3, List.length_map, z1, e1, p1, e2, z2, e3, p2, e4, ap]
      · rcases List.mem_append.mp hq with hq | hq
        · exact hF q hq
        · have : q = (s ++ s2, w) := by simpa using hq
          rw [this]
          exact uni_app hsu.1 hsu2.1
    · have z2 : decide (((b : Nat) : Int) = 0) = false := decide_eq_false (by omega)
      obtain ⟨w, c4, e4, l4⟩ := draw_ex (rest Fs (Ls.eraseIdx a)) k c2 (n := n + 1 + 1) (m := 5) (by omega) (by omega) (by decide) (by decide)
      have ap : ∀ {c n}, mtV .append (.r 2) [.d (.tup [.str s, .int (w : Nat)])] (dk (rest Fs (Ls.eraseIdx a)) c n) = .ok (.d .non) (dk (rest (Fs ++ [(s, w)]) (Ls.eraseIdx a)) c n) := fun {c n} => by
        rw [ap_r rs2 (by unfold enc; rw [List.length_map, List.length_map]; omega), rs2s]
      refine ⟨some (.d (.str s)), Fs ++ [(s, w)], Ls.eraseIdx a, c4, n + 1 + 1 + 1, ?_, by omega, by omega, fun q hq => ?_, hLe, by omega, by simp⟩
      · simp (disch := first | omega | (simp only [List.length_append, List.length_cons, List.length_nil]; omega)) only [mB, xs_cons, xs_nil, nxt_nx, nxt_rt, nxt_bk, nxt_ct, x_asg, x_set, x_aug, au_i, au_s, x_ex, x_ret, x_iff, x_forr, x_whil, x_par, x_pass, x_brk, x_cnt, q_var, gv, q_con, q_glo, q_tup, q_lst, q_bin, neg_i, q_cmp, q_and, q_or, q_not, q_ite, q_idx, ik_r, ik_s, ik_l, ik_t, ik_ds, c_ind, q_dct, q_slc, pv_t, pv_f, q_rev, q_call, q_bi, q_mth, q_isi, q_cmpr, q_nil, q_cons, y_ex, y_rng, y_rng3, turn_nm, lturn_nm, lturn_tup, forL_wkL, fd_nil, fd_cons, fx_nx, fx_ct, fx_bk, fx_rt, as_nm, as_tup, as_tupl, as_nil, as_cons, wp_nil, wp_cons, pa_nil', pa_cons', List.map_cons, List.map_nil, List.replicate, List.cons_append, List.nil_append, Nat.reduceSub, Nat.reduceAdd, List.getElem?_cons_zero, List.getElem?_cons_succ, List.set_cons_zero, List.set_cons_succ, r_ok, r_opt, b_add, b_sub, b_mul, b_div, b_mod, b_adds, c_lt, c_le, c_gt, c_ge, c_eq, c_ne, c_eqs, c_nes, c_ins, c_nis, v_b, t_b, l_s, l_l, l_t, i_s, i_l, i_t, m_t, m_r, dt_n, dt_c, datas_map, o_some, ob_some, w_rng, w_rng3, w_str, w_tup, w_lst, sl_s, sl_t, sl_l, n_b, n_i, tu_l, mn_i, k_s, k_i, k_b, k_t, decide_true, decide_false, Bool.not_true, Bool.not_false, l_r rs3, List.length_map, z1, e1, p1, e2, z2, e4, ap]
      · rcases List.mem_append.mp hq with hq | hq
        · exact hF q hq
        · have : q = (s, w) := by simpa using hq
          rw [this]
          exact hsu.1
  · have z1 : decide ((1 : Int) < ((Ls.length : Nat) : Int)) = false := decide_eq_false (by omega)
    refine ⟨x4, Fs, Ls, c, n, ?_, h0, by omega, hF, hL, hl, by omega⟩
    simp (disch := first | omega | (simp only [List.length_append, List.length_cons, List.length_nil]; omega)) only [mB, xs_cons, xs_nil, nxt_nx, nxt_rt, nxt_bk, nxt_ct, x_asg, x_set, x_aug, au_i, au_s, x_ex, x_ret, x_iff, x_forr, x_whil, x_par, x_pass, x_brk, x_cnt, q_var, gv, q_con, q_glo, q_tup, q_lst, q_bin, neg_i, q_cmp, q_and, q_or, q_not, q_ite, q_idx, ik_r, ik_s, ik_l, ik_t, ik_ds, c_ind, q_dct, q_slc, pv_t, pv_f, q_rev, q_call, q_bi, q_mth, q_isi, q_cmpr, q_nil, q_cons, y_ex, y_rng, y_rng3, turn_nm, lturn_nm, lturn_tup, forL_wkL, fd_nil, fd_cons, fx_nx, fx_ct, fx_bk, fx_rt, as_nm, as_tup, as_tupl, as_nil, as_cons, wp_nil, wp_cons, pa_nil', pa_cons', List.map_cons, List.map_nil, List.replicate, List.cons_append, List.nil_append, Nat.reduceSub, Nat.reduceAdd, List.getElem?_cons_zero, List.getElem?_cons_succ, List.set_cons_zero, List.set_cons_succ, r_ok, r_opt, b_add, b_sub, b_mul, b_div, b_mod, b_adds, c_lt, c_le, c_gt, c_ge, c_eq, c_ne, c_eqs, c_nes, c_ins, c_nis, v_b, t_b, l_s, l_l, l_t, i_s, i_l, i_t, m_t, m_r, dt_n, dt_c, datas_map, o_some, ob_some, w_rng, w_rng3, w_str, w_tup, w_lst, sl_s, sl_t, sl_l, n_b, n_i, tu_l, mn_i, k_s, k_i, k_b, k_t, decide_true, decide_false, Bool.not_true, Bool.not_false, l_r rs3, List.length_map, z1]
def L0 : List (List Nat) := [[48, 49, 50, 51, 52, 53, 54, 55, 56, 57], [32], [97, 98, 99], [109, 119], [120, 121, 122], [44, 46], [45], [87], [105, 105], [39]]
theorem uni_none {s : List Nat} (h : s.all (fun c => !(decide (48 ≤ c) && decide (c ≤ 57))) = true) : uni s := by
  have n : ∀ c, 48 ≤ c → c ≤ 57 → s.contains c = false := fun c a1 a2 => by
    cases q : s.contains c with
    | false => rfl
    | true =>
      have hm : c ∈ s := by simpa using q
      have := List.all_eq_true.mp h c hm
      simp at this
      omega
  intro c d a1 a2 a3 a4
  rw [n c a1 a2, n d a3 a4]
theorem uni_all : uni [48, 49, 50, 51, 52, 53, 54, 55, 56, 57] := by
  have n : ∀ c, 48 ≤ c → c ≤ 57 → ([48, 49, 50, 51, 52, 53, 54, 55, 56, 57] : List Nat).contains c = true := fun c a1 a2 => by
    have : c = 48 ∨ c = 49 ∨ c = 50 ∨ c = 51 ∨ c = 52 ∨ c = 53 ∨ c = 54 ∨ c = 55 ∨ c = 56 ∨ c = 57 := by omega
    rcases this with rfl | rfl | rfl | rfl | rfl | rfl | rfl | rfl | rfl | rfl <;> rfl
  intro c d a1 a2 a3 a4
  rw [n c a1 a2, n d a3 a4]
theorem L0_uni : UniL L0 := by
  intro s hs
  unfold L0 at hs
  simp only [List.mem_cons, List.not_mem_nil, or_false] at hs
  rcases hs with rfl | rfl | rfl | rfl | rfl | rfl | rfl | rfl | rfl | rfl
  · exact ⟨uni_all, by decide⟩
  all_goals exact ⟨uni_none (by decide), by decide⟩
theorem measure_ok (k : Nat) (c : List Int) {n : Int} (h0 : 0 ≤ n) (h1 : n < 100) : ∃ Ms r c' n', callN pr (k + 2) 9 [.r 1] (dk [] c n) = .ok (.d (.tup (enc Ms))) (dk r c' n') ∧ 0 ≤ n' ∧ n' ≤ n + 40 ∧ Uni Ms := by
  rw [call_imp (fn := cOf c9) rfl rfl]
  show ∃ Ms r c' n', runB _ ⟨1, 5, false, b9⟩ _ _ = _ ∧ _
  rw [runB_eq rfl]
  obtain ⟨t, c1, e1, l1⟩ := draw_ex (rest [] L0) k c (n := n) (m := 7) h0 (by omega) (by decide) (by decide)
  obtain ⟨s5, m5, e5, x3, x4, Fs, Ls, c5, n5, hs5, hm5, g1, g2, hFu, hLu, hll, hfl⟩ := forD_inv (f := fun v => lturn ⟨callN pr (k + 1), pr.glo, WF⟩ (.nm 3) mB (.v v))
    (fun j s m => ∃ (x3 x4 : Option Val) (Fs : List (List Nat × Nat)) (Ls : List (List Nat)) (c : List Int) (n2 : Int), s = [some (.r 1), some (.r 2), some (.r 3), x3, x4] ∧ m = dk (rest Fs Ls) c n2 ∧ 0 ≤ n2 ∧ n2 ≤ n + 1 + 4 * (j : Nat) ∧ Uni Fs ∧ UniL Ls ∧ Ls.length ≤ 100 ∧ Fs.length ≤ j)
    ((List.range (((t : Nat) : Int) - 0).toNat).map fun (j : Nat) => .d (.int (0 + (j : Int)))) 0 [some (.r 1), some (.r 2), some (.r 3), none, none] (dk (rest [] L0) c1 (n + 1))
    (by
      rintro i v s m hv ⟨x3, x4, Fs, Ls, c, n2, rfl, rfl, a1, a2, a3, a4, a5, a6⟩
      have hi : i < 7 := by
        have := (List.getElem?_eq_some_iff.mp hv).1
        simp only [List.length_map, List.length_range] at this
        omega
      obtain ⟨x4', Fs', Ls', c', n', e, b1, b2, b3, b4, b5, b6⟩ := measure_turn k (x3 := some v) (x4 := x4) c a1 (by omega) a3 a4 a5 (by omega)
      exact ⟨_, _, e, some v, x4', Fs', Ls', c', n', rfl, rfl, b1, by omega, b3, b4, b5, by omega⟩)
    ⟨none, none, [], L0, c1, n + 1, rfl, rfl, by omega, by omega, (fun q hq => by cases hq), L0_uni, by decide, by decide⟩
  subst hs5 hm5
  rw [List.length_map, List.length_range] at g2
  refine ⟨Fs, rest Fs Ls, c5, n5, ?_, g1, by omega, hFu⟩
  have m0 : dk [] c n ++ [Ob.lst []] ++ [Ob.lst [.d (.str [48, 49, 50, 51, 52, 53, 54, 55, 56, 57]), .d (.str [32]), .d (.str [97, 98, 99]), .d (.str [109, 119]), .d (.str [120, 121, 122]), .d (.str [44, 46]), .d (.str [45]), .d (.str [87]), .d (.str [105, 105]), .d (.str [39])]] = dk (rest [] L0) c n := rfl
  have ln0 : (dk [] c n).length = 2 := rfl
  have ln1 : (dk [] c n ++ [Ob.lst []]).length = 3 := rfl
  simp (disch := first | omega | (simp only [List.length_append, List.length_cons, List.length_nil]; omega)) only [b9, xs_cons, xs_nil, nxt_nx, nxt_rt, nxt_bk, nxt_ct, x_asg, x_set, x_aug, au_i, au_s, x_ex, x_ret, x_iff, x_forr, x_whil, x_par, x_pass, x_brk, x_cnt, q_var, gv, q_con, q_glo, q_tup, q_lst, q_bin, neg_i, q_cmp, q_and, q_or, q_not, q_ite, q_idx, ik_r, ik_s, ik_l, ik_t, ik_ds, c_ind, q_dct, q_slc, pv_t, pv_f, q_rev, q_call, q_bi, q_mth, q_isi, q_cmpr, q_nil, q_cons, y_ex, y_rng, y_rng3, turn_nm, lturn_nm, lturn_tup, forL_wkL, fd_nil, fd_cons, fx_nx, fx_ct, fx_bk, fx_rt, as_nm, as_tup, as_tupl, as_nil, as_cons, wp_nil, wp_cons, pa_nil', pa_cons', List.map_cons, List.map_nil, List.replicate, List.cons_append, List.nil_append, Nat.reduceSub, Nat.reduceAdd, List.getElem?_cons_zero, List.getElem?_cons_succ, List.set_cons_zero, List.set_cons_succ, r_ok, r_opt, b_add, b_sub, b_mul, b_div, b_mod, b_adds, c_lt, c_le, c_gt, c_ge, c_eq, c_ne, c_eqs, c_nes, c_ins, c_nis, v_b, t_b, l_s, l_l, l_t, i_s, i_l, i_t, m_t, m_r, dt_n, dt_c, datas_map, o_some, ob_some, w_rng, w_rng3, w_str, w_tup, w_lst, sl_s, sl_t, sl_l, n_b, n_i, tu_l, mn_i, k_s, k_i, k_b, k_t, decide_true, decide_false, Bool.not_true, Bool.not_false, ln0, ln1, m0, e1]
  rw [e5]
  simp (disch := first | omega | (simp only [List.length_append, List.length_cons, List.length_nil]; omega)) only [xs_cons, xs_nil, nxt_nx, nxt_rt, nxt_bk, nxt_ct, x_asg, x_set, x_aug, au_i, au_s, x_ex, x_ret, x_iff, x_forr, x_whil, x_par, x_pass, x_brk, x_cnt, q_var, gv, q_con, q_glo, q_tup, q_lst, q_bin, neg_i, q_cmp, q_and, q_or, q_not, q_ite, q_idx, ik_r, ik_s, ik_l, ik_t, ik_ds, c_ind, q_dct, q_slc, pv_t, pv_f, q_rev, q_call, q_bi, q_mth, q_isi, q_cmpr, q_nil, q_cons, y_ex, y_rng, y_rng3, turn_nm, lturn_nm, lturn_tup, forL_wkL, fd_nil, fd_cons, fx_nx, fx_ct, fx_bk, fx_rt, as_nm, as_tup, as_tupl, as_nil, as_cons, wp_nil, wp_cons, pa_nil', pa_cons', List.map_cons, List.map_nil, List.replicate, List.cons_append, List.nil_append, Nat.reduceSub, Nat.reduceAdd, List.getElem?_cons_zero, List.getElem?_cons_succ, List.set_cons_zero, List.set_cons_succ, r_ok, r_opt, b_add, b_sub, b_mul, b_div, b_mod, b_adds, c_lt, c_le, c_gt, c_ge, c_eq, c_ne, c_eqs, c_nes, c_ins, c_nis, v_b, t_b, l_s, l_l, l_t, i_s, i_l, i_t, m_t, m_r, dt_n, dt_c, datas_map, o_some, ob_some, w_rng, w_rng3, w_str, w_tup, w_lst, sl_s, sl_t, sl_l, n_b, n_i, tu_l, mn_i, k_s, k_i, k_b, k_t, decide_true, decide_false, Bool.not_true, Bool.not_false, tu_r rs2 (datas_map _)]
/-! ### the law -/
abbrev lawB : Sts := (.cons (.asg (.nm 5) (.call 7 (.cons (.var 1) (.cons (.con (.int 3)) .nil)))) (.cons (.asg (.nm 6) (.call 7 (.cons (.var 1) (.cons (.idx (.lst true (.cons (.con (.int 10)) (.cons (.con (.int 100)) (.cons (.con (.int 1000)) (.cons (.bin true .pow (.con (.int 10)) (.con (.int 4))) (.cons (.bin true .pow (.con (.int 10)) (.con (.int 6))) (.cons (.bin true .pow (.con (.int 10)) (.con (.int 9))) (.cons (.bin true .pow (.con (.int 10)) (.con (.int 12))) .nil)))))))) (.call 7 (.cons (.var 1) (.cons (.con (.int 7)) .nil)))) .nil)))) (.cons (.asg (.nm 7) (.bi true .min2 (.cons (.bin true .pow (.con (.int 10)) (.con (.int 12))) (.cons (.bin true .add (.var 6) (.call 7 (.cons (.var 1) (.cons (.idx (.lst true (.cons (.con (.int 2)) (.cons (.con (.int 10)) (.cons (.con (.int 1000)) (.cons (.bin true .pow (.con (.int 10)) (.con (.int 12))) .nil))))) (.call 7 (.cons (.var 1) (.cons (.con (.int 4)) .nil)))) .nil)))) .nil)))) (.cons (.asg (.nm 8) (.call 5 (.cons (.var 2) (.cons (.call 1 (.cons (.var 3) (.cons (.tup (.cons (.var 6) (.cons (.var 5) .nil))) .nil))) .nil)))) (.cons (.asg (.nm 9) (.call 5 (.cons (.var 2) (.cons (.call 1 (.cons (.var 3) (.cons (.tup (.cons (.var 7) (.cons (.var 5) .nil))) .nil))) .nil)))) (.cons (.iff (.cmp .gt (.var 8) (.var 9)) (.cons (.ret (.con (.bl false))) .nil) .nil) (.cons (.asg (.nm 10) (.idx (.lst true (.cons (.con (.int 1)) (.cons (.con (.int 10)) (.cons (.con (.int 100)) .nil)))) (.var 5))) (.cons (.iff (.and (.cmp .eq (.bi true .len (.cons (.bi true .str (.cons (.bin true .div (.var 6) (.var 10)) .nil)) .nil)) (.bi true .len (.cons (.bi true .str (.cons (.bin true .div (.var 7) (.var 10)) .nil)) .nil))) (.cmp .ne (.var 8) (.var 9))) (.cons (.ret (.con (.bl false))) .nil) .nil) (.cons (.asg (.nm 11) (.tup (.cons (.call 7 (.cons (.var 1) (.cons (.con (.int 10000)) .nil))) (.cons (.bin true .add (.con (.int 1)) (.call 7 (.cons (.var 1) (.cons (.con (.int 12)) .nil)))) (.cons (.bin true .add (.con (.int 1)) (.call 7 (.cons (.var 1) (.cons (.con (.int 31)) .nil)))) .nil))))) (.cons (.iff (.cmp .gt (.call 5 (.cons (.var 2) (.cons (.call 3 (.cons (.var 3) (.cons (.var 11) .nil))) .nil))) (.call 5 (.cons (.var 2) (.cons (.call 3 (.cons (.var 3) (.cons (.tup (.cons (.con (.int 9999)) (.cons (.con (.int 12)) (.cons (.con (.int 31)) .nil)))) .nil))) .nil)))) (.cons (.ret (.con (.bl false))) .nil) .nil) .nil))))))))))
theorem turn_ok (r : Mem) (k : Nat) {scr : Val} {Ms : List (List Nat × Nat)} {g p P : List Nat} {w : D} {x4 x5 x6 x7 x8 x9 x10 x11 : Option Val} (c : List Int) {n : Int} (h0 : 0 ≤ n) (h1 : n < 1000) (hu : Uni Ms) (hgl : g.length ≤ 1) (hpl : p.length ≤ 1) (hP : P.length ≤ 13) :
    ∃ x5' x6' x7' x8' x9' x10' x11' c' n', exSs ⟨callN pr (k + 2), pr.glo, WF⟩ lawB [some scr, some (.r 1), some (.d (.tup (enc Ms))), some (.d (.tup [.str g, .str p, .str P, w])), x4, x5, x6, x7, x8, x9, x10, x11] (dk r c n) =
      .ok (.nx [some scr, some (.r 1), some (.d (.tup (enc Ms))), some (.d (.tup [.str g, .str p, .str P, w])), x4, x5', x6', x7', x8', x9', x10', x11']) (dk r c' n') ∧ 0 ≤ n' ∧ n' ≤ n + 20 := by
  have pw : ∀ (e : Nat) (M : Mem), e ≤ 12 → binV true .pow (.d (.int 10)) (.d (.int (e : Nat))) M = .ok (.d (.int ((10 : Int) ^ e))) M := fun e M he => by
    rw [b_pow (by omega) (by omega) (by decide)]
    rfl
  have p4 : ∀ M, binV true .pow (.d (.int 10)) (.d (.int 4)) M = .ok (.d (.int ((10 : Int) ^ 4))) M := fun M => pw 4 M (by decide)
  have p6 : ∀ M, binV true .pow (.d (.int 10)) (.d (.int 6)) M = .ok (.d (.int ((10 : Int) ^ 6))) M := fun M => pw 6 M (by decide)
  have p9 : ∀ M, binV true .pow (.d (.int 10)) (.d (.int 9)) M = .ok (.d (.int ((10 : Int) ^ 9))) M := fun M => pw 9 M (by decide)
  have p12 : ∀ M, binV true .pow (.d (.int 10)) (.d (.int 12)) M = .ok (.d (.int ((10 : Int) ^ 12))) M := fun M => pw 12 M (by decide)
  obtain ⟨d, c1, e1, l1⟩ := draw_ex r (k + 1) c (n := n) (m := 3) h0 (by omega) (by decide) (by decide)
  obtain ⟨a, c2, e2, l2⟩ := draw_ex r (k + 1) c1 (n := n + 1) (m := 7) (by omega) (by omega) (by decide) (by decide)
  obtain ⟨q, hq, q1, q2⟩ : ∃ q : Int, atL [D.int 10, .int 100, .int 1000, .int ((10 : Int) ^ 4), .int ((10 : Int) ^ 6), .int ((10 : Int) ^ 9), .int ((10 : Int) ^ 12)] ((a : Nat) : Int) = some (.int q) ∧ 0 < q ∧ q ≤ 1000000000000 := by
    rcases (show a = 0 ∨ a = 1 ∨ a = 2 ∨ a = 3 ∨ a = 4 ∨ a = 5 ∨ a = 6 by omega) with rfl | rfl | rfl | rfl | rfl | rfl | rfl
    · exact ⟨_, rfl, by decide, by decide⟩
    · exact ⟨_, rfl, by decide, by decide⟩
    · exact ⟨_, rfl, by decide, by decide⟩
    · exact ⟨_, rfl, by decide, by decide⟩
    · exact ⟨_, rfl, by decide, by decide⟩
    · exact ⟨_, rfl, by decide, by decide⟩
    · exact ⟨_, rfl, by decide, by decide⟩
  obtain ⟨N, c3', e3, l3⟩ := draw_ex r (k + 1) c2 (n := n + 1 + 1) (m := q) (by omega) (by omega) q1 (by omega)
  obtain ⟨b, c4', e4, l4⟩ := draw_ex r (k + 1) c3' (n := n + 1 + 1 + 1) (m := 4) (by omega) (by omega) (by decide) (by decide)
  obtain ⟨q', hq', q1', q2'⟩ : ∃ q : Int, atL [D.int 2, .int 10, .int 1000, .int ((10 : Int) ^ 12)] ((b : Nat) : Int) = some (.int q) ∧ 0 < q ∧ q ≤ 1000000000000 := by
    rcases (show b = 0 ∨ b = 1 ∨ b = 2 ∨ b = 3 by omega) with rfl | rfl | rfl | rfl
    · exact ⟨_, rfl, by decide, by decide⟩
    · exact ⟨_, rfl, by decide, by decide⟩
    · exact ⟨_, rfl, by decide, by decide⟩
    · exact ⟨_, rfl, by decide, by decide⟩
  obtain ⟨x, c5', e5, l5⟩ := draw_ex r (k + 1) c4' (n := n + 1 + 1 + 1 + 1) (m := q') (by omega) (by omega) q1' (by omega)
  obtain ⟨R, hR, hNR, hR12⟩ : ∃ R : Nat, (if ((N : Nat) : Int) + ((x : Nat) : Int) < (10 : Int) ^ 12 then ((N : Nat) : Int) + ((x : Nat) : Int) else (10 : Int) ^ 12) = ((R : Nat) : Int) ∧ N ≤ R ∧ R ≤ 10 ^ 12 := by
    by_cases h : ((N : Nat) : Int) + ((x : Nat) : Int) < (10 : Int) ^ 12
    · rw [if_pos h]
      exact ⟨N + x, by omega, by omega, by omega⟩
    · rw [if_neg h]
      exact ⟨10 ^ 12, by omega, by omega, Nat.le_refl _⟩
  have hN12 : N ≤ 10 ^ 12 := Nat.le_trans hNR hR12
  have hd : d ≤ 2 := by omega
  obtain ⟨y, c6', e6, l6⟩ := draw_ex r (k + 1) c5' (n := n + 1 + 1 + 1 + 1 + 1) (m := 10000) (by omega) (by omega) (by decide) (by decide)
  obtain ⟨m, c7', e7, l7⟩ := draw_ex r (k + 1) c6' (n := n + 1 + 1 + 1 + 1 + 1 + 1) (m := 12) (by omega) (by omega) (by decide) (by decide)
  obtain ⟨dd, c8', e8, l8⟩ := draw_ex r (k + 1) c7' (n := n + 1 + 1 + 1 + 1 + 1 + 1 + 1) (m := 31) (by omega) (by omega) (by decide) (by decide)
  have sN : ∀ M, callN pr (k + 2) 1 [.d (.tup [.str g, .str p, .str P, w]), .d (.tup [.int (N : Nat), .int (d : Nat)])] M = .ok (.d (.str (saidT g p N d))) M := fun M => said_ok k (u := .str P) (v := w) M hN12 hd hgl hpl
  have sR : ∀ M, callN pr (k + 2) 1 [.d (.tup [.str g, .str p, .str P, w]), .d (.tup [.int (R : Nat), .int (d : Nat)])] M = .ok (.d (.str (saidT g p R d))) M := fun M => said_ok k (u := .str P) (v := w) M hR12 hd hgl hpl
  have wN := fun M => width_ok k Ms (saidT g p N d) M (Nat.le_trans (saidT_len hN12 hd hgl hpl) (by decide))
  have wR := fun M => width_ok k Ms (saidT g p R d) M (Nat.le_trans (saidT_len hR12 hd hgl hpl) (by decide))
  have le := said_le hu g p hd hNR
  have same := said_same hu g p (N := N) (R := R) hd
  have z1 : decide (((wd Ms (saidT g p R d) : Nat) : Int) < ((wd Ms (saidT g p N d) : Nat) : Int)) = false := decide_eq_false (by omega)
  have ten : atL [D.int 1, .int 10, .int 100] ((d : Nat) : Int) = some (.int ((10 ^ d : Nat) : Int)) ∧ 0 < 10 ^ d ∧ 10 ^ d ≤ 100 := by
    rcases (show d = 0 ∨ d = 1 ∨ d = 2 by omega) with rfl | rfl | rfl
    · exact ⟨rfl, by decide, by decide⟩
    · exact ⟨rfl, by decide, by decide⟩
    · exact ⟨rfl, by decide, by decide⟩
  obtain ⟨t1, t2, t3⟩ := ten
  have dv : ∀ (X : Nat) (M : Mem), binV true .div (.d (.int (X : Nat))) (.d (.int ((10 ^ d : Nat) : Int))) M = .ok (.d (.int ((X / 10 ^ d : Nat) : Int))) M := fun X M => by
    rw [b_div (by omega) (by omega)]
    rfl
  have sd : ∀ {X : Nat}, X ≤ 10 ^ 12 → ∀ (z : Bool) (M : Mem), biV z .str [.d (.int ((X / 10 ^ d : Nat) : Int))] M = .ok (.d (.str (nd (X / 10 ^ d)))) M := fun {X} h => str_nd (Nat.le_trans (Nat.div_le_self _ _) h)
  have dN := sd hN12
  have dR := sd hR12
  have dvN := dv N
  have dvR := dv R
  have m1 : (1 : Int) + ((m : Nat) : Int) = ((m + 1 : Nat) : Int) := by omega
  have d1 : (1 : Int) + ((dd : Nat) : Int) = ((dd + 1 : Nat) : Int) := by omega
  have day1 := fun M => said_day_ok k (g := .str g) (p := .str p) (w := w) M (show y ≤ 9999 by omega) (show m + 1 ≤ 9999 by omega) (show dd + 1 ≤ 9999 by omega) (show P.length ≤ 100 by omega)
  have day2 : ∀ M, callN pr (k + 2) 3 [.d (.tup [.str g, .str p, .str P, w]), .d (.tup [.int 9999, .int 12, .int 31])] M = .ok (.d (.str ((P.map (sgn 9999 12 31)).flatten))) M := fun M => said_day_ok k (g := .str g) (p := .str p) (w := w) (y := 9999) (m := 12) (d := 31) M (by decide) (by decide) (by decide) (show P.length ≤ 100 by omega)
  have fl : ∀ {y m d : Nat}, y ≤ 9999 → m ≤ 9999 → d ≤ 9999 → ((P.map (sgn y m d)).flatten).length ≤ 10000 := fun a b c => by
    rw [List.length_flatten]
    have := sum_le a b c P
    omega
  have w1 := fun M => width_ok k Ms ((P.map (sgn y (m + 1) (dd + 1))).flatten) M (fl (by omega) (by omega) (by omega))
  have w2 := fun M => width_ok k Ms ((P.map (sgn 9999 12 31)).flatten) M (fl (by decide) (by decide) (by decide))
  have dle := day_le hu (show y ≤ 9999 by omega) (show m + 1 ≤ 12 by omega) (show dd + 1 ≤ 31 by omega) P
  have z2 : decide (((wd Ms ((P.map (sgn 9999 12 31)).flatten) : Nat) : Int) < ((wd Ms ((P.map (sgn y (m + 1) (dd + 1))).flatten) : Nat) : Int)) = false := decide_eq_false (by omega)
  generalize saidT g p N d = TN at sN wN le same z1
  generalize saidT g p R d = TR at sR wR le same z1
  generalize (P.map (sgn y (m + 1) (dd + 1))).flatten = T1 at day1 w1 dle z2
  generalize (P.map (sgn 9999 12 31)).flatten = T2 at day2 w2 dle z2
  generalize nd (N / 10 ^ d) = A at dN same
  generalize nd (R / 10 ^ d) = B at dR same
  refine ⟨some (.d (.int (d : Nat))), some (.d (.int (N : Nat))), some (.d (.int (R : Nat))), some (.d (.int (wd Ms TN : Nat))), some (.d (.int (wd Ms TR : Nat))), some (.d (.int ((10 ^ d : Nat) : Int))), some (.d (.tup [.int (y : Nat), .int ((m + 1 : Nat) : Int), .int ((dd + 1 : Nat) : Int)])), c8', n + 1 + 1 + 1 + 1 + 1 + 1 + 1 + 1, ?_, by omega, by omega⟩
  by_cases hAB : A.length = B.length
  · have z3 : decide (((A.length : Nat) : Int) = ((B.length : Nat) : Int)) = true := decide_eq_true (by omega)
    have z4 : decide (((wd Ms TN : Nat) : Int) = ((wd Ms TR : Nat) : Int)) = true := decide_eq_true (by rw [same hAB])
    simp (disch := first | omega | (simp only [List.length_append, List.length_cons, List.length_nil]; omega)) only [lawB, xs_cons, xs_nil, nxt_nx, nxt_rt, nxt_bk, nxt_ct, x_asg, x_set, x_aug, au_i, au_s, x_ex, x_ret, x_iff, x_forr, x_whil, x_par, x_pass, x_brk, x_cnt, q_var, gv, q_con, q_glo, q_tup, q_lst, q_bin, neg_i, q_cmp, q_and, q_or, q_not, q_ite, q_idx, ik_r, ik_s, ik_l, ik_t, ik_ds, c_ind, q_dct, q_slc, pv_t, pv_f, q_rev, q_call, q_bi, q_mth, q_isi, q_cmpr, q_nil, q_cons, y_ex, y_rng, y_rng3, turn_nm, lturn_nm, lturn_tup, forL_wkL, fd_nil, fd_cons, fx_nx, fx_ct, fx_bk, fx_rt, as_nm, as_tup, as_tupl, as_nil, as_cons, wp_nil, wp_cons, pa_nil', pa_cons', List.map_cons, List.map_nil, List.replicate, List.cons_append, List.nil_append, Nat.reduceSub, Nat.reduceAdd, List.getElem?_cons_zero, List.getElem?_cons_succ, List.set_cons_zero, List.set_cons_succ, r_ok, r_opt, b_add, b_sub, b_mul, b_div, b_mod, b_adds, c_lt, c_le, c_gt, c_ge, c_eq, c_ne, c_eqs, c_nes, c_ins, c_nis, v_b, t_b, l_s, l_l, l_t, i_s, i_l, i_t, m_t, m_r, dt_n, dt_c, datas_map, o_some, ob_some, w_rng, w_rng3, w_str, w_tup, w_lst, sl_s, sl_t, sl_l, n_b, n_i, tu_l, mn_i, k_s, k_i, k_b, k_t, decide_true, decide_false, Bool.not_true, Bool.not_false, e1, e2, e3, e4, e5, e6, e7, e8, p4, p6, p9, p12, hq, hq', hR, sN, sR, wN, wR, z1, t1, dvN, dvR, dN, dR, z3, z4, m1, d1, day1, day2, w1, w2, z2]
  · have z3 : decide (((A.length : Nat) : Int) = ((B.length : Nat) : Int)) = false := decide_eq_false (by omega)
    simp (disch := first | omega | (simp only [List.length_append, List.length_cons, List.length_nil]; omega)) only [lawB, xs_cons, xs_nil, nxt_nx, nxt_rt, nxt_bk, nxt_ct, x_asg, x_set, x_aug, au_i, au_s, x_ex, x_ret, x_iff, x_forr, x_whil, x_par, x_pass, x_brk, x_cnt, q_var, gv, q_con, q_glo, q_tup, q_lst, q_bin, neg_i, q_cmp, q_and, q_or, q_not, q_ite, q_idx, ik_r, ik_s, ik_l, ik_t, ik_ds, c_ind, q_dct, q_slc, pv_t, pv_f, q_rev, q_call, q_bi, q_mth, q_isi, q_cmpr, q_nil, q_cons, y_ex, y_rng, y_rng3, turn_nm, lturn_nm, lturn_tup, forL_wkL, fd_nil, fd_cons, fx_nx, fx_ct, fx_bk, fx_rt, as_nm, as_tup, as_tupl, as_nil, as_cons, wp_nil, wp_cons, pa_nil', pa_cons', List.map_cons, List.map_nil, List.replicate, List.cons_append, List.nil_append, Nat.reduceSub, Nat.reduceAdd, List.getElem?_cons_zero, List.getElem?_cons_succ, List.set_cons_zero, List.set_cons_succ, r_ok, r_opt, b_add, b_sub, b_mul, b_div, b_mod, b_adds, c_lt, c_le, c_gt, c_ge, c_eq, c_ne, c_eqs, c_nes, c_ins, c_nis, v_b, t_b, l_s, l_l, l_t, i_s, i_l, i_t, m_t, m_r, dt_n, dt_c, datas_map, o_some, ob_some, w_rng, w_rng3, w_str, w_tup, w_lst, sl_s, sl_t, sl_l, n_b, n_i, tu_l, mn_i, k_s, k_i, k_b, k_t, decide_true, decide_false, Bool.not_true, Bool.not_false, e1, e2, e3, e4, e5, e6, e7, e8, p4, p6, p9, p12, hq, hq', hR, sN, sR, wN, wR, z1, t1, dvN, dvR, dN, dR, z3, m1, d1, day1, day2, w1, w2, z2]
theorem law_ok (ns : List Int) : ∃ M, callN pr 40 10 [.d (.scr ns)] [] = .ok (.d (.bl true)) M := by
  rw [call_imp (k := 39) (fn := cOf c10) rfl rfl]
  show ∃ M, runB _ ⟨1, 12, false, b10⟩ _ _ = _
  rw [runB_eq rfl]
  obtain ⟨c, e0⟩ := deck_ex 38 ns
  obtain ⟨Ms, r, c1, n1, e1, a1, a2, hu⟩ := measure_ok 37 c (n := 0) (by decide) (by decide)
  obtain ⟨g, p, P, w, c2, n2, e2, b1, b2, hgl, hpl, hg, hp, hP⟩ := manner_ok r 37 c1 (n := n1) a1 (by omega)
  obtain ⟨s5, m5, e5, y4, y5, y6, y7, y8, y9, y10, y11, c5, n5, hs5, hm5, hn5⟩ := forD_inv (f := fun v => lturn ⟨callN pr 39, pr.glo, WF⟩ (.nm 4) lawB (.v v))
    (fun j s m => ∃ (x4 x5 x6 x7 x8 x9 x10 x11 : Option Val) (c : List Int) (n : Int), s = [some (.d (.scr ns)), some (.r 1), some (.d (.tup (enc Ms))), some (.d (.tup [.str g, .str p, .str P, w])), x4, x5, x6, x7, x8, x9, x10, x11] ∧ m = dk r c n ∧ 0 ≤ n ∧ n ≤ 100 + 20 * (j : Nat))
    ((List.range ((8 : Int) - 0).toNat).map fun (j : Nat) => .d (.int (0 + (j : Int)))) 0 [some (.d (.scr ns)), some (.r 1), some (.d (.tup (enc Ms))), some (.d (.tup [.str g, .str p, .str P, w])), none, none, none, none, none, none, none, none] (dk r c2 n2)
    (by
      rintro i v s m hv ⟨x4, x5, x6, x7, x8, x9, x10, x11, c, n, rfl, rfl, h0, h1⟩
      have hi : i < 8 := by
        have := (List.getElem?_eq_some_iff.mp hv).1
        simp only [List.length_map, List.length_range] at this
        omega
      obtain ⟨z5, z6, z7, z8, z9, z10, z11, c', n', e, h2, h3⟩ := turn_ok r 37 (scr := .d (.scr ns)) (g := g) (p := p) (P := P) (w := w) (x4 := some v) (x5 := x5) (x6 := x6) (x7 := x7) (x8 := x8) (x9 := x9) (x10 := x10) (x11 := x11) c h0 (by omega) hu hgl hpl hP
      exact ⟨_, _, e, some v, z5, z6, z7, z8, z9, z10, z11, c', n', rfl, rfl, h2, by omega⟩)
    ⟨none, none, none, none, none, none, none, none, c2, n2, rfl, rfl, b1, by omega⟩
  subst hs5 hm5
  refine ⟨dk r c5 n5, ?_⟩
  simp (disch := first | omega | (simp only [List.length_append, List.length_cons, List.length_nil]; omega)) only [b10, xs_cons, xs_nil, nxt_nx, nxt_rt, nxt_bk, nxt_ct, x_asg, x_set, x_aug, au_i, au_s, x_ex, x_ret, x_iff, x_forr, x_whil, x_par, x_pass, x_brk, x_cnt, q_var, gv, q_con, q_glo, q_tup, q_lst, q_bin, neg_i, q_cmp, q_and, q_or, q_not, q_ite, q_idx, ik_r, ik_s, ik_l, ik_t, ik_ds, c_ind, q_dct, q_slc, pv_t, pv_f, q_rev, q_call, q_bi, q_mth, q_isi, q_cmpr, q_nil, q_cons, y_ex, y_rng, y_rng3, turn_nm, lturn_nm, lturn_tup, forL_wkL, fd_nil, fd_cons, fx_nx, fx_ct, fx_bk, fx_rt, as_nm, as_tup, as_tupl, as_nil, as_cons, wp_nil, wp_cons, pa_nil', pa_cons', List.map_cons, List.map_nil, List.replicate, List.cons_append, List.nil_append, Nat.reduceSub, Nat.reduceAdd, List.getElem?_cons_zero, List.getElem?_cons_succ, List.set_cons_zero, List.set_cons_succ, r_ok, r_opt, b_add, b_sub, b_mul, b_div, b_mod, b_adds, c_lt, c_le, c_gt, c_ge, c_eq, c_ne, c_eqs, c_nes, c_ins, c_nis, v_b, t_b, l_s, l_l, l_t, i_s, i_l, i_t, m_t, m_r, dt_n, dt_c, datas_map, o_some, ob_some, w_rng, w_rng3, w_str, w_tup, w_lst, sl_s, sl_t, sl_l, n_b, n_i, tu_l, mn_i, k_s, k_i, k_b, k_t, decide_true, decide_false, Bool.not_true, Bool.not_false, e0, e1, e2]
  show ((forD (fun v => lturn ⟨callN pr 39, pr.glo, WF⟩ (.nm 4) lawB (.v v)) _ _ _).bind _).bind _ = _
  rw [e5]
  simp (disch := first | omega | (simp only [List.length_append, List.length_cons, List.length_nil]; omega)) only [xs_cons, xs_nil, nxt_nx, nxt_rt, nxt_bk, nxt_ct, x_asg, x_set, x_aug, au_i, au_s, x_ex, x_ret, x_iff, x_forr, x_whil, x_par, x_pass, x_brk, x_cnt, q_var, gv, q_con, q_glo, q_tup, q_lst, q_bin, neg_i, q_cmp, q_and, q_or, q_not, q_ite, q_idx, ik_r, ik_s, ik_l, ik_t, ik_ds, c_ind, q_dct, q_slc, pv_t, pv_f, q_rev, q_call, q_bi, q_mth, q_isi, q_cmpr, q_nil, q_cons, y_ex, y_rng, y_rng3, turn_nm, lturn_nm, lturn_tup, forL_wkL, fd_nil, fd_cons, fx_nx, fx_ct, fx_bk, fx_rt, as_nm, as_tup, as_tupl, as_nil, as_cons, wp_nil, wp_cons, pa_nil', pa_cons', List.map_cons, List.map_nil, List.replicate, List.cons_append, List.nil_append, Nat.reduceSub, Nat.reduceAdd, List.getElem?_cons_zero, List.getElem?_cons_succ, List.set_cons_zero, List.set_cons_succ, r_ok, r_opt, b_add, b_sub, b_mul, b_div, b_mod, b_adds, c_lt, c_le, c_gt, c_ge, c_eq, c_ne, c_eqs, c_nes, c_ins, c_nis, v_b, t_b, l_s, l_l, l_t, i_s, i_l, i_t, m_t, m_r, dt_n, dt_c, datas_map, o_some, ob_some, w_rng, w_rng3, w_str, w_tup, w_lst, sl_s, sl_t, sl_l, n_b, n_i, tu_l, mn_i, k_s, k_i, k_b, k_t, decide_true, decide_false, Bool.not_true, Bool.not_false]
end Rf.K15

theorem PySem.Challenge.cw_tonguehouse_k15_whole_written_ever_wider_holds : PySem.Challenge.rw_tonguehouse_k15_whole_written_ever_wider.Holds := by
  exact Rf.K15.row_of fun ns _ => Rf.K15.law_ok ns
